import Derived.Test.YtfbmbledklbfgaaGreatDoorQEncF
set_option linter.unusedVariables false
set_option linter.unusedSimpArgs false
namespace Go.Proofs.YtfbmbledklbfgaaGreatDoor
set_option maxRecDepth 100000
set_option maxHeartbeats 2000000
open Go.RowKit
def encS(x:It):ByteArray×Int:=
 if x.valid=false then(⟨#[]⟩,3)else if 32<x.depth then(⟨#[]⟩,7)else if 65536<x.bytes.length then(⟨#[]⟩,5)else(bstr x.bytes,0)
def RetSE(r:ByteArray×Int)(w:World)(e:Ending)(w':World):Prop:=e=.returned (.tuple #[.string r.1,.int .i64 r.2])∧Below w.heap.size w w'
theorem enc_Encode(x:It)(v:Value)(w:World)(ok:Nat→Prop)(hM:x.weight≤1000000000)(hx:ItAt w ok v x):Calls Tryz.prog 25 #[v] w (RetSE (encS x) w):=by
 obtain⟨A,len,cap,rfl,hs⟩:=hx;have hbd:=x.bytes_le;have hdd:=Nat.le_trans x.depth_le x.nodes_le;obtain⟨w1,hw1⟩:∃ w1,w.alloc (.cells #[.int .i64 x.kind,.string x.nat,.string x.text,.slice A len cap] 72)=w1:=⟨_,rfl⟩;have hbox:w1.heap[w.heap.size]? =some (.cells #[.int .i64 x.kind,.string x.nat,.string x.text,.slice A len cap] 72 (0,0)):=by rw[←hw1];exact heap_alloc_new _ _
 have hb1:Below w.heap.size w w1:=by rw[←hw1];exact(blr).alloc nlr _
 have hi1:ItAt w1 (fun b=>ok b∧b<w.heap.size) (.agg #[.int .i64 x.kind,.string x.nat,.string x.text,.slice A len cap]) x:=⟨A,len,cap,rfl,hs.bound.below hb1 nlr⟩;have HI1:=Hq hi1;have HB1:=Hq hb1;have HBOX:=Hq hbox;have HW1:=Hq hw1;obtain⟨b0,b1,b2,b3⟩:=four_cells hbox;clear hi1 hb1 hbox hw1 hs;have hz1:w.heap.size+1≤w1.heap.size:=block_lt HBOX.out
 cases hv:x.valid with
 | false =>
  have hr:encS x=(⟨#[]⟩,3):=by simp[encS,hv]
  rw[hr];have HV:=Hq hv;clear hr hv;go_enter Tryz.func25,Tryz.ntmps25;go_wp2_with fail;rw[HW1.out];refine(enc_valid _ x _ _ _ nlr (by omega) HI1.out).mono ?_;rintro e w2 ⟨rfl,hb2⟩;rw[HV.out];go_wp2;go_ret2;exact⟨rfl,HB1.out.trans (hb2.mono (by omega))⟩
 | true =>
  have HV:=Hq hv;by_cases hd:32<x.depth
  · have hr:encS x=(⟨#[]⟩,7):=by simp[encS,hv,hd]
    rw[hr];clear hr hv;go_enter Tryz.func25,Tryz.ntmps25;go_wp2_with fail;rw[HW1.out];refine(enc_valid _ x _ _ _ nlr (by omega) HI1.out).mono ?_;rintro e w2 ⟨rfl,hb2⟩;rw[HV.out];have HB2:=Hq hb2;obtain⟨q0,q1,q2,q3⟩:=four_cells (block_kept hb2 nlr HBOX.out);have hz2:=hb2.size;clear hb2 b0 b1 b2 b3;go_wp2_with fail;refine(enc_depth _ x _ _ _ nlr (by omega) (HI1.out.below HB2.out nlr)).mono ?_;rintro e w3 ⟨rfl,hb3⟩;have HB3:=Hq hb3;clear hb3;go_wp2;go_ret2;exact⟨rfl,(HB1.out.trans (HB2.out.mono (by omega))).trans (HB3.out.mono (by omega))⟩
  · by_cases hl:65536<x.bytes.length;all_goals
     first
     | (have hr : encS x = (⟨#[]⟩, 5) := by simp [encS, hv, hd, hl]
        rw[hr])
     | (have hr : encS x = (bstr x.bytes, 0) := by simp [encS, hv, hd, hl]
        rw[hr])
     clear hr hv;have hbs:=bstr_size x.bytes;rw[←hbs]at hl;have HBS:=Hq hbs;clear hbs;go_enter Tryz.func25,Tryz.ntmps25;go_wp2_with fail;rw[HW1.out];refine(enc_valid _ x _ _ _ nlr (by omega) HI1.out).mono ?_;rintro e w2 ⟨rfl,hb2⟩;rw[HV.out];have HB2:=Hq hb2;obtain⟨q0,q1,q2,q3⟩:=four_cells (block_kept hb2 nlr HBOX.out);have HBOX2:=Hq (block_kept hb2 nlr HBOX.out);have hz2:=hb2.size;clear hb2 b0 b1 b2 b3;go_wp2_with fail;refine(enc_depth _ x _ _ _ nlr (by omega) (HI1.out.below HB2.out nlr)).mono ?_;rintro e w3 ⟨rfl,hb3⟩;have HB3:=Hq hb3;obtain⟨p0,p1,p2,p3⟩:=four_cells (block_kept hb3 nlr HBOX2.out);have hz3:=hb3.size;clear hb3 q0 q1 q2 q3;go_wp2_with fail;refine(enc_write _ x _ _ _ nlr (by omega) ((HI1.out.below HB2.out nlr).below HB3.out nlr)).mono ?_;rintro e w4 ⟨rfl,hb4⟩;have HB4:=Hq hb4;clear hb4;go_wp2;go_ret2;exact⟨rfl,((HB1.out.trans (HB2.out.mono (by omega))).trans (HB3.out.mono (by omega))).trans (HB4.out.mono (by omega))⟩
set_option maxRecDepth 100000
set_option maxHeartbeats 4000000
def letterB(c:Int):Bool:=decide (97≤c)&&decide (c≤122)||decide (65≤c)&&decide (c≤90)
def digitB(c:Int):Bool:=decide (48≤c)&&decide (c≤57)
def nchB(c:Int):Bool:=letterB c||(c==95||digitB c)
def kws:List (List UInt8):=[[112,111,108,105,99,121],[117,115,101,115],[114,101,118,101,97,108],[112,114,111,118,101],[115,99,111,112,101],[108,105,109,105,116],[101,115,99,114,111,119],
 [101,110,100],[97,108,108],[97,110,121],[97,116,108,101,97,115,116],[110,111,116],[116,114,117,101],[102,97,108,115,101],[98,101,116,119,101,101,110],[97,110,100],[105,110]]
def kwB(s:ByteArray):Bool:=kws.contains s.data.toList
def nameB(s:ByteArray):Bool:=(decide (s.size≠0)&&decide (s.size≤32))&&(letterB (byteI s.data.toList 0)&&(!kwB s&&(List.range s.size).all fun i=>nchB (byteI s.data.toList i)))
theorem letter_cases(c:Int):(c<65∧letterB c=false)∨(65≤c∧c≤90∧letterB c=true)∨(90<c∧c<97∧letterB c=false)∨(97≤c∧c≤122∧letterB c=true)∨(122<c∧letterB c=false):=by
 by_cases h1:c<65
 · exact .inl ⟨h1,by simp[letterB];omega⟩
 · by_cases h2:c≤90
   · exact .inr (.inl ⟨by omega,h2,by simp[letterB];omega⟩)
   · by_cases h3:c<97
     · exact .inr (.inr (.inl ⟨by omega,h3,by simp[letterB];omega⟩))
     · by_cases h4:c≤122
       · exact .inr (.inr (.inr (.inl ⟨by omega,h4,by simp[letterB];omega⟩)))
       · exact .inr (.inr (.inr (.inr ⟨by omega,by simp[letterB];omega⟩)))
theorem led_letter(c:Int)(w:World):Calls Tryz.prog 52 #[.int .u8 c] w (RetQ (.bool (letterB c)) w):=by
 rcases letter_cases c with⟨h1,h⟩ | ⟨h1,h2,h⟩ | ⟨h1,h2,h⟩ | ⟨h1,h2,h⟩ | ⟨h1,h⟩<;>
 · rw[h];clear h;go_enter Tryz.func52,Tryz.ntmps52;go_wp2;go_ret;exact⟨by first | rfl | (simp;omega),rfl⟩
theorem lex_Keyword(s:ByteArray)(w:World):Calls Tryz.prog 53 #[.string s] w (RetQ (.bool (kwB s)) w):=by
 rw[←bstr_of s];by_cases h:s.data.toList∈kws
 · have hk:kwB (bstr s.data.toList)=true:=by simp[kwB,bstr_data,h]
   rw[hk];clear hk;simp only[kws,List.mem_cons,List.mem_nil_iff,or_false]at h;rcases h with h | h | h | h | h | h | h | h | h | h | h | h | h | h | h | h | h<;>
   · rw[h];clear h;unfold bstr;go_enter Tryz.func53,Tryz.ntmps53;go_wp2;go_ret;exact⟨rfl,rfl⟩
 · have hk:kwB (bstr s.data.toList)=false:=by simp[kwB,bstr_data,h]
   rw[hk,bstr_of s];clear hk;simp only[kws,List.mem_cons,List.mem_nil_iff,or_false,not_or,←ByteArray.toList_eq]at h;obtain⟨h1,h2,h3,h4,h5,h6,h7,h8,h9,h10,h11,h12,h13,h14,h15,h16,h17⟩:=h;have e1:=beq_eq_false_iff_ne.2 h1;have e2:=beq_eq_false_iff_ne.2 h2;have e3:=beq_eq_false_iff_ne.2 h3;have e4:=beq_eq_false_iff_ne.2 h4;have e5:=beq_eq_false_iff_ne.2 h5;have e6:=beq_eq_false_iff_ne.2 h6;have e7:=beq_eq_false_iff_ne.2 h7;have e8:=beq_eq_false_iff_ne.2 h8;have e9:=beq_eq_false_iff_ne.2 h9;have e10:=beq_eq_false_iff_ne.2 h10;have e11:=beq_eq_false_iff_ne.2 h11;have e12:=beq_eq_false_iff_ne.2 h12;have e13:=beq_eq_false_iff_ne.2 h13;have e14:=beq_eq_false_iff_ne.2 h14;have e15:=beq_eq_false_iff_ne.2 h15;have e16:=beq_eq_false_iff_ne.2 h16;have e17:=beq_eq_false_iff_ne.2 h17;clear h1 h2 h3 h4 h5 h6 h7 h8 h9 h10 h11 h12 h13 h14 h15 h16 h17;go_enter Tryz.func53,Tryz.ntmps53;go_wp2;go_ret;exact⟨rfl,rfl⟩
theorem toList_inj{a b:ByteArray}(h:a.toList=b.toList):a=b:=by
 rw[ByteArray.toList_eq,ByteArray.toList_eq]at h;rw[←bstr_of a,←bstr_of b,h]
theorem byteI_get(s:ByteArray)(k:Nat)(h:k<s.size):byteI s.data.toList k=(s[k].toNat:Int):=by unfold byteI;rw[data_getD s k h]
theorem bne_false{a b:Int}(h:a=b):(a != b)=false:=by rw[h];simp
theorem nch_cases(c:Int)(h:letterB c=false):(c=95∧nchB c=true)∨(c≠95∧c<48∧nchB c=false)∨(c≠95∧57<c∧nchB c=false)∨(c≠95∧48≤c∧c≤57∧nchB c=true):=by
 by_cases h1:c=95
 · exact .inl ⟨h1,by simp[nchB,h1]⟩
 · have e1:(c==95)=false:=beq_eq_false_iff_ne.2 h1;by_cases h2:c<48
   · exact .inr (.inl ⟨h1,h2,by simp[nchB,h,e1,digitB];omega⟩)
   · by_cases h3:57<c
     · exact .inr (.inr (.inl ⟨h1,h3,by simp[nchB,h,e1,digitB];omega⟩))
     · exact .inr (.inr (.inr ⟨h1,by omega,by omega,by simp[nchB,h,e1,digitB];omega⟩))
theorem nameB_nil{s:ByteArray}(h:s.size=0):nameB s=false:=by simp[nameB,h]
theorem nameB_long{s:ByteArray}(h:32<s.size):nameB s=false:=by simp[nameB];omega
theorem nameB_first{s:ByteArray}(h:letterB (byteI s.data.toList 0)=false):nameB s=false:=by simp[nameB,h]
theorem nameB_kw{s:ByteArray}(h:kwB s=true):nameB s=false:=by simp[nameB,h]
theorem nameB_at{s:ByteArray}{k:Nat}(hk:k<s.size)(h:nchB (byteI s.data.toList k)=false):nameB s=false:=by
 have : ((List.range s.size).all fun i=>nchB (byteI s.data.toList i))=false:=(by rw[List.all_eq_false];exact⟨k,List.mem_range.2 hk,by simp[h]⟩);simp[nameB,this]
theorem nameB_yes{s:ByteArray}(h0:0<s.size)(h1:s.size≤32)(h2:letterB (byteI s.data.toList 0)=true)(h3:kwB s=false)(h4:∀ j,j<s.size→nchB (byteI s.data.toList j)=true):nameB s=true:=by
 have : ((List.range s.size).all fun i=>nchB (byteI s.data.toList i))=true:=(by rw[List.all_eq_true];intro i hi;exact h4 i (List.mem_range.1 hi));unfold nameB;rw[this,h2,h3,decide_eq_true (show s.size≠0 by omega),decide_eq_true h1];rfl
theorem led_name(s:ByteArray)(w:World)(hs:s.size≤9223372036854775807):Calls Tryz.prog 24 #[.string s] w (RetQ (.bool (nameB s)) w):=by
 by_cases h0:s.size=0
 · rw[nameB_nil h0];have e0:=sempty_true h0;go_enter Tryz.func24,Tryz.ntmps24;go_wp2;go_ret;exact⟨rfl,rfl⟩
 · have hp:0<s.size:=by omega
   have e0:=sempty_false hp;by_cases h1:32<s.size
   · rw[nameB_long h1];go_enter Tryz.func24,Tryz.ntmps24;go_wp2;go_ret;exact⟨rfl,rfl⟩
   · have hl:=byteI_get s 0 hp
     cases h2:letterB (byteI s.data.toList 0)with
     | false =>
      rw[nameB_first h2];rw[hl]at h2;have H2:=Hq h2;clear h2 hl;go_enter Tryz.func24,Tryz.ntmps24;go_wp2_with fail;refine(led_letter _ _).mono ?_;rintro e w1 ⟨rfl,rfl⟩;rw[H2.out];go_wp2;go_ret;exact⟨rfl,rfl⟩
     | true =>
      have H2':=Hq h2;rw[hl]at h2;have H2:=Hq h2;clear h2 hl
      cases h3:kwB s with
      | true =>
       rw[nameB_kw h3];have H3:=Hq h3;clear h3;go_enter Tryz.func24,Tryz.ntmps24;go_wp2_with fail;refine(led_letter _ _).mono ?_;rintro e w1 ⟨rfl,rfl⟩;rw[H2.out];go_wp2_with fail;refine(lex_Keyword _ _).mono ?_;rintro e w1 ⟨rfl,rfl⟩;rw[H3.out];go_wp2;go_ret;exact⟨rfl,rfl⟩
      | false =>
       have H3:=Hq h3;clear h3;go_enter Tryz.func24,Tryz.ntmps24;go_wp2_with fail;refine(led_letter _ _).mono ?_;rintro e w1 ⟨rfl,rfl⟩;rw[H2.out];go_wp2_with fail;refine(lex_Keyword _ _).mono ?_;rintro e w1 ⟨rfl,rfl⟩;rw[H3.out];go_wp2
       go_loop [24] (fun i=>∃ k:Nat,k≤s.size∧i=.int .i64 k∧∀ j,j<k→nchB (byteI s.data.toList j)=true) (fun i=>s.size - (intOf i).toNat)
       case atStart=>exact⟨0,Nat.zero_le _,rfl,fun j hj=>absurd hj (by omega)⟩
       case round =>
        obtain⟨k,hk,rfl,hall⟩:=hrel;have HALL:=Hq hall;clear hall;by_cases hlt:k<s.size
        · have hl:=byteI_get s k hlt
          cases hc:letterB (byteI s.data.toList k)with
          | true =>
           have hn:nchB (byteI s.data.toList k)=true:=by simp[nchB,hc]
           rw[hl]at hc;have HC:=Hq hc;have HN:=Hq hn;clear hc hn hl;go_wp2_with fail;refine(led_letter _ _).mono ?_;rintro e w1 ⟨rfl,rfl⟩;rw[HC.out];go_wp2;go_round;case rel=>exact⟨k+1,by omega,by go_num,fun j hj=>(by rcases Nat.lt_succ_iff_lt_or_eq.1 hj with h | h;exact HALL.out j h;subst h;exact HN.out)⟩
           case measure=>simp[intOf];omega
          | false =>
           rcases nch_cases _ hc with⟨h1,hn⟩ | ⟨h1,h2,hn⟩ | ⟨h1,h2,hn⟩ | ⟨h1,h2,h3,hn⟩
           all_goals
                  first
                  | (have hres := nameB_at hlt hn
                     have HRES:=Hq hres
                     clear hres)
                  | skip
                  rw[hl]at hc h1;try rw[hl]at h2
                  try rw[hl]at h3
                  have HC:=Hq hc;have HN:=Hq hn;first
                  | (have e1 := bne_false h1
                     clear h1)
                  | (have e1 := bne_iff_ne.2 h1
                     clear h1)
                  clear hc hn hl;go_wp2_with fail;refine(led_letter _ _).mono ?_;rintro e w1 ⟨rfl,rfl⟩;rw[HC.out];go_wp2;first
                  | (go_ret
                     exact⟨by rw[HRES.out];rfl,rfl⟩)
                  | (go_round
                     case rel=>exact⟨k+1,by omega,by go_num,fun j hj=>(by rcases Nat.lt_succ_iff_lt_or_eq.1 hj with h | h;exact HALL.out j h;subst h;exact HN.out)⟩
                     case measure=>simp[intOf];omega)
        · obtain rfl:k=s.size:=by omega
          have hr:=nameB_yes hp (by omega) H2'.out H3.out HALL.out;have HR:=Hq hr;clear hr;go_wp2;go_ret;exact⟨by rw[HR.out];rfl,rfl⟩
set_option maxHeartbeats 400000
theorem compareBytes_ord{l m:List UInt8}(h:l.length=m.length):Lib.compareBytes l m=cmpI (bnat l) (bnat m):=by
 induction l generalizing m with
 | nil=>cases m with
  | nil=>rfl
  | cons y m=>simp at h
 | cons x l ih=>cases m with
  | nil=>simp at h
  | cons y m =>
   have hl:l.length=m.length:=by simpa using h
   unfold Lib.compareBytes;by_cases h1:x<y
   · have:=bnat_lt_first (p:=[]) (a:=l) (b:=m) hl (UInt8.lt_iff_toNat_lt.1 h1);rw[List.nil_append,List.nil_append]at this;rw[if_pos h1,cmpI_lt this]
   · rw[if_neg h1];by_cases h2:y<x
     · have:=bnat_lt_first (p:=[]) (a:=m) (b:=l) hl.symm (UInt8.lt_iff_toNat_lt.1 h2);rw[List.nil_append,List.nil_append]at this;rw[if_pos h2,cmpI_gt this]
     · rw[if_neg h2,ih hl];have : x=y:=by
        apply UInt8.toNat_inj.1;rw[UInt8.lt_iff_toNat_lt]at h1 h2;omega
       subst this;rw[bnat_cons,bnat_cons,hl];unfold cmpI;simp
def ordB(a b:ByteArray):Int:=ordL a.data.toList b.data.toList
theorem ordB_ne{a b:ByteArray}(h:a.size≠b.size):ordB a b=Lib.compareInt a.size b.size:=by
 unfold ordB ordL Lib.compareInt;rw[data_len,data_len];by_cases h1:a.size<b.size
 · rw[if_pos h1,if_pos (by omega)]
 · rw[if_neg h1,if_pos (by omega),if_neg (by omega),if_pos (by omega)]
theorem ordB_eq{a b:ByteArray}(h:a.size=b.size):ordB a b=Lib.compareBytes a.data.toList b.data.toList:=by
 unfold ordB ordL;rw[data_len,data_len,if_neg (by omega),if_neg (by omega),compareBytes_ord (by rw[data_len,data_len,h])]
theorem compareInt_ne{x y:Int}(h:x≠y):(Lib.compareInt x y != 0)=true:=by
 unfold Lib.compareInt;split
 · rfl
 · rw[if_pos (by omega)];rfl
theorem nat_compare(a b:ByteArray)(ha:a.size≤9223372036854775807)(hb:b.size≤9223372036854775807)(w:World) :
 Calls Tryz.prog 50 #[.string a,.string b] w (RetQ (.int .i64 (ordB a b)) w):=by
 by_cases h:a.size=b.size
 · have H:=Hq h;rw[ordB_eq h];have hc:Lib.compareInt a.size b.size=0:=by unfold Lib.compareInt;rw[h];simp
   have HC:=Hq hc;clear h hc;go_enter Tryz.func50,Tryz.ntmps50;go_wp2_with fail;refine(Tryz.cmp_Compare_int _ _ _).mono ?_;rintro e w1 ⟨rfl,rfl⟩;rw[HC.out];go_wp2_with fail;refine(Tryz.strings_Compare _ _ _).mono ?_;rintro e w1 ⟨rfl,rfl⟩;go_wp2;go_ret;exact⟨rfl,rfl⟩
 · rw[ordB_ne h];have hc:=compareInt_ne (x:=a.size) (y:=b.size) (by omega);clear h;go_enter Tryz.func50,Tryz.ntmps50;go_wp2_with fail;refine(Tryz.cmp_Compare_int _ _ _).mono ?_;rintro e w1 ⟨rfl,rfl⟩;go_wp2;go_ret;exact⟨rfl,rfl⟩
def ncmp(a b:ByteArray):Int:=if nvalid a&&nvalid b then ordB a b else 0
theorem nat_Cmp(a b:ByteArray)(ha:a.size≤9223372036854775807)(hb:b.size≤9223372036854775807)(w:World) :
 Calls Tryz.prog 22 #[.string a,.string b] w (RetQ (.int .i64 (ncmp a b)) w):=by
 cases h1:nvalid a with
 | false =>
  have hn:ncmp a b=0:=by simp[ncmp,h1]
  rw[hn];have H1:=Hq h1;clear h1 hn;go_enter Tryz.func22,Tryz.ntmps22;go_wp2_with fail;refine(nat_Valid _ ha _).mono ?_;rintro e w1 ⟨rfl,rfl⟩;rw[H1.out];go_wp2;go_ret;exact⟨rfl,rfl⟩
 | true=>cases h2:nvalid b with
  | false =>
   have hn:ncmp a b=0:=by simp[ncmp,h2]
   rw[hn];have H1:=Hq h1;have H2:=Hq h2;clear h1 h2 hn;go_enter Tryz.func22,Tryz.ntmps22;go_wp2_with fail;refine(nat_Valid _ ha _).mono ?_;rintro e w1 ⟨rfl,rfl⟩;rw[H1.out];go_wp2_with fail;refine(nat_Valid _ hb _).mono ?_;rintro e w1 ⟨rfl,rfl⟩;rw[H2.out];go_wp2;go_ret;exact⟨rfl,rfl⟩
  | true =>
   have hn:ncmp a b=ordB a b:=by simp[ncmp,h1,h2]
   rw[hn];have H1:=Hq h1;have H2:=Hq h2;clear h1 h2 hn;go_enter Tryz.func22,Tryz.ntmps22;go_wp2_with fail;refine(nat_Valid _ ha _).mono ?_;rintro e w1 ⟨rfl,rfl⟩;rw[H1.out];go_wp2_with fail;refine(nat_Valid _ hb _).mono ?_;rintro e w1 ⟨rfl,rfl⟩;rw[H2.out];go_wp2_with fail;refine(nat_compare _ _ ha hb _).mono ?_;rintro e w1 ⟨rfl,rfl⟩;go_wp2;go_ret;exact⟨rfl,rfl⟩
set_option maxHeartbeats 800000
theorem enc_NatV(a:ByteArray)(w:World):Calls Tryz.prog 29 #[.string a] w (Ret (.agg #[.int .i64 0,.string a,.string ⟨#[]⟩,.slice none 0 0]) w):=by
 go_enter Tryz.func29,Tryz.ntmps29;go_wp2;exact bodyPost_ret (v:=.agg #[.int .i64 0,.string a,.string ⟨#[]⟩,.slice none 0 0]) (by simp[results,Tryz.results29,go_sem]) rfl ⟨rfl,(blr).alloc nlr _⟩
theorem enc_TextV(a:ByteArray)(w:World):Calls Tryz.prog 27 #[.string a] w (Ret (.agg #[.int .i64 1,.string ⟨#[]⟩,.string a,.slice none 0 0]) w):=by
 go_enter Tryz.func27,Tryz.ntmps27;go_wp2;exact bodyPost_ret (v:=.agg #[.int .i64 1,.string ⟨#[]⟩,.string a,.slice none 0 0]) (by simp[results,Tryz.results27,go_sem]) rfl ⟨rfl,(blr).alloc nlr _⟩
theorem led_number(n:Nat)(w:World)(h:n<9223372036854775808):Calls Tryz.prog 28 #[.int .i64 n] w (Ret (.agg #[.int .i64 0,.string (bstr (encN n)),.string ⟨#[]⟩,.slice none 0 0]) w):=by
 have h1:(n:Int)%18446744073709551616=n:=by omega
 have H:=Hq h;clear h;obtain⟨W0,hW0⟩:∃ W0,w.alloc (.cells #[.int .i64 0,.string ⟨#[]⟩,.string ⟨#[]⟩,.slice none 0 0] 72)=W0:=⟨_,rfl⟩;have hres0:W0.heap[w.heap.size]? =some (.cells #[.int .i64 0,.string ⟨#[]⟩,.string ⟨#[]⟩,.slice none 0 0] 72 (0,0)):=by rw[←hW0];exact heap_alloc_new _ _
 have hb0:Below w.heap.size w W0:=by rw[←hW0];exact(blr).alloc nlr _
 have HW0:=Hq hW0;have HR0:=Hq hres0;have HB0:=Hq hb0;clear hW0 hres0 hb0;go_enter Tryz.func28,Tryz.ntmps28;go_wp2_with fail;rw[HW0.out];refine(nat_Of n (by have:=H.out;omega) _).mono ?_;rintro e w1 ⟨rfl,hb1⟩;have HR1:=Hq (block_kept hb1 nlr HR0.out);have HB1:=Hq (HB0.out.trans (hb1.mono HB0.out.size));clear hb1;go_wp2_with fail;refine(enc_NatV _ _).mono ?_;rintro e w2 ⟨rfl,hb2⟩;have hres:=block_kept hb2 nlr HR1.out;have HB2:=Hq (HB1.out.trans (hb2.mono HB1.out.size));obtain⟨rc0,rc1,rc2,rc3⟩:=four_cells hres;obtain⟨rf0,rf1,rf2,rf3⟩:=four_free hres;have HRES:=Hq hres;clear hb2 hres;go_wp2;have HE:=Hq (four_cells (set4_block HRES.out (.int .i64 0) (.string (bstr (encN n))) (.string ⟨#[]⟩) (.slice none 0 0)));have HBE:=Hq (set4_below HB2.out (b:=w.heap.size) nlr (.int .i64 0) (.string (bstr (encN n))) (.string ⟨#[]⟩) (.slice none 0 0));unfold set4 at HE HBE;obtain⟨wf,hwf⟩:∃ wf,(((w2.setCell ⟨w.heap.size,0,none⟩ (.int .i64 0)).setCell ⟨w.heap.size,1,none⟩ (.string (bstr (encN n)))).setCell ⟨w.heap.size,2,none⟩ (.string ⟨#[]⟩)).setCell ⟨w.heap.size,3,none⟩ (.slice none 0 0)=wf:=⟨_,rfl⟩;rw[hwf]at HE HBE⊢;obtain⟨q0,q1,q2,q3⟩:=HE.out;exact bodyPost_ret (v:=.agg #[.int .i64 0,.string (bstr (encN n)),.string ⟨#[]⟩,.slice none 0 0]) (by simp[results,Tryz.results28,go_sem,q0,q1,q2,q3]) rfl ⟨rfl,HBE.out⟩
end Go.Proofs.YtfbmbledklbfgaaGreatDoor
