import Derived.Test.YtopmeciihijgiaaGreatDoorQEncG
import Derived.Test.YtopmeciihijgiaaGreatDoorQRowN
set_option linter.unusedVariables false
set_option linter.unusedSimpArgs false
namespace Go.Proofs.YtopmeciihijgiaaGreatDoor
set_option maxRecDepth 100000
set_option maxHeartbeats 4000000
open Go.RowKit
def letterB(c:Int):Bool:=decide (97≤c)&&decide (c≤122)||decide (65≤c)&&decide (c≤90)
def digitB(c:Int):Bool:=decide (48≤c)&&decide (c≤57)
def nchB(c:Int):Bool:=letterB c||(c==95||digitB c)
def kws:List (List UInt8):=[[112,111,108,105,99,121],[117,115,101,115],[114,101,118,101,97,108],[112,114,111,118,101],[115,99,111,112,101],[108,105,109,105,116],[101,115,99,114,111,119],
 [101,110,100],[97,108,108],[97,110,121],[97,116,108,101,97,115,116],[110,111,116],[116,114,117,101],[102,97,108,115,101],[98,101,116,119,101,101,110],[97,110,100],[105,110]]
def kwB(s:ByteArray):Bool:=kws.contains s.data.toList
def nameB(s:ByteArray):Bool:=(decide (s.size≠0)&&decide (s.size≤32))&&(letterB (byteI s.data.toList 0)&&(!kwB s&&(List.range s.size).all fun i=>nchB (byteI s.data.toList i)))
theorem letter_cases(c:Int):(c<65∧letterB c=false)∨(65≤c∧c≤90∧letterB c=true)∨(90<c∧c<97∧letterB c=false)∨(97≤c∧c≤122∧letterB c=true)∨(122<c∧letterB c=false):=by
 by_cases h1:c<65
 · exact .inl ⟨h1,by simp[letterB];omega⟩
 · by_cases h2:c≤90
   · exact .inr (.inl ⟨by omega,h2,by simp[letterB];omega⟩)
   · by_cases h3:c<97
     · exact .inr (.inr (.inl ⟨by omega,h3,by simp[letterB];omega⟩))
     · by_cases h4:c≤122
       · exact .inr (.inr (.inr (.inl ⟨by omega,h4,by simp[letterB];omega⟩)))
       · exact .inr (.inr (.inr (.inr ⟨by omega,by simp[letterB];omega⟩)))
theorem led_letter(c:Int)(w:World):Calls Tryz.prog 77 #[.int .u8 c] w (RetQ (.bool (letterB c)) w):=by
 rcases letter_cases c with⟨h1,h⟩ | ⟨h1,h2,h⟩ | ⟨h1,h2,h⟩ | ⟨h1,h2,h⟩ | ⟨h1,h⟩<;>
 · rw[h];clear h;go_enter Tryz.func77,Tryz.ntmps77;go_wp2;go_ret;exact⟨by first | rfl | (simp;omega),rfl⟩
theorem r41_letter(c:Int)(w:World):Calls Tryz.prog 157 #[.int .u8 c] w (RetQ (.bool (letterB c)) w):=by
 rcases letter_cases c with⟨h1,h⟩ | ⟨h1,h2,h⟩ | ⟨h1,h2,h⟩ | ⟨h1,h2,h⟩ | ⟨h1,h⟩<;>
 · rw[h];clear h;go_enter Tryz.func157,Tryz.ntmps157;go_wp2;go_ret;exact⟨by first | rfl | (simp;omega),rfl⟩
theorem r41_digit(c:Int)(w:World):Calls Tryz.prog 158 #[.int .u8 c] w (RetQ (.bool (digitB c)) w):=by
 by_cases h1:48≤c
 · by_cases h2:c≤57
   · have h:digitB c=true:=by simp[digitB];omega
     rw[h];clear h;go_enter Tryz.func158,Tryz.ntmps158;go_wp2;go_ret;exact⟨rfl,rfl⟩
   · have h:digitB c=false:=by simp[digitB];omega
     rw[h];clear h;go_enter Tryz.func158,Tryz.ntmps158;go_wp2;go_ret;exact⟨rfl,rfl⟩
 · have h:digitB c=false:=by simp[digitB];omega
   rw[h];clear h;go_enter Tryz.func158,Tryz.ntmps158;go_wp2;go_ret;exact⟨rfl,rfl⟩
theorem lex_Keyword(s:ByteArray)(w:World):Calls Tryz.prog 78 #[.string s] w (RetQ (.bool (kwB s)) w):=by
 rw[←bstr_of s];by_cases h:s.data.toList∈kws
 · have hk:kwB (bstr s.data.toList)=true:=by simp[kwB,bstr_data,h]
   rw[hk];clear hk;simp only[kws,List.mem_cons,List.mem_nil_iff,or_false]at h;rcases h with h | h | h | h | h | h | h | h | h | h | h | h | h | h | h | h | h<;>
   · rw[h];clear h;unfold bstr;go_enter Tryz.func78,Tryz.ntmps78;go_wp2;go_ret;exact⟨rfl,rfl⟩
 · have hk:kwB (bstr s.data.toList)=false:=by simp[kwB,bstr_data,h]
   rw[hk,bstr_of s];clear hk;simp only[kws,List.mem_cons,List.mem_nil_iff,or_false,not_or,←ByteArray.toList_eq]at h;obtain⟨h1,h2,h3,h4,h5,h6,h7,h8,h9,h10,h11,h12,h13,h14,h15,h16,h17⟩:=h;have e1:=beq_eq_false_iff_ne.2 h1;have e2:=beq_eq_false_iff_ne.2 h2;have e3:=beq_eq_false_iff_ne.2 h3;have e4:=beq_eq_false_iff_ne.2 h4;have e5:=beq_eq_false_iff_ne.2 h5;have e6:=beq_eq_false_iff_ne.2 h6;have e7:=beq_eq_false_iff_ne.2 h7;have e8:=beq_eq_false_iff_ne.2 h8;have e9:=beq_eq_false_iff_ne.2 h9;have e10:=beq_eq_false_iff_ne.2 h10;have e11:=beq_eq_false_iff_ne.2 h11;have e12:=beq_eq_false_iff_ne.2 h12;have e13:=beq_eq_false_iff_ne.2 h13;have e14:=beq_eq_false_iff_ne.2 h14;have e15:=beq_eq_false_iff_ne.2 h15;have e16:=beq_eq_false_iff_ne.2 h16;have e17:=beq_eq_false_iff_ne.2 h17;clear h1 h2 h3 h4 h5 h6 h7 h8 h9 h10 h11 h12 h13 h14 h15 h16 h17;go_enter Tryz.func78,Tryz.ntmps78;go_wp2;go_ret;exact⟨rfl,rfl⟩
def kwAt(k:Nat):ByteArray:=bstr (kws.getD k [])
theorem kwB_false{s:ByteArray}(h:∀ k,k<16→kwAt k≠s)(h':s.data.toList≠[105,110]):kwB s=false:=by
 have hk:∀ k,k<16→kws.getD k []≠s.data.toList:=fun k hk e=>h k hk (by unfold kwAt;rw[e,bstr_of]);have : s.data.toList∉kws:=by
  intro hm;simp only[kws,List.mem_cons,List.mem_nil_iff,or_false]at hm;rcases hm with e | e | e | e | e | e | e | e | e | e | e | e | e | e | e | e | e
  · exact hk 0 (by omega) e.symm
  · exact hk 1 (by omega) e.symm
  · exact hk 2 (by omega) e.symm
  · exact hk 3 (by omega) e.symm
  · exact hk 4 (by omega) e.symm
  · exact hk 5 (by omega) e.symm
  · exact hk 6 (by omega) e.symm
  · exact hk 7 (by omega) e.symm
  · exact hk 8 (by omega) e.symm
  · exact hk 9 (by omega) e.symm
  · exact hk 10 (by omega) e.symm
  · exact hk 11 (by omega) e.symm
  · exact hk 12 (by omega) e.symm
  · exact hk 13 (by omega) e.symm
  · exact hk 14 (by omega) e.symm
  · exact hk 15 (by omega) e.symm
  · exact h' e
 simp[kwB,this]
theorem kwB_at{s:ByteArray}{k:Nat}(hk:k<16)(h:kwAt k=s):kwB s=true:=by
 have : s.data.toList∈kws:=(by rw[←h,kwAt,bstr_data,List.getD_eq_getElem?_getD,List.getElem?_eq_getElem (show k<kws.length from by show k<17;omega)];exact List.getElem_mem _);simp[kwB,this]
theorem toList_inj{a b:ByteArray}(h:a.toList=b.toList):a=b:=by
 rw[ByteArray.toList_eq,ByteArray.toList_eq]at h;rw[←bstr_of a,←bstr_of b,h]
theorem str_beq_true{a b:ByteArray}(h:a=b):(a.toList==b.toList)=true:=by rw[h];simp
theorem str_beq_false{a b:ByteArray}(h:a≠b):(a.toList==b.toList)=false:=beq_eq_false_iff_ne.2 fun e=>h (toList_inj e)
theorem r40_Keyword(s:ByteArray)(w:World):Calls Tryz.prog 159 #[.string s] w (Ret (.bool (kwB s)) w):=by
 go_enter Tryz.func159,Tryz.ntmps159;go_wp2;obtain⟨w1,hw1⟩:∃ w1,w.alloc (.cells #[.string ⟨#[112,111,108,105,99,121]⟩,.string ⟨#[117,115,101,115]⟩,.string ⟨#[114,101,118,101,97,108]⟩,.string ⟨#[112,114,111,118,101]⟩,.string ⟨#[115,99,111,112,101]⟩,.string ⟨#[108,105,109,105,116]⟩,
  .string ⟨#[101,115,99,114,111,119]⟩,.string ⟨#[101,110,100]⟩,.string ⟨#[97,108,108]⟩,.string ⟨#[97,110,121]⟩,.string ⟨#[97,116,108,101,97,115,116]⟩,.string ⟨#[110,111,116]⟩,.string ⟨#[116,114,117,101]⟩,.string ⟨#[102,97,108,115,101]⟩,
  .string ⟨#[98,101,116,119,101,101,110]⟩,.string ⟨#[97,110,100]⟩] 9)=w1:=⟨_,rfl⟩
 rw[hw1];have hb:Below w.heap.size w w1:=by rw[←hw1];exact(blr).alloc nlr _
 have hc:∀ k,k<16→w1.cell? ⟨w.heap.size,k,none⟩=some (.string (kwAt k)):=fun k hk=>by
  rw[←hw1,World.cell?_alloc_at (hn:=rfl)];rcases(show k=0∨k=1∨k=2∨k=3∨k=4∨k=5∨k=6∨k=7∨k=8∨k=9∨k=10∨k=11∨k=12∨k=13∨k=14∨k=15 from by omega)with rfl | rfl | rfl | rfl | rfl | rfl | rfl | rfl | rfl | rfl | rfl | rfl | rfl | rfl | rfl | rfl<;>rfl
 have HB:=Hq hb;have HC:=Hq hc;clear hb hc hw1
 go_loop [4] (fun i=>∃ k:Nat,k≤16∧i=.int .i64 k∧∀ j,j<k→kwAt j≠s) (fun i=>16 - (intOf i).toNat)
 case atStart=>exact⟨0,Nat.zero_le _,rfl,fun j hj=>absurd hj (by omega)⟩
 case round =>
  obtain⟨k,hk,rfl,hall⟩:=hrel;have HALL:=Hq hall;clear hall;by_cases hlt:k<16
  · have hck:=HC.out k hlt;by_cases he:kwAt k=s
    · have hr:=kwB_at hlt he;have HR:=Hq hr;have he2:=str_beq_true he;clear hr he;go_wp2;go_ret;exact⟨by rw[HR.out];rfl,HB.out⟩
    · have he2:=str_beq_false he;have HE:=Hq he;clear he;go_wp2;go_round;case rel=>exact⟨k+1,by omega,by go_num,fun j hj=>(by rcases Nat.lt_succ_iff_lt_or_eq.1 hj with h | h;exact HALL.out j h;subst h;exact HE.out)⟩
      case measure=>simp[intOf];omega
  · obtain rfl:k=16:=by omega
    by_cases he:s.data.toList=[105,110]
    · have hr:kwB s=true:=by simp[kwB,he,kws]
      have he2:(s.toList==[105,110])=true:=by rw[ByteArray.toList_eq,he];rfl
      have HR:=Hq hr;clear hr he;go_wp2;go_ret;exact⟨by rw[HR.out];rfl,HB.out⟩
    · have hr:=kwB_false HALL.out he;have he2:(s.toList==[105,110])=false:=by rw[ByteArray.toList_eq];exact beq_eq_false_iff_ne.2 he
      have HR:=Hq hr;clear hr he;go_wp2;go_ret;exact⟨by rw[HR.out];rfl,HB.out⟩
theorem byteI_get(s:ByteArray)(k:Nat)(h:k<s.size):byteI s.data.toList k=(s[k].toNat:Int):=by unfold byteI;rw[data_getD s k h]
theorem bne_false{a b:Int}(h:a=b):(a != b)=false:=by rw[h];simp
theorem nch_cases(c:Int)(h:letterB c=false):(c=95∧nchB c=true)∨(c≠95∧c<48∧nchB c=false)∨(c≠95∧57<c∧nchB c=false)∨(c≠95∧48≤c∧c≤57∧nchB c=true):=by
 by_cases h1:c=95
 · exact .inl ⟨h1,by simp[nchB,h1]⟩
 · have e1:(c==95)=false:=beq_eq_false_iff_ne.2 h1;by_cases h2:c<48
   · exact .inr (.inl ⟨h1,h2,by simp[nchB,h,e1,digitB];omega⟩)
   · by_cases h3:57<c
     · exact .inr (.inr (.inl ⟨h1,h3,by simp[nchB,h,e1,digitB];omega⟩))
     · exact .inr (.inr (.inr ⟨h1,by omega,by omega,by simp[nchB,h,e1,digitB];omega⟩))
theorem nameB_nil{s:ByteArray}(h:s.size=0):nameB s=false:=by simp[nameB,h]
theorem nameB_long{s:ByteArray}(h:32<s.size):nameB s=false:=by simp[nameB];omega
theorem nameB_first{s:ByteArray}(h:letterB (byteI s.data.toList 0)=false):nameB s=false:=by simp[nameB,h]
theorem nameB_kw{s:ByteArray}(h:kwB s=true):nameB s=false:=by simp[nameB,h]
theorem nameB_at{s:ByteArray}{k:Nat}(hk:k<s.size)(h:nchB (byteI s.data.toList k)=false):nameB s=false:=by
 have : ((List.range s.size).all fun i=>nchB (byteI s.data.toList i))=false:=(by rw[List.all_eq_false];exact⟨k,List.mem_range.2 hk,by simp[h]⟩);simp[nameB,this]
theorem nameB_yes{s:ByteArray}(h0:0<s.size)(h1:s.size≤32)(h2:letterB (byteI s.data.toList 0)=true)(h3:kwB s=false)(h4:∀ j,j<s.size→nchB (byteI s.data.toList j)=true):nameB s=true:=by
 have : ((List.range s.size).all fun i=>nchB (byteI s.data.toList i))=true:=(by rw[List.all_eq_true];intro i hi;exact h4 i (List.mem_range.1 hi));unfold nameB;rw[this,h2,h3,decide_eq_true (show s.size≠0 by omega),decide_eq_true h1];rfl
theorem led_name(s:ByteArray)(w:World)(hs:s.size≤9223372036854775807):Calls Tryz.prog 31 #[.string s] w (RetQ (.bool (nameB s)) w):=by
 by_cases h0:s.size=0
 · rw[nameB_nil h0];have e0:=sempty_true h0;go_enter Tryz.func31,Tryz.ntmps31;go_wp2;go_ret;exact⟨rfl,rfl⟩
 · have hp:0<s.size:=by omega
   have e0:=sempty_false hp;by_cases h1:32<s.size
   · rw[nameB_long h1];go_enter Tryz.func31,Tryz.ntmps31;go_wp2;go_ret;exact⟨rfl,rfl⟩
   · have hl:=byteI_get s 0 hp
     cases h2:letterB (byteI s.data.toList 0)with
     | false =>
      rw[nameB_first h2];rw[hl]at h2;have H2:=Hq h2;clear h2 hl;go_enter Tryz.func31,Tryz.ntmps31;go_wp2_with fail;refine(led_letter _ _).mono ?_;rintro e w1 ⟨rfl,rfl⟩;rw[H2.out];go_wp2;go_ret;exact⟨rfl,rfl⟩
     | true =>
      have H2':=Hq h2;rw[hl]at h2;have H2:=Hq h2;clear h2 hl
      cases h3:kwB s with
      | true =>
       rw[nameB_kw h3];have H3:=Hq h3;clear h3;go_enter Tryz.func31,Tryz.ntmps31;go_wp2_with fail;refine(led_letter _ _).mono ?_;rintro e w1 ⟨rfl,rfl⟩;rw[H2.out];go_wp2_with fail;refine(lex_Keyword _ _).mono ?_;rintro e w1 ⟨rfl,rfl⟩;rw[H3.out];go_wp2;go_ret;exact⟨rfl,rfl⟩
      | false =>
       have H3:=Hq h3;clear h3;go_enter Tryz.func31,Tryz.ntmps31;go_wp2_with fail;refine(led_letter _ _).mono ?_;rintro e w1 ⟨rfl,rfl⟩;rw[H2.out];go_wp2_with fail;refine(lex_Keyword _ _).mono ?_;rintro e w1 ⟨rfl,rfl⟩;rw[H3.out];go_wp2
       go_loop [24] (fun i=>∃ k:Nat,k≤s.size∧i=.int .i64 k∧∀ j,j<k→nchB (byteI s.data.toList j)=true) (fun i=>s.size - (intOf i).toNat)
       case atStart=>exact⟨0,Nat.zero_le _,rfl,fun j hj=>absurd hj (by omega)⟩
       case round =>
        obtain⟨k,hk,rfl,hall⟩:=hrel;have HALL:=Hq hall;clear hall;by_cases hlt:k<s.size
        · have hl:=byteI_get s k hlt
          cases hc:letterB (byteI s.data.toList k)with
          | true =>
           have hn:nchB (byteI s.data.toList k)=true:=by simp[nchB,hc]
           rw[hl]at hc;have HC:=Hq hc;have HN:=Hq hn;clear hc hn hl;go_wp2_with fail;refine(led_letter _ _).mono ?_;rintro e w1 ⟨rfl,rfl⟩;rw[HC.out];go_wp2;go_round;case rel=>exact⟨k+1,by omega,by go_num,fun j hj=>(by rcases Nat.lt_succ_iff_lt_or_eq.1 hj with h | h;exact HALL.out j h;subst h;exact HN.out)⟩
           case measure=>simp[intOf];omega
          | false =>
           rcases nch_cases _ hc with⟨h1,hn⟩ | ⟨h1,h2,hn⟩ | ⟨h1,h2,hn⟩ | ⟨h1,h2,h3,hn⟩
           all_goals
                  first
                  | (have hres := nameB_at hlt hn
                     have HRES:=Hq hres
                     clear hres)
                  | skip
                  rw[hl]at hc h1;try rw[hl]at h2
                  try rw[hl]at h3
                  have HC:=Hq hc;have HN:=Hq hn;first
                  | (have e1 := bne_false h1
                     clear h1)
                  | (have e1 := bne_iff_ne.2 h1
                     clear h1)
                  clear hc hn hl;go_wp2_with fail;refine(led_letter _ _).mono ?_;rintro e w1 ⟨rfl,rfl⟩;rw[HC.out];go_wp2;first
                  | (go_ret
                     exact⟨by rw[HRES.out];rfl,rfl⟩)
                  | (go_round
                     case rel=>exact⟨k+1,by omega,by go_num,fun j hj=>(by rcases Nat.lt_succ_iff_lt_or_eq.1 hj with h | h;exact HALL.out j h;subst h;exact HN.out)⟩
                     case measure=>simp[intOf];omega)
        · obtain rfl:k=s.size:=by omega
          have hr:=nameB_yes hp (by omega) H2'.out H3.out HALL.out;have HR:=Hq hr;clear hr;go_wp2;go_ret;exact⟨by rw[HR.out];rfl,rfl⟩
theorem eqz_true{k:Nat}(h:k=0):((k:Int)==0)=true:=by rw[h];rfl
theorem eqz_false{k:Nat}(h:k≠0):((k:Int)==0)=false:=beq_eq_false_iff_ne.2 (by omega)
theorem digit_nch{c:Int}(h:letterB c=false)(h1:c≠95):nchB c=digitB c:=by
 have e1:(c==95)=false:=beq_eq_false_iff_ne.2 h1;simp[nchB,h,e1]
theorem nch_us{c:Int}(h:c=95):nchB c=true:=by simp[nchB,h]
theorem r41_Name(s:ByteArray)(w:World)(hs:s.size≤9223372036854775807):Calls Tryz.prog 104 #[.string s] w (Ret (.bool (nameB s)) w):=by
 go_enter Tryz.func104,Tryz.ntmps104;go_wp2
 go_loop [3] (fun i=>∃ k:Nat,k≤s.size∧i=.int .i64 k∧(∀ j,j<k→nchB (byteI s.data.toList j)=true)∧(0<k→letterB (byteI s.data.toList 0)=true)) (fun i=>s.size - (intOf i).toNat)
 case atStart=>exact⟨0,Nat.zero_le _,rfl,fun j hj=>absurd hj (by omega),fun h=>absurd h (by omega)⟩
 case round =>
  obtain⟨k,hk,rfl,hall,hfst⟩:=hrel;have HALL:=Hq hall;have HFST:=Hq hfst;clear hall hfst;by_cases hlt:k<s.size
  · have hl:=byteI_get s k hlt
    cases hc:letterB (byteI s.data.toList k)with
    | true =>
     have hn:nchB (byteI s.data.toList k)=true:=by simp[nchB,hc]
     have HF:=Hq hc;rw[hl]at hc;have HC:=Hq hc;have HN:=Hq hn;clear hc hn hl;go_wp2_with fail;refine(r41_letter _ _).mono ?_;rintro e w1 ⟨rfl,rfl⟩;rw[HC.out];go_wp2;go_round;case rel=>exact⟨k+1,by omega,by go_num,fun j hj=>(by rcases Nat.lt_succ_iff_lt_or_eq.1 hj with h | h;exact HALL.out j h;subst h;exact HN.out),fun _=>(by rcases Nat.eq_zero_or_pos k with h | h;subst h;exact HF.out;exact HFST.out h)⟩
     case measure=>simp[intOf];omega
    | false =>
     by_cases hz:k=0
     · have hr:=hc;rw[hz]at hr;have hr:=nameB_first hr;have HR:=Hq hr;have ez:=eqz_true hz;rw[hl]at hc;have HC:=Hq hc;clear hc hl hr hz;go_wp2_with fail;refine(r41_letter _ _).mono ?_;rintro e w1 ⟨rfl,rfl⟩;rw[HC.out];go_wp2;go_ret;exact⟨by rw[HR.out];rfl,Below.refl _ _⟩
     · have ez:=eqz_false hz;by_cases hu:byteI s.data.toList k=95
       · have hn:=nch_us hu;rw[hl]at hc hu;have e1:=bne_false hu;have HC:=Hq hc;have HN:=Hq hn;have HZ:=Hq hz;clear hc hl hu hn hz;go_wp2_with fail;refine(r41_letter _ _).mono ?_;rintro e w1 ⟨rfl,rfl⟩;rw[HC.out];go_wp2;go_round;case rel=>exact⟨k+1,by omega,by go_num,fun j hj=>(by rcases Nat.lt_succ_iff_lt_or_eq.1 hj with h | h;exact HALL.out j h;subst h;exact HN.out),fun _=>HFST.out (Nat.pos_of_ne_zero HZ.out)⟩
         case measure=>simp[intOf];omega
       · have hn:=digit_nch hc hu
         cases hd:digitB (byteI s.data.toList k)with
         | true =>
          rw[hd]at hn;rw[hl]at hc hu hd;have e1:=bne_iff_ne.2 hu;have HC:=Hq hc;have HD:=Hq hd;have HN:=Hq hn;have HZ:=Hq hz;clear hc hl hu hn hz hd;go_wp2_with fail;refine(r41_letter _ _).mono ?_;rintro e w1 ⟨rfl,rfl⟩;rw[HC.out];go_wp2_with fail;refine(r41_digit _ _).mono ?_;rintro e w1 ⟨rfl,rfl⟩;rw[HD.out];go_wp2;go_round;case rel=>exact⟨k+1,by omega,by go_num,fun j hj=>(by rcases Nat.lt_succ_iff_lt_or_eq.1 hj with h | h;exact HALL.out j h;subst h;exact HN.out),fun _=>HFST.out (Nat.pos_of_ne_zero HZ.out)⟩
          case measure=>simp[intOf];omega
         | false =>
          rw[hd]at hn;have hr:=nameB_at hlt hn;rw[hl]at hc hu hd;have e1:=bne_iff_ne.2 hu;have HC:=Hq hc;have HD:=Hq hd;have HR:=Hq hr;clear hc hl hu hn hz hd hr;go_wp2_with fail;refine(r41_letter _ _).mono ?_;rintro e w1 ⟨rfl,rfl⟩;rw[HC.out];go_wp2_with fail;refine(r41_digit _ _).mono ?_;rintro e w1 ⟨rfl,rfl⟩;rw[HD.out];go_wp2;go_ret;exact⟨by rw[HR.out];rfl,Below.refl _ _⟩
  · obtain rfl:k=s.size:=by omega
    by_cases h0:s.size=0
    · have hr:=nameB_nil h0;have HR:=Hq hr;have e0:=sempty_true h0;clear hr;go_wp2;go_ret;exact⟨by rw[HR.out];rfl,Below.refl _ _⟩
    · have hp:0<s.size:=by omega
      have e0:=sempty_false hp;by_cases h1:32<s.size
      · have hr:=nameB_long h1;have HR:=Hq hr;clear hr;go_wp2;go_ret;exact⟨by rw[HR.out];rfl,Below.refl _ _⟩
      · cases h3:kwB s with
        | true =>
         have hr:=nameB_kw h3;have HR:=Hq hr;have H3:=Hq h3;clear hr h3;go_wp2_with fail;refine(r40_Keyword _ _).mono ?_;rintro e w1 ⟨rfl,hb⟩;rw[H3.out];have HB:=Hq hb;clear hb;go_wp2;go_ret;exact⟨by rw[HR.out];rfl,HB.out⟩
        | false =>
         have hr:=nameB_yes hp (by omega) (HFST.out hp) h3 HALL.out;have HR:=Hq hr;have H3:=Hq h3;clear hr h3;go_wp2_with fail;refine(r40_Keyword _ _).mono ?_;rintro e w1 ⟨rfl,hb⟩;rw[H3.out];have HB:=Hq hb;clear hb;go_wp2;go_ret;exact⟨by rw[HR.out];rfl,HB.out⟩
set_option maxHeartbeats 800000
theorem enc_NatV(a:ByteArray)(w:World):Calls Tryz.prog 36 #[.string a] w (Ret (.agg #[.int .i64 0,.string a,.string ⟨#[]⟩,.slice none 0 0]) w):=by
 go_enter Tryz.func36,Tryz.ntmps36;go_wp2;exact bodyPost_ret (v:=.agg #[.int .i64 0,.string a,.string ⟨#[]⟩,.slice none 0 0]) (by simp[results,Tryz.results36,go_sem]) rfl ⟨rfl,(blr).alloc nlr _⟩
theorem enc_TextV(a:ByteArray)(w:World):Calls Tryz.prog 34 #[.string a] w (Ret (.agg #[.int .i64 1,.string ⟨#[]⟩,.string a,.slice none 0 0]) w):=by
 go_enter Tryz.func34,Tryz.ntmps34;go_wp2;exact bodyPost_ret (v:=.agg #[.int .i64 1,.string ⟨#[]⟩,.string a,.slice none 0 0]) (by simp[results,Tryz.results34,go_sem]) rfl ⟨rfl,(blr).alloc nlr _⟩
theorem r08_NatV(a:ByteArray)(w:World):Calls Tryz.prog 105 #[.string a] w (Ret (.agg #[.int .i64 0,.string a,.string ⟨#[]⟩,.slice none 0 0]) w):=by
 go_enter Tryz.func105,Tryz.ntmps105;go_wp2;exact bodyPost_ret (v:=.agg #[.int .i64 0,.string a,.string ⟨#[]⟩,.slice none 0 0]) (by simp[results,Tryz.results105,go_sem]) rfl ⟨rfl,(blr).alloc nlr _⟩
theorem r08_TextV(a:ByteArray)(w:World):Calls Tryz.prog 73 #[.string a] w (Ret (.agg #[.int .i64 1,.string ⟨#[]⟩,.string a,.slice none 0 0]) w):=by
 go_enter Tryz.func73,Tryz.ntmps73;go_wp2;exact bodyPost_ret (v:=.agg #[.int .i64 1,.string ⟨#[]⟩,.string a,.slice none 0 0]) (by simp[results,Tryz.results73,go_sem]) rfl ⟨rfl,(blr).alloc nlr _⟩
theorem led_number(n:Nat)(w:World)(h:n<9223372036854775808):Calls Tryz.prog 35 #[.int .i64 n] w (Ret (.agg #[.int .i64 0,.string (bstr (encN n)),.string ⟨#[]⟩,.slice none 0 0]) w):=by
 have h1:(n:Int)%18446744073709551616=n:=by omega
 have H:=Hq h;clear h;obtain⟨W0,hW0⟩:∃ W0,w.alloc (.cells #[.int .i64 0,.string ⟨#[]⟩,.string ⟨#[]⟩,.slice none 0 0] 81)=W0:=⟨_,rfl⟩;have hres0:W0.heap[w.heap.size]? =some (.cells #[.int .i64 0,.string ⟨#[]⟩,.string ⟨#[]⟩,.slice none 0 0] 81 (0,0)):=by rw[←hW0];exact heap_alloc_new _ _
 have hb0:Below w.heap.size w W0:=by rw[←hW0];exact(blr).alloc nlr _
 have HW0:=Hq hW0;have HR0:=Hq hres0;have HB0:=Hq hb0;clear hW0 hres0 hb0;go_enter Tryz.func35,Tryz.ntmps35;go_wp2_with fail;rw[HW0.out];refine(nat_Of n (by have:=H.out;omega) _).mono ?_;rintro e w1 ⟨rfl,hb1⟩;have HR1:=Hq (block_kept hb1 nlr HR0.out);have HB1:=Hq (HB0.out.trans (hb1.mono HB0.out.size));clear hb1;go_wp2_with fail;refine(enc_NatV _ _).mono ?_;rintro e w2 ⟨rfl,hb2⟩;have hres:=block_kept hb2 nlr HR1.out;have HB2:=Hq (HB1.out.trans (hb2.mono HB1.out.size));obtain⟨rc0,rc1,rc2,rc3⟩:=four_cells hres;obtain⟨rf0,rf1,rf2,rf3⟩:=four_free hres;have HRES:=Hq hres;clear hb2 hres;go_wp2;have HE:=Hq (four_cells (set4_block HRES.out (.int .i64 0) (.string (bstr (encN n))) (.string ⟨#[]⟩) (.slice none 0 0)));have HBE:=Hq (set4_below HB2.out (b:=w.heap.size) nlr (.int .i64 0) (.string (bstr (encN n))) (.string ⟨#[]⟩) (.slice none 0 0));unfold set4 at HE HBE;obtain⟨wf,hwf⟩:∃ wf,(((w2.setCell ⟨w.heap.size,0,none⟩ (.int .i64 0)).setCell ⟨w.heap.size,1,none⟩ (.string (bstr (encN n)))).setCell ⟨w.heap.size,2,none⟩ (.string ⟨#[]⟩)).setCell ⟨w.heap.size,3,none⟩ (.slice none 0 0)=wf:=⟨_,rfl⟩;rw[hwf]at HE HBE⊢;obtain⟨q0,q1,q2,q3⟩:=HE.out;exact bodyPost_ret (v:=.agg #[.int .i64 0,.string (bstr (encN n)),.string ⟨#[]⟩,.slice none 0 0]) (by simp[results,Tryz.results35,go_sem,q0,q1,q2,q3]) rfl ⟨rfl,HBE.out⟩
theorem r57_nat(n:Nat)(w:World)(h:n<9223372036854775808):Calls Tryz.prog 74 #[.int .i64 n] w (Ret (.agg #[.int .i64 0,.string (bstr (encN n)),.string ⟨#[]⟩,.slice none 0 0]) w):=by
 have h1:(n:Int)%18446744073709551616=n:=by omega
 have H:=Hq h;clear h;obtain⟨W0,hW0⟩:∃ W0,w.alloc (.cells #[.int .i64 0,.string ⟨#[]⟩,.string ⟨#[]⟩,.slice none 0 0] 81)=W0:=⟨_,rfl⟩;have hres0:W0.heap[w.heap.size]? =some (.cells #[.int .i64 0,.string ⟨#[]⟩,.string ⟨#[]⟩,.slice none 0 0] 81 (0,0)):=by rw[←hW0];exact heap_alloc_new _ _
 have hb0:Below w.heap.size w W0:=by rw[←hW0];exact(blr).alloc nlr _
 have HW0:=Hq hW0;have HR0:=Hq hres0;have HB0:=Hq hb0;clear hW0 hres0 hb0;go_enter Tryz.func74,Tryz.ntmps74;go_wp2_with fail;rw[HW0.out];refine(r01_Of n (by have:=H.out;omega) _).mono ?_;rintro e w1 ⟨rfl,hb1⟩;have HR1:=Hq (block_kept hb1 nlr HR0.out);have HB1:=Hq (HB0.out.trans (hb1.mono HB0.out.size));clear hb1;go_wp2_with fail;refine(r08_NatV _ _).mono ?_;rintro e w2 ⟨rfl,hb2⟩;have hres:=block_kept hb2 nlr HR1.out;have HB2:=Hq (HB1.out.trans (hb2.mono HB1.out.size));obtain⟨rc0,rc1,rc2,rc3⟩:=four_cells hres;obtain⟨rf0,rf1,rf2,rf3⟩:=four_free hres;have HRES:=Hq hres;clear hb2 hres;go_wp2;have HE:=Hq (four_cells (set4_block HRES.out (.int .i64 0) (.string (bstr (encN n))) (.string ⟨#[]⟩) (.slice none 0 0)));have HBE:=Hq (set4_below HB2.out (b:=w.heap.size) nlr (.int .i64 0) (.string (bstr (encN n))) (.string ⟨#[]⟩) (.slice none 0 0));unfold set4 at HE HBE;obtain⟨wf,hwf⟩:∃ wf,(((w2.setCell ⟨w.heap.size,0,none⟩ (.int .i64 0)).setCell ⟨w.heap.size,1,none⟩ (.string (bstr (encN n)))).setCell ⟨w.heap.size,2,none⟩ (.string ⟨#[]⟩)).setCell ⟨w.heap.size,3,none⟩ (.slice none 0 0)=wf:=⟨_,rfl⟩;rw[hwf]at HE HBE⊢;obtain⟨q0,q1,q2,q3⟩:=HE.out;exact bodyPost_ret (v:=.agg #[.int .i64 0,.string (bstr (encN n)),.string ⟨#[]⟩,.slice none 0 0]) (by simp[results,Tryz.results74,go_sem,q0,q1,q2,q3]) rfl ⟨rfl,HBE.out⟩
structure En where
 kind:Int
 handle:ByteArray
 schema:ByteArray
 epoch:Int
def En.val(e:En):Value:=.agg #[.int .i64 e.kind,.string e.handle,.string e.schema,.int .i64 e.epoch]
def lowB(h:ByteArray):Bool:=decide (ordB h ⟨#[3]⟩<0)
def formB(e:En):Bool:=nvalid e.handle&&(if e.kind=0 then !lowB e.handle&&nameB e.schema else if e.kind=1 then !lowB e.handle&&e.schema.size==0 else if e.kind=2 then e.handle.size==0&&e.schema.size==0 else false)
abbrev itsE(q:Nat)(h s:ByteArray)(p:Nat):List It:=[.mk 1 ⟨#[]⟩ ⟨#[101,110,116,114,121]⟩ [],.mk 0 (bstr (encN q)) ⟨#[]⟩ [],.mk 0 h ⟨#[]⟩ [],.mk 1 ⟨#[]⟩ s [],.mk 0 (bstr (encN p)) ⟨#[]⟩ []]
def itE(q:Nat)(h s:ByteArray)(p:Nat):It:=.mk 2 ⟨#[]⟩ ⟨#[]⟩ (itsE q h s p)
def msgS(e:En):ByteArray×Int:=if formB e=false then(⟨#[]⟩,3)else if e.epoch<0∨4096<e.epoch then(⟨#[]⟩,2)else encS (itE e.kind.toNat e.handle e.schema e.epoch.toNat)
theorem itE_weight{q p:Nat}{h s:ByteArray}(hq:q≤2)(hp:p≤4096)(hh:h.size≤128)(hs:s.size≤32):(itE q h s p).weight≤1000000000:=by
 have h1:(encN q).length≤8:=encN_length_le.2 (by omega);have h2:(encN p).length≤8:=encN_length_le.2 (by omega);simp only[itE,It.weight,Its.weight,bstr_size];have e1:(⟨#[]⟩:ByteArray).size=0:=rfl;have e2:(⟨#[101,110,116,114,121]⟩:ByteArray).size=5:=rfl;omega
theorem three:bstr (encN 3)=⟨#[3]⟩:=rfl
theorem low_no{h:ByteArray}(hv:nvalid h=true)(hl:lowB h=false):∃ c:Int,ncmp h ⟨#[3]⟩=c∧0≤c:=by
 have h3:nvalid ⟨#[3]⟩=true:=rfl;refine⟨_,rfl,?_⟩;simp only[ncmp,hv,h3,Bool.and_self,if_true];have:=of_decide_eq_false hl;omega
theorem low_yes{h:ByteArray}(hv:nvalid h=true)(hl:lowB h=true):∃ c:Int,ncmp h ⟨#[3]⟩=c∧¬ 0≤c:=by
 have h3:nvalid ⟨#[3]⟩=true:=rfl;refine⟨_,rfl,?_⟩;simp only[ncmp,hv,h3,Bool.and_self,if_true];have:=of_decide_eq_true hl;omega
theorem row5{w:World}{T:TypeId}{fr:Nat×Nat}{b:Nat}{k0 k1 k2 k3 k4:Int}{n0 n1 n2 n3 n4 t0 t1 t2 t3 t4:ByteArray}
 (hb:w.heap[b]? =some (.cells #[.int .i64 k0,.string n0,.string t0,.slice none 0 0,.int .i64 k1,.string n1,.string t1,.slice none 0 0,.int .i64 k2,.string n2,.string t2,.slice none 0 0,.int .i64 k3,.string n3,.string t3,.slice none 0 0,.int .i64 k4,.string n4,.string t4,.slice none 0 0] T fr)) :
 SlAt w (fun _=>True) (some ⟨b,0,none⟩) 5 5 [.mk k0 n0 t0 [],.mk k1 n1 t1 [],.mk k2 n2 t2 [],.mk k3 n3 t3 [],.mk k4 n4 t4 []]:=by
 have hc:=fun k=>Lib.cell_of_heap hb (j:=k);refine⟨rfl,Nat.le_refl _,by omega,b,0,fun _=>⟨rfl,trivial⟩,?_⟩;refine⟨CellsAt.mk' (hc 0) (hc 1) (hc 2) (hc 3) (SlAt.nil _ _),CellsAt.mk' (hc 4) (hc 5) (hc 6) (hc 7) (SlAt.nil _ _),CellsAt.mk' (hc 8) (hc 9) (hc 10) (hc 11) (SlAt.nil _ _),CellsAt.mk' (hc 12) (hc 13) (hc 14) (hc 15) (SlAt.nil _ _),CellsAt.mk' (hc 16) (hc 17) (hc 18) (hc 19) (SlAt.nil _ _),trivial⟩
theorem en_box(w:World)(q p:Int)(h s:ByteArray)(T:TypeId):∃ W0,Hid (w.alloc (.cells #[.int .i64 q,.string h,.string s,.int .i64 p] T)=W0)∧Hid (Below w.heap.size w W0)∧w.heap.size+1≤W0.heap.size∧W0.cell? ⟨w.heap.size,0,none⟩=some (.int .i64 q)∧W0.cell? ⟨w.heap.size,1,none⟩=some (.string h)∧W0.cell? ⟨w.heap.size,2,none⟩=some (.string s)∧W0.cell? ⟨w.heap.size,3,none⟩=some (.int .i64 p):=by
 obtain⟨W0,hW0⟩:∃ W0,w.alloc (.cells #[.int .i64 q,.string h,.string s,.int .i64 p] T)=W0:=⟨_,rfl⟩;have hbox:W0.heap[w.heap.size]? =some (.cells #[.int .i64 q,.string h,.string s,.int .i64 p] T (0,0)):=by rw[←hW0];exact heap_alloc_new _ _
 have hb0:Below w.heap.size w W0:=by rw[←hW0];exact(blr).alloc nlr _
 exact⟨W0,Hq hW0,Hq hb0,block_lt hbox,four_cells hbox⟩
set_option maxRecDepth 100000
set_option maxHeartbeats 4000000
theorem led_Message_0(q p:Nat)(h s:ByteArray)(w:World)(hq:((q:Int)==0)=true)(hh:h.size≤128)(hs:s.size≤32)(hv:nvalid h=true)(hl:lowB h=false)(hn:nameB s=true)(hq2:q≤2)(hp:p≤4096):Calls Tryz.prog 10 #[.agg #[.int .i64 q,.string h,.string s,.int .i64 p]] w (RetSE (encS (itE q h s p)) w):=by
 obtain⟨W0,HW0,HA0,hz,b0,b1,b2,b3⟩:=en_box w q p h s 47;have HL:=Hq hl;have HN:=Hq hn;clear hl hn;have HV:=Hq hv;clear hv;go_enter Tryz.func10,Tryz.ntmps10;go_wp2_with fail;rw[HW0.out];refine(nat_Valid h (by omega) _).mono ?_;rintro e w1 ⟨rfl,rfl⟩;rw[HV.out];go_wp2;refine wp_region_K 14 (Below (W0.drew).heap.size (W0.drew)) (by kernel_rfl) ?_;intro hD;have KK1:=Hq (fun w' (hS':(Below (W0.drew).heap.size (W0.drew)) w')=>And.intro (kC hS' b0) (And.intro (kC hS' b1) (And.intro (kC hS' b2) (kC hS' b3))));refine rP 0 12 13 rfl hD blr ?_;clear hD;intro hD;refine rP 1 13 12 rfl hD blr ?_;clear hD;intro hD;refine rP 2 14 11 rfl hD blr ?_;clear hD;intro hD;refine rT 3 15 10 rfl hD blr (by intro w' hS';obtain⟨e0,e1,e2,e3⟩:=KK1.out w' hS';go_simp;with_reducible rfl) ?_;clear hD;intro hD;simp only[Act.put,sqA,sqB,sqC];refine rO 4 9 rfl hD ?_;clear hD;intro K4 hK4;go_wp2_with fail;refine(nat_Of 3 (by omega) _).mono ?_;rintro e w2 ⟨rfl,hb2⟩;have HB4:=Hq hb2;clear hb2;rw[three];go_wp2;refine hK4 _ _ (by exact HB4.out) ?_;clear hK4;intro hS_5_4 hD;refine rO 5 8 rfl hD ?_;clear hD;intro K5 hK5;go_wp2_with fail;refine(nat_Cmp h _ (by omega) (by decide) _).mono ?_;rintro e w3 ⟨rfl,rfl⟩;obtain⟨c,hc,hc0⟩:=low_no HV.out HL.out;rw[hc];have HC:=Hq hc;clear hc;go_wp2;refine hK5 _ _ (by exact hS_5_4) ?_;clear hK5;intro hS_5_5 hD;refine rP 6 18 7 rfl hD hS_5_5 ?_;clear hD;intro hD;refine rP 7 19 6 rfl hD hS_5_5 ?_;clear hD;intro hD;refine rP 8 20 5 rfl hD hS_5_5 ?_;clear hD;intro hD;refine rP 9 21 4 rfl hD hS_5_5 ?_;clear hD;intro hD;refine rT 10 22 3 rfl hD hS_5_5 (by intro w' hS';obtain⟨e0,e1,e2,e3⟩:=KK1.out w' hS';go_simp;with_reducible rfl) ?_;clear hD;intro hD;simp only[Act.put,sqA,sqB,sqC];refine rO 11 2 rfl hD ?_;clear hD;intro K11 hK11;go_wp2_with fail;refine(led_name s _ (by omega)).mono ?_;rintro e w4 ⟨rfl,rfl⟩;rw[HN.out];go_wp2;refine hK11 _ _ (by exact hS_5_5) ?_;clear hK11;intro hS_5_11 hD;refine rP 12 24 1 rfl hD hS_5_11 ?_;clear hD;intro hD;simp only[Act.put,sqA,sqB,sqC];refine rO 13 0 rfl hD ?_;clear hD;intro K13 hK13;go_wp2;refine hK13 _ _ (by exact hS_5_11) ?_;clear hK13;intro hS_5_13 hD;refine wpD ?_;have HS5:=Hq hS_5_13;clear hD;have d0:=kc HS5.out b0;have d1:=kc HS5.out b1;have d2:=kc HS5.out b2;have d3:=kc HS5.out b3;have hz2:w.heap.size+1≤w2.heap.size:=Nat.le_trans hz HS5.out.size;have HA1:=Hq (HA0.out.drew.trans (HS5.out.mono (by simp;omega)));clear b0 b1 b2 b3 HS5 HA0 HW0;go_wp2;refine wp_region_K 20 (Below (w2.drew).heap.size (w2.drew)) (by kernel_rfl) ?_;intro hD;have KK2:=Hq (fun w' (hS':(Below (w2.drew).heap.size (w2.drew)) w')=>And.intro (kC hS' d0) (And.intro (kC hS' d1) (And.intro (kC hS' d2) (kC hS' d3))));refine rP 1 64 19 rfl hD blr ?_;clear hD;intro hD;refine rT 2 65 18 rfl hD blr (by intro w' hS';obtain⟨e0,e1,e2,e3⟩:=KK2.out w' hS';go_simp;with_reducible rfl) ?_;clear hD;intro hD;refine rP 4 67 17 rfl hD blr ?_;clear hD;intro hD;refine rT 5 68 16 rfl hD blr (by intro w' hS';obtain⟨e0,e1,e2,e3⟩:=KK2.out w' hS';go_simp;with_reducible rfl) ?_;clear hD;intro hD;refine rP 7 70 15 rfl hD blr ?_;clear hD;intro hD;refine rT 8 71 14 rfl hD blr (by intro w' hS';obtain⟨e0,e1,e2,e3⟩:=KK2.out w' hS';go_simp;with_reducible rfl) ?_;clear hD;intro hD;refine rP 10 73 13 rfl hD blr ?_;clear hD;intro hD;refine rT 11 74 12 rfl hD blr (by intro w' hS';obtain⟨e0,e1,e2,e3⟩:=KK2.out w' hS';go_simp;with_reducible rfl) ?_;clear hD;intro hD;simp only[Act.put,sqA,sqB,sqC];refine rO 0 11 rfl hD ?_;clear hD;intro K0 hK0;go_wp2_with fail;refine(enc_TextV _ _).mono ?_;rintro e w10 ⟨rfl,hb10⟩;have HB0:=Hq hb10;clear hb10;go_wp2;refine hK0 _ _ (by exact HB0.out) ?_;clear hK0;intro hS_14_0 hD;refine rO 3 10 rfl hD ?_;clear hD;intro K3 hK3;go_wp2_with fail;refine(led_number q _ (by omega)).mono ?_;rintro e w11 ⟨rfl,hb11⟩;have HB3:=Hq hb11;clear hb11;go_wp2;refine hK3 _ _ (by exact Below.trans hS_14_0 (Below.mono HB3.out (Below.size hS_14_0))) ?_;clear hK3;intro hS_14_3 hD;refine rO 6 9 rfl hD ?_;clear hD;intro K6 hK6;go_wp2_with fail;refine(enc_NatV _ _).mono ?_;rintro e w12 ⟨rfl,hb12⟩;have HB6:=Hq hb12;clear hb12;go_wp2;refine hK6 _ _ (by exact Below.trans hS_14_3 (Below.mono HB6.out (Below.size hS_14_3))) ?_;clear hK6;intro hS_14_6 hD;refine rO 9 8 rfl hD ?_;clear hD;intro K9 hK9;go_wp2_with fail;refine(enc_TextV _ _).mono ?_;rintro e w13 ⟨rfl,hb13⟩;have HB9:=Hq hb13;clear hb13;go_wp2;refine hK9 _ _ (by exact Below.trans hS_14_6 (Below.mono HB9.out (Below.size hS_14_6))) ?_;clear hK9;intro hS_14_9 hD;refine rO 12 7 rfl hD ?_;clear hD;intro K12 hK12;go_wp2_with fail;refine(led_number p _ (by omega)).mono ?_;rintro e w14 ⟨rfl,hb14⟩;have HB12:=Hq hb14;clear hb14;go_wp2;refine hK12 _ _ (by exact Below.trans hS_14_9 (Below.mono HB12.out (Below.size hS_14_9))) ?_;clear hK12;intro hS_14_12 hD;refine rO 13 6 rfl hD ?_;clear hD;intro K13 hK13;go_wp2;refine hK13 _ _ (by exact Below.alloc hS_14_12 (Below.size hS_14_12) _) ?_;clear hK13;intro hS_14_13 hD;refine rO 14 5 rfl hD ?_;clear hD;intro K14 hK14;go_wp2_with fail;refine(enc_List (itsE q h s p) _ 5 5 _ _ (Nat.le_of_ble_eq_true rfl) (row5 (heap_alloc_new w14 _))).mono ?_;rintro e w15 ⟨v15,rfl,hi15,hb15⟩;have HB14:=Hq hb15;have HI15:=Hq hi15;clear hb15 hi15;go_wp2;refine hK14 _ _ (by exact Below.trans hS_14_13 (Below.mono HB14.out (Below.size hS_14_13))) ?_;clear hK14;intro hS_14_14 hD;refine rO 15 4 rfl hD ?_;clear hD;intro K15 hK15;go_wp2_with fail;refine(enc_Encode _ v15 _ _ (itE_weight hq2 hp hh hs) HI15.out).mono ?_;rintro e w16 ⟨rfl,hb16⟩;have HB15:=Hq hb16;clear hb16;obtain⟨r1,r2,hr⟩:∃ r1 r2,encS (itE q h s p)=(r1,r2):=⟨_,_,rfl⟩;have HR:=Hq hr;rw[hr];clear hr;go_wp2;refine hK15 _ _ (by exact Below.trans hS_14_14 (Below.mono HB15.out (Below.size hS_14_14))) ?_;clear hK15;intro hS_14_15 hD;refine rP 16 79 3 rfl hD hS_14_15 ?_;clear hD;intro hD;refine rP 17 80 2 rfl hD hS_14_15 ?_;clear hD;intro hD;simp only[Act.put,sqA,sqB,sqC];refine rO 18 1 rfl hD ?_;clear hD;intro K18 hK18;go_wp2;refine hK18 _ _ (by exact hS_14_15) ?_;clear hK18;intro hS_14_18 hD;refine rO 19 0 rfl hD ?_;clear hD;intro K19 hK19;go_wp2;refine hK19 _ _ (by exact hS_14_18) ?_;clear hK19;intro hS_14_19 hD;refine wpD ?_;clear hD;go_wp2;go_ret2;exact⟨by rw[HR.out];rfl,HA1.out.drew.trans ((hS_14_19).mono (by simp;omega))⟩
theorem led_Message_0r(q:Nat)(p:Int)(h s:ByteArray)(w:World)(hq:((q:Int)==0)=true)(hh:h.size≤128)(hs:s.size≤32)(hv:nvalid h=true)(hl:lowB h=false)(hn:nameB s=true)(hp:p<0∨4096<p):Calls Tryz.prog 10 #[.agg #[.int .i64 q,.string h,.string s,.int .i64 p]] w (RetSE (⟨#[]⟩,2) w):=by
 rcases hp with hp | hp
 · skip;obtain⟨W0,HW0,HA0,hz,b0,b1,b2,b3⟩:=en_box w q p h s 47;have HL:=Hq hl;have HN:=Hq hn;clear hl hn;have HV:=Hq hv;clear hv;go_enter Tryz.func10,Tryz.ntmps10;go_wp2_with fail;rw[HW0.out];refine(nat_Valid h (by omega) _).mono ?_;rintro e w1 ⟨rfl,rfl⟩;rw[HV.out];go_wp2;refine wp_region_K 14 (Below (W0.drew).heap.size (W0.drew)) (by kernel_rfl) ?_;intro hD;have KK3:=Hq (fun w' (hS':(Below (W0.drew).heap.size (W0.drew)) w')=>And.intro (kC hS' b0) (And.intro (kC hS' b1) (And.intro (kC hS' b2) (kC hS' b3))));refine rP 0 12 13 rfl hD blr ?_;clear hD;intro hD;refine rP 1 13 12 rfl hD blr ?_;clear hD;intro hD;refine rP 2 14 11 rfl hD blr ?_;clear hD;intro hD;refine rT 3 15 10 rfl hD blr (by intro w' hS';obtain⟨e0,e1,e2,e3⟩:=KK3.out w' hS';go_simp;with_reducible rfl) ?_;clear hD;intro hD;simp only[Act.put,sqA,sqB,sqC];refine rO 4 9 rfl hD ?_;clear hD;intro K4 hK4;go_wp2_with fail;refine(nat_Of 3 (by omega) _).mono ?_;rintro e w2 ⟨rfl,hb2⟩;have HB4:=Hq hb2;clear hb2;rw[three];go_wp2;refine hK4 _ _ (by exact HB4.out) ?_;clear hK4;intro hS_5_4 hD;refine rO 5 8 rfl hD ?_;clear hD;intro K5 hK5;go_wp2_with fail;refine(nat_Cmp h _ (by omega) (by decide) _).mono ?_;rintro e w3 ⟨rfl,rfl⟩;obtain⟨c,hc,hc0⟩:=low_no HV.out HL.out;rw[hc];have HC:=Hq hc;clear hc;go_wp2;refine hK5 _ _ (by exact hS_5_4) ?_;clear hK5;intro hS_5_5 hD;refine rP 6 18 7 rfl hD hS_5_5 ?_;clear hD;intro hD;refine rP 7 19 6 rfl hD hS_5_5 ?_;clear hD;intro hD;refine rP 8 20 5 rfl hD hS_5_5 ?_;clear hD;intro hD;refine rP 9 21 4 rfl hD hS_5_5 ?_;clear hD;intro hD;refine rT 10 22 3 rfl hD hS_5_5 (by intro w' hS';obtain⟨e0,e1,e2,e3⟩:=KK3.out w' hS';go_simp;with_reducible rfl) ?_;clear hD;intro hD;simp only[Act.put,sqA,sqB,sqC];refine rO 11 2 rfl hD ?_;clear hD;intro K11 hK11;go_wp2_with fail;refine(led_name s _ (by omega)).mono ?_;rintro e w4 ⟨rfl,rfl⟩;rw[HN.out];go_wp2;refine hK11 _ _ (by exact hS_5_5) ?_;clear hK11;intro hS_5_11 hD;refine rP 12 24 1 rfl hD hS_5_11 ?_;clear hD;intro hD;simp only[Act.put,sqA,sqB,sqC];refine rO 13 0 rfl hD ?_;clear hD;intro K13 hK13;go_wp2;refine hK13 _ _ (by exact hS_5_11) ?_;clear hK13;intro hS_5_13 hD;refine wpD ?_;have HS5:=Hq hS_5_13;clear hD;have d0:=kc HS5.out b0;have d1:=kc HS5.out b1;have d2:=kc HS5.out b2;have d3:=kc HS5.out b3;have hz2:w.heap.size+1≤w2.heap.size:=Nat.le_trans hz HS5.out.size;have HA1:=Hq (HA0.out.drew.trans (HS5.out.mono (by simp;omega)));clear b0 b1 b2 b3 HS5 HA0 HW0;go_wp2;go_ret2;exact⟨rfl,HA1.out⟩
 · skip;obtain⟨W0,HW0,HA0,hz,b0,b1,b2,b3⟩:=en_box w q p h s 47;have HL:=Hq hl;have HN:=Hq hn;clear hl hn;have HV:=Hq hv;clear hv;go_enter Tryz.func10,Tryz.ntmps10;go_wp2_with fail;rw[HW0.out];refine(nat_Valid h (by omega) _).mono ?_;rintro e w1 ⟨rfl,rfl⟩;rw[HV.out];go_wp2;refine wp_region_K 14 (Below (W0.drew).heap.size (W0.drew)) (by kernel_rfl) ?_;intro hD;have KK4:=Hq (fun w' (hS':(Below (W0.drew).heap.size (W0.drew)) w')=>And.intro (kC hS' b0) (And.intro (kC hS' b1) (And.intro (kC hS' b2) (kC hS' b3))));refine rP 0 12 13 rfl hD blr ?_;clear hD;intro hD;refine rP 1 13 12 rfl hD blr ?_;clear hD;intro hD;refine rP 2 14 11 rfl hD blr ?_;clear hD;intro hD;refine rT 3 15 10 rfl hD blr (by intro w' hS';obtain⟨e0,e1,e2,e3⟩:=KK4.out w' hS';go_simp;with_reducible rfl) ?_;clear hD;intro hD;simp only[Act.put,sqA,sqB,sqC];refine rO 4 9 rfl hD ?_;clear hD;intro K4 hK4;go_wp2_with fail;refine(nat_Of 3 (by omega) _).mono ?_;rintro e w2 ⟨rfl,hb2⟩;have HB4:=Hq hb2;clear hb2;rw[three];go_wp2;refine hK4 _ _ (by exact HB4.out) ?_;clear hK4;intro hS_5_4 hD;refine rO 5 8 rfl hD ?_;clear hD;intro K5 hK5;go_wp2_with fail;refine(nat_Cmp h _ (by omega) (by decide) _).mono ?_;rintro e w3 ⟨rfl,rfl⟩;obtain⟨c,hc,hc0⟩:=low_no HV.out HL.out;rw[hc];have HC:=Hq hc;clear hc;go_wp2;refine hK5 _ _ (by exact hS_5_4) ?_;clear hK5;intro hS_5_5 hD;refine rP 6 18 7 rfl hD hS_5_5 ?_;clear hD;intro hD;refine rP 7 19 6 rfl hD hS_5_5 ?_;clear hD;intro hD;refine rP 8 20 5 rfl hD hS_5_5 ?_;clear hD;intro hD;refine rP 9 21 4 rfl hD hS_5_5 ?_;clear hD;intro hD;refine rT 10 22 3 rfl hD hS_5_5 (by intro w' hS';obtain⟨e0,e1,e2,e3⟩:=KK4.out w' hS';go_simp;with_reducible rfl) ?_;clear hD;intro hD;simp only[Act.put,sqA,sqB,sqC];refine rO 11 2 rfl hD ?_;clear hD;intro K11 hK11;go_wp2_with fail;refine(led_name s _ (by omega)).mono ?_;rintro e w4 ⟨rfl,rfl⟩;rw[HN.out];go_wp2;refine hK11 _ _ (by exact hS_5_5) ?_;clear hK11;intro hS_5_11 hD;refine rP 12 24 1 rfl hD hS_5_11 ?_;clear hD;intro hD;simp only[Act.put,sqA,sqB,sqC];refine rO 13 0 rfl hD ?_;clear hD;intro K13 hK13;go_wp2;refine hK13 _ _ (by exact hS_5_11) ?_;clear hK13;intro hS_5_13 hD;refine wpD ?_;have HS5:=Hq hS_5_13;clear hD;have d0:=kc HS5.out b0;have d1:=kc HS5.out b1;have d2:=kc HS5.out b2;have d3:=kc HS5.out b3;have hz2:w.heap.size+1≤w2.heap.size:=Nat.le_trans hz HS5.out.size;have HA1:=Hq (HA0.out.drew.trans (HS5.out.mono (by simp;omega)));clear b0 b1 b2 b3 HS5 HA0 HW0;go_wp2;go_ret2;exact⟨rfl,HA1.out⟩
end Go.Proofs.YtopmeciihijgiaaGreatDoor
