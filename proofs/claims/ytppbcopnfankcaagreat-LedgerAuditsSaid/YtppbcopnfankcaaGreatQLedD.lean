import Derived.Test.YtppbcopnfankcaaGreatQOrd
import Derived.Test.YtppbcopnfankcaaGreatQGsh
set_option linter.unusedVariables false
set_option linter.unusedSimpArgs false
namespace Go.Proofs.YtppbcopnfankcaaGreat
set_option maxRecDepth 100000
set_option maxHeartbeats 4000000
open Go.RowKit
def jy(c:Int):Bool:=decide (97≤c)&&decide (c≤122)||decide (65≤c)&&decide (c≤90)
def zax(c:Int):Bool:=decide (48≤c)&&decide (c≤57)
def nchB(c:Int):Bool:=jy c||(c==95||zax c)
def kws:List (List UInt8):=[[112,111,108,105,99,121],[117,115,101,115],[114,101,118,101,97,108],[112,114,111,118,101],[115,99,111,112,101],[108,105,109,105,116],[101,115,99,114,111,119],
 [101,110,100],[97,108,108],[97,110,121],[97,116,108,101,97,115,116],[110,111,116],[116,114,117,101],[102,97,108,115,101],[98,101,116,119,101,101,110],[97,110,100],[105,110]]
def kwB(s:ByteArray):Bool:=kws.contains s.data.toList
def kr(s:ByteArray):Bool:=(decide (s.size≠0)&&decide (s.size≤32))&&(jy (jv s.data.toList 0)&&(!kwB s&&(List.range s.size).all fun i=>nchB (jv s.data.toList i)))
theorem zdv(c:Int):(c<65∧jy c=false)∨(65≤c∧c≤90∧jy c=true)∨(90<c∧c<97∧jy c=false)∨(97≤c∧c≤122∧jy c=true)∨(122<c∧jy c=false):=by
 by_cases h1:c<65
 · exact .inl ⟨h1,by simp[jy];omega⟩
 · by_cases h2:c≤90
   · exact .inr (.inl ⟨by omega,h2,by simp[jy];omega⟩)
   · by_cases h3:c<97
     · exact .inr (.inr (.inl ⟨by omega,h3,by simp[jy];omega⟩))
     · by_cases h4:c≤122
       · exact .inr (.inr (.inr (.inl ⟨by omega,h4,by simp[jy];omega⟩)))
       · exact .inr (.inr (.inr (.inr ⟨by omega,by simp[jy];omega⟩)))
theorem zaq(c:Int)(w:World):Calls Tryz.prog 108 #[.int .u8 c] w (RetQ (.bool (jy c)) w):=by
 rcases zdv c with⟨h1,h⟩ | ⟨h1,h2,h⟩ | ⟨h1,h2,h⟩ | ⟨h1,h2,h⟩ | ⟨h1,h⟩<;>
 · rw[h];clear h;go_enter Tryz.func108,Tryz.ntmps108;go_wp2;go_ret;exact⟨by first | rfl | (simp;omega),rfl⟩
theorem zak(c:Int)(w:World):Calls Tryz.prog 133 #[.int .u8 c] w (RetQ (.bool (jy c)) w):=by
 rcases zdv c with⟨h1,h⟩ | ⟨h1,h2,h⟩ | ⟨h1,h2,h⟩ | ⟨h1,h2,h⟩ | ⟨h1,h⟩<;>
 · rw[h];clear h;go_enter Tryz.func133,Tryz.ntmps133;go_wp2;go_ret;exact⟨by first | rfl | (simp;omega),rfl⟩
theorem zkj(c:Int)(w:World):Calls Tryz.prog 134 #[.int .u8 c] w (RetQ (.bool (zax c)) w):=by
 by_cases h1:48≤c
 · by_cases h2:c≤57
   · have h:zax c=true:=by simp[zax];omega
     rw[h];clear h;go_enter Tryz.func134,Tryz.ntmps134;go_wp2;go_ret;exact⟨rfl,rfl⟩
   · have h:zax c=false:=by simp[zax];omega
     rw[h];clear h;go_enter Tryz.func134,Tryz.ntmps134;go_wp2;go_ret;exact⟨rfl,rfl⟩
 · have h:zax c=false:=by simp[zax];omega
   rw[h];clear h;go_enter Tryz.func134,Tryz.ntmps134;go_wp2;go_ret;exact⟨rfl,rfl⟩
theorem zfo(s:ByteArray)(w:World):Calls Tryz.prog 109 #[.string s] w (RetQ (.bool (kwB s)) w):=by
 rw[←xd s];by_cases h:s.data.toList∈kws
 · have hk:kwB (bstr s.data.toList)=true:=by simp[kwB,jn,h]
   rw[hk];clear hk;simp only[kws,List.mem_cons,List.mem_nil_iff,or_false]at h;rcases h with h | h | h | h | h | h | h | h | h | h | h | h | h | h | h | h | h<;>
   · rw[h];clear h;unfold bstr;go_enter Tryz.func109,Tryz.ntmps109;go_wp2;go_ret;exact⟨rfl,rfl⟩
 · have hk:kwB (bstr s.data.toList)=false:=by simp[kwB,jn,h]
   rw[hk,xd s];clear hk;simp only[kws,List.mem_cons,List.mem_nil_iff,or_false,not_or,←ByteArray.toList_eq]at h;obtain⟨h1,h2,h3,h4,h5,h6,h7,h8,h9,h10,h11,h12,h13,h14,h15,h16,h17⟩:=h;have e1:=beq_eq_false_iff_ne.2 h1;have e2:=beq_eq_false_iff_ne.2 h2;have e3:=beq_eq_false_iff_ne.2 h3;have e4:=beq_eq_false_iff_ne.2 h4;have e5:=beq_eq_false_iff_ne.2 h5;have e6:=beq_eq_false_iff_ne.2 h6;have e7:=beq_eq_false_iff_ne.2 h7;have e8:=beq_eq_false_iff_ne.2 h8;have e9:=beq_eq_false_iff_ne.2 h9;have e10:=beq_eq_false_iff_ne.2 h10;have e11:=beq_eq_false_iff_ne.2 h11;have e12:=beq_eq_false_iff_ne.2 h12;have e13:=beq_eq_false_iff_ne.2 h13;have e14:=beq_eq_false_iff_ne.2 h14;have e15:=beq_eq_false_iff_ne.2 h15;have e16:=beq_eq_false_iff_ne.2 h16;have e17:=beq_eq_false_iff_ne.2 h17;clear h1 h2 h3 h4 h5 h6 h7 h8 h9 h10 h11 h12 h13 h14 h15 h16 h17;go_enter Tryz.func109,Tryz.ntmps109;go_wp2;go_ret;exact⟨rfl,rfl⟩
def kwAt(k:Nat):ByteArray:=bstr (kws.getD k [])
theorem zr6{s:ByteArray}(h:∀ k,k<16→kwAt k≠s)(h':s.data.toList≠[105,110]):kwB s=false:=by
 have hk:∀ k,k<16→kws.getD k []≠s.data.toList:=fun k hk e=>h k hk (by unfold kwAt;rw[e,xd]);have : s.data.toList∉kws:=by
  intro hm;simp only[kws,List.mem_cons,List.mem_nil_iff,or_false]at hm;rcases hm with e | e | e | e | e | e | e | e | e | e | e | e | e | e | e | e | e
  · exact hk 0 (by omega) e.symm
  · exact hk 1 (by omega) e.symm
  · exact hk 2 (by omega) e.symm
  · exact hk 3 (by omega) e.symm
  · exact hk 4 (by omega) e.symm
  · exact hk 5 (by omega) e.symm
  · exact hk 6 (by omega) e.symm
  · exact hk 7 (by omega) e.symm
  · exact hk 8 (by omega) e.symm
  · exact hk 9 (by omega) e.symm
  · exact hk 10 (by omega) e.symm
  · exact hk 11 (by omega) e.symm
  · exact hk 12 (by omega) e.symm
  · exact hk 13 (by omega) e.symm
  · exact hk 14 (by omega) e.symm
  · exact hk 15 (by omega) e.symm
  · exact h' e
 simp[kwB,this]
theorem zy3{s:ByteArray}{k:Nat}(hk:k<16)(h:kwAt k=s):kwB s=true:=by
 have : s.data.toList∈kws:=(by rw[←h,kwAt,jn,List.getD_eq_getElem?_getD,List.getElem?_eq_getElem (show k<kws.length from by show k<17;omega)];exact List.getElem_mem _);simp[kwB,this]
theorem toList_inj{a b:ByteArray}(h:a.toList=b.toList):a=b:=by
 rw[ByteArray.toList_eq,ByteArray.toList_eq]at h;rw[←xd a,←xd b,h]
theorem zdp{a b:ByteArray}(h:a=b):(a.toList==b.toList)=true:=by rw[h];simp
theorem zcp{a b:ByteArray}(h:a≠b):(a.toList==b.toList)=false:=beq_eq_false_iff_ne.2 fun e=>h (toList_inj e)
theorem ze9(s:ByteArray)(w:World):Calls Tryz.prog 135 #[.string s] w (Ret (.bool (kwB s)) w):=by
 go_enter Tryz.func135,Tryz.ntmps135;go_wp2;obtain⟨w1,hw1⟩:∃ w1,w.alloc (.cells #[.string ⟨#[112,111,108,105,99,121]⟩,.string ⟨#[117,115,101,115]⟩,.string ⟨#[114,101,118,101,97,108]⟩,.string ⟨#[112,114,111,118,101]⟩,.string ⟨#[115,99,111,112,101]⟩,.string ⟨#[108,105,109,105,116]⟩,
  .string ⟨#[101,115,99,114,111,119]⟩,.string ⟨#[101,110,100]⟩,.string ⟨#[97,108,108]⟩,.string ⟨#[97,110,121]⟩,.string ⟨#[97,116,108,101,97,115,116]⟩,.string ⟨#[110,111,116]⟩,.string ⟨#[116,114,117,101]⟩,.string ⟨#[102,97,108,115,101]⟩,
  .string ⟨#[98,101,116,119,101,101,110]⟩,.string ⟨#[97,110,100]⟩] 9)=w1:=⟨_,rfl⟩
 rw[hw1];have hb:Below w.heap.size w w1:=by rw[←hw1];exact(blr).alloc nlr _
 have hc:∀ k,k<16→w1.cell? ⟨w.heap.size,k,none⟩=some (.string (kwAt k)):=fun k hk=>by
  rw[←hw1,World.cell?_alloc_at (hn:=rfl)];rcases(show k=0∨k=1∨k=2∨k=3∨k=4∨k=5∨k=6∨k=7∨k=8∨k=9∨k=10∨k=11∨k=12∨k=13∨k=14∨k=15 from by omega)with rfl | rfl | rfl | rfl | rfl | rfl | rfl | rfl | rfl | rfl | rfl | rfl | rfl | rfl | rfl | rfl<;>rfl
 have HB:=Hq hb;have HC:=Hq hc;clear hb hc hw1
 go_loop [4] (fun i=>∃ k:Nat,k≤16∧i=.int .i64 k∧∀ j,j<k→kwAt j≠s) (fun i=>16 - (intOf i).toNat)
 case atStart=>exact⟨0,Nat.zero_le _,rfl,fun j hj=>absurd hj (by omega)⟩
 case round =>
  obtain⟨k,hk,rfl,hall⟩:=hrel;have HALL:=Hq hall;clear hall;by_cases hlt:k<16
  · have hck:=HC.out k hlt;by_cases he:kwAt k=s
    · have hr:=zy3 hlt he;have HR:=Hq hr;have he2:=zdp he;clear hr he;go_wp2;go_ret;exact⟨by rw[HR.out];rfl,HB.out⟩
    · have he2:=zcp he;have HE:=Hq he;clear he;go_wp2;go_round;case rel=>exact⟨k+1,by omega,by go_num,fun j hj=>(by rcases Nat.lt_succ_iff_lt_or_eq.1 hj with h | h;exact HALL.out j h;subst h;exact HE.out)⟩
      case measure=>simp[intOf];omega
  · obtain rfl:k=16:=by omega
    by_cases he:s.data.toList=[105,110]
    · have hr:kwB s=true:=by simp[kwB,he,kws]
      have he2:(s.toList==[105,110])=true:=by rw[ByteArray.toList_eq,he];rfl
      have HR:=Hq hr;clear hr he;go_wp2;go_ret;exact⟨by rw[HR.out];rfl,HB.out⟩
    · have hr:=zr6 HALL.out he;have he2:(s.toList==[105,110])=false:=by rw[ByteArray.toList_eq];exact beq_eq_false_iff_ne.2 he
      have HR:=Hq hr;clear hr he;go_wp2;go_ret;exact⟨by rw[HR.out];rfl,HB.out⟩
theorem zgh(s:ByteArray)(k:Nat)(h:k<s.size):jv s.data.toList k=(s[k].toNat:Int):=by unfold jv;rw[kb s k h]
theorem jh{a b:Int}(h:a=b):(a != b)=false:=by rw[h];simp
theorem zrp(c:Int)(h:jy c=false):(c=95∧nchB c=true)∨(c≠95∧c<48∧nchB c=false)∨(c≠95∧57<c∧nchB c=false)∨(c≠95∧48≤c∧c≤57∧nchB c=true):=by
 by_cases h1:c=95
 · exact .inl ⟨h1,by simp[nchB,h1]⟩
 · have e1:(c==95)=false:=beq_eq_false_iff_ne.2 h1;by_cases h2:c<48
   · exact .inr (.inl ⟨h1,h2,by simp[nchB,h,e1,zax];omega⟩)
   · by_cases h3:57<c
     · exact .inr (.inr (.inl ⟨h1,h3,by simp[nchB,h,e1,zax];omega⟩))
     · exact .inr (.inr (.inr ⟨h1,by omega,by omega,by simp[nchB,h,e1,zax];omega⟩))
theorem zk4{s:ByteArray}(h:s.size=0):kr s=false:=by simp[kr,h]
theorem zhr{s:ByteArray}(h:32<s.size):kr s=false:=by simp[kr];omega
theorem zfl{s:ByteArray}(h:jy (jv s.data.toList 0)=false):kr s=false:=by simp[kr,h]
theorem znq{s:ByteArray}(h:kwB s=true):kr s=false:=by simp[kr,h]
theorem znr{s:ByteArray}{k:Nat}(hk:k<s.size)(h:nchB (jv s.data.toList k)=false):kr s=false:=by
 have : ((List.range s.size).all fun i=>nchB (jv s.data.toList i))=false:=(by rw[List.all_eq_false];exact⟨k,List.mem_range.2 hk,by simp[h]⟩);simp[kr,this]
theorem zk3{s:ByteArray}(h0:0<s.size)(h1:s.size≤32)(h2:jy (jv s.data.toList 0)=true)(h3:kwB s=false)(h4:∀ j,j<s.size→nchB (jv s.data.toList j)=true):kr s=true:=by
 have : ((List.range s.size).all fun i=>nchB (jv s.data.toList i))=true:=(by rw[List.all_eq_true];intro i hi;exact h4 i (List.mem_range.1 hi));unfold kr;rw[this,h2,h3,decide_eq_true (show s.size≠0 by omega),decide_eq_true h1];rfl
theorem zee(s:ByteArray)(w:World)(hs:s.size≤9223372036854775807):Calls Tryz.prog 67 #[.string s] w (RetQ (.bool (kr s)) w):=by
 by_cases h0:s.size=0
 · rw[zk4 h0];have e0:=zz h0;go_enter Tryz.func67,Tryz.ntmps67;go_wp2;go_ret;exact⟨rfl,rfl⟩
 · have hp:0<s.size:=by omega
   have e0:=j4 hp;by_cases h1:32<s.size
   · rw[zhr h1];go_enter Tryz.func67,Tryz.ntmps67;go_wp2;go_ret;exact⟨rfl,rfl⟩
   · have hl:=zgh s 0 hp
     cases h2:jy (jv s.data.toList 0)with
     | false =>
      rw[zfl h2];rw[hl]at h2;have H2:=Hq h2;clear h2 hl;go_enter Tryz.func67,Tryz.ntmps67;go_wp2_with fail;refine(zaq _ _).mono ?_;rintro e w1 ⟨rfl,rfl⟩;rw[H2.out];go_wp2;go_ret;exact⟨rfl,rfl⟩
     | true =>
      have H2':=Hq h2;rw[hl]at h2;have H2:=Hq h2;clear h2 hl
      cases h3:kwB s with
      | true =>
       rw[znq h3];have H3:=Hq h3;clear h3;go_enter Tryz.func67,Tryz.ntmps67;go_wp2_with fail;refine(zaq _ _).mono ?_;rintro e w1 ⟨rfl,rfl⟩;rw[H2.out];go_wp2_with fail;refine(zfo _ _).mono ?_;rintro e w1 ⟨rfl,rfl⟩;rw[H3.out];go_wp2;go_ret;exact⟨rfl,rfl⟩
      | false =>
       have H3:=Hq h3;clear h3;go_enter Tryz.func67,Tryz.ntmps67;go_wp2_with fail;refine(zaq _ _).mono ?_;rintro e w1 ⟨rfl,rfl⟩;rw[H2.out];go_wp2_with fail;refine(zfo _ _).mono ?_;rintro e w1 ⟨rfl,rfl⟩;rw[H3.out];go_wp2
       go_loop [24] (fun i=>∃ k:Nat,k≤s.size∧i=.int .i64 k∧∀ j,j<k→nchB (jv s.data.toList j)=true) (fun i=>s.size - (intOf i).toNat)
       case atStart=>exact⟨0,Nat.zero_le _,rfl,fun j hj=>absurd hj (by omega)⟩
       case round =>
        obtain⟨k,hk,rfl,hall⟩:=hrel;have HALL:=Hq hall;clear hall;by_cases hlt:k<s.size
        · have hl:=zgh s k hlt
          cases hc:jy (jv s.data.toList k)with
          | true =>
           have hn:nchB (jv s.data.toList k)=true:=by simp[nchB,hc]
           rw[hl]at hc;have HC:=Hq hc;have HN:=Hq hn;clear hc hn hl;go_wp2_with fail;refine(zaq _ _).mono ?_;rintro e w1 ⟨rfl,rfl⟩;rw[HC.out];go_wp2;go_round;case rel=>exact⟨k+1,by omega,by go_num,fun j hj=>(by rcases Nat.lt_succ_iff_lt_or_eq.1 hj with h | h;exact HALL.out j h;subst h;exact HN.out)⟩
           case measure=>simp[intOf];omega
          | false =>
           rcases zrp _ hc with⟨h1,hn⟩ | ⟨h1,h2,hn⟩ | ⟨h1,h2,hn⟩ | ⟨h1,h2,h3,hn⟩
           all_goals
                  first
                  | (have hres := znr hlt hn
                     have HRES:=Hq hres
                     clear hres)
                  | skip
                  rw[hl]at hc h1;try rw[hl]at h2
                  try rw[hl]at h3
                  have HC:=Hq hc;have HN:=Hq hn;first
                  | (have e1 := jh h1
                     clear h1)
                  | (have e1 := bne_iff_ne.2 h1
                     clear h1)
                  clear hc hn hl;go_wp2_with fail;refine(zaq _ _).mono ?_;rintro e w1 ⟨rfl,rfl⟩;rw[HC.out];go_wp2;first
                  | (go_ret
                     exact⟨by rw[HRES.out];rfl,rfl⟩)
                  | (go_round
                     case rel=>exact⟨k+1,by omega,by go_num,fun j hj=>(by rcases Nat.lt_succ_iff_lt_or_eq.1 hj with h | h;exact HALL.out j h;subst h;exact HN.out)⟩
                     case measure=>simp[intOf];omega)
        · obtain rfl:k=s.size:=by omega
          have hr:=zk3 hp (by omega) H2'.out H3.out HALL.out;have HR:=Hq hr;clear hr;go_wp2;go_ret;exact⟨by rw[HR.out];rfl,rfl⟩
theorem zu1{k:Nat}(h:k=0):((k:Int)==0)=true:=by rw[h];rfl
theorem zsl{k:Nat}(h:k≠0):((k:Int)==0)=false:=beq_eq_false_iff_ne.2 (by omega)
theorem zss{c:Int}(h:jy c=false)(h1:c≠95):nchB c=zax c:=by
 have e1:(c==95)=false:=beq_eq_false_iff_ne.2 h1;simp[nchB,h,e1]
theorem zyr{c:Int}(h:c=95):nchB c=true:=by simp[nchB,h]
theorem zd7(s:ByteArray)(w:World)(hs:s.size≤9223372036854775807):Calls Tryz.prog 86 #[.string s] w (Ret (.bool (kr s)) w):=by
 go_enter Tryz.func86,Tryz.ntmps86;go_wp2
 go_loop [3] (fun i=>∃ k:Nat,k≤s.size∧i=.int .i64 k∧(∀ j,j<k→nchB (jv s.data.toList j)=true)∧(0<k→jy (jv s.data.toList 0)=true)) (fun i=>s.size - (intOf i).toNat)
 case atStart=>exact⟨0,Nat.zero_le _,rfl,fun j hj=>absurd hj (by omega),fun h=>absurd h (by omega)⟩
 case round =>
  obtain⟨k,hk,rfl,hall,hfst⟩:=hrel;have HALL:=Hq hall;have HFST:=Hq hfst;clear hall hfst;by_cases hlt:k<s.size
  · have hl:=zgh s k hlt
    cases hc:jy (jv s.data.toList k)with
    | true =>
     have hn:nchB (jv s.data.toList k)=true:=by simp[nchB,hc]
     have HF:=Hq hc;rw[hl]at hc;have HC:=Hq hc;have HN:=Hq hn;clear hc hn hl;go_wp2_with fail;refine(zak _ _).mono ?_;rintro e w1 ⟨rfl,rfl⟩;rw[HC.out];go_wp2;go_round;case rel=>exact⟨k+1,by omega,by go_num,fun j hj=>(by rcases Nat.lt_succ_iff_lt_or_eq.1 hj with h | h;exact HALL.out j h;subst h;exact HN.out),fun _=>(by rcases Nat.eq_zero_or_pos k with h | h;subst h;exact HF.out;exact HFST.out h)⟩
     case measure=>simp[intOf];omega
    | false =>
     by_cases hz:k=0
     · have hr:=hc;rw[hz]at hr;have hr:=zfl hr;have HR:=Hq hr;have ez:=zu1 hz;rw[hl]at hc;have HC:=Hq hc;clear hc hl hr hz;go_wp2_with fail;refine(zak _ _).mono ?_;rintro e w1 ⟨rfl,rfl⟩;rw[HC.out];go_wp2;go_ret;exact⟨by rw[HR.out];rfl,Below.refl _ _⟩
     · have ez:=zsl hz;by_cases hu:jv s.data.toList k=95
       · have hn:=zyr hu;rw[hl]at hc hu;have e1:=jh hu;have HC:=Hq hc;have HN:=Hq hn;have HZ:=Hq hz;clear hc hl hu hn hz;go_wp2_with fail;refine(zak _ _).mono ?_;rintro e w1 ⟨rfl,rfl⟩;rw[HC.out];go_wp2;go_round;case rel=>exact⟨k+1,by omega,by go_num,fun j hj=>(by rcases Nat.lt_succ_iff_lt_or_eq.1 hj with h | h;exact HALL.out j h;subst h;exact HN.out),fun _=>HFST.out (Nat.pos_of_ne_zero HZ.out)⟩
         case measure=>simp[intOf];omega
       · have hn:=zss hc hu
         cases hd:zax (jv s.data.toList k)with
         | true =>
          rw[hd]at hn;rw[hl]at hc hu hd;have e1:=bne_iff_ne.2 hu;have HC:=Hq hc;have HD:=Hq hd;have HN:=Hq hn;have HZ:=Hq hz;clear hc hl hu hn hz hd;go_wp2_with fail;refine(zak _ _).mono ?_;rintro e w1 ⟨rfl,rfl⟩;rw[HC.out];go_wp2_with fail;refine(zkj _ _).mono ?_;rintro e w1 ⟨rfl,rfl⟩;rw[HD.out];go_wp2;go_round;case rel=>exact⟨k+1,by omega,by go_num,fun j hj=>(by rcases Nat.lt_succ_iff_lt_or_eq.1 hj with h | h;exact HALL.out j h;subst h;exact HN.out),fun _=>HFST.out (Nat.pos_of_ne_zero HZ.out)⟩
          case measure=>simp[intOf];omega
         | false =>
          rw[hd]at hn;have hr:=znr hlt hn;rw[hl]at hc hu hd;have e1:=bne_iff_ne.2 hu;have HC:=Hq hc;have HD:=Hq hd;have HR:=Hq hr;clear hc hl hu hn hz hd hr;go_wp2_with fail;refine(zak _ _).mono ?_;rintro e w1 ⟨rfl,rfl⟩;rw[HC.out];go_wp2_with fail;refine(zkj _ _).mono ?_;rintro e w1 ⟨rfl,rfl⟩;rw[HD.out];go_wp2;go_ret;exact⟨by rw[HR.out];rfl,Below.refl _ _⟩
  · obtain rfl:k=s.size:=by omega
    by_cases h0:s.size=0
    · have hr:=zk4 h0;have HR:=Hq hr;have e0:=zz h0;clear hr;go_wp2;go_ret;exact⟨by rw[HR.out];rfl,Below.refl _ _⟩
    · have hp:0<s.size:=by omega
      have e0:=j4 hp;by_cases h1:32<s.size
      · have hr:=zhr h1;have HR:=Hq hr;clear hr;go_wp2;go_ret;exact⟨by rw[HR.out];rfl,Below.refl _ _⟩
      · cases h3:kwB s with
        | true =>
         have hr:=znq h3;have HR:=Hq hr;have H3:=Hq h3;clear hr h3;go_wp2_with fail;refine(ze9 _ _).mono ?_;rintro e w1 ⟨rfl,hb⟩;rw[H3.out];have HB:=Hq hb;clear hb;go_wp2;go_ret;exact⟨by rw[HR.out];rfl,HB.out⟩
        | false =>
         have hr:=zk3 hp (by omega) (HFST.out hp) h3 HALL.out;have HR:=Hq hr;have H3:=Hq h3;clear hr h3;go_wp2_with fail;refine(ze9 _ _).mono ?_;rintro e w1 ⟨rfl,hb⟩;rw[H3.out];have HB:=Hq hb;clear hb;go_wp2;go_ret;exact⟨by rw[HR.out];rfl,HB.out⟩
set_option maxHeartbeats 800000
theorem zei(a:ByteArray)(w:World):Calls Tryz.prog 72 #[.string a] w (Ret (.agg #[.int .i64 0,.string a,.string ⟨#[]⟩,.slice none 0 0]) w):=by
 go_enter Tryz.func72,Tryz.ntmps72;go_wp2;exact bodyPost_ret (v:=.agg #[.int .i64 0,.string a,.string ⟨#[]⟩,.slice none 0 0]) (by simp[results,Tryz.results72,go_sem]) rfl ⟨rfl,(blr).alloc nlr _⟩
theorem qd(a:ByteArray)(w:World):Calls Tryz.prog 70 #[.string a] w (Ret (.agg #[.int .i64 1,.string ⟨#[]⟩,.string a,.slice none 0 0]) w):=by
 go_enter Tryz.func70,Tryz.ntmps70;go_wp2;exact bodyPost_ret (v:=.agg #[.int .i64 1,.string ⟨#[]⟩,.string a,.slice none 0 0]) (by simp[results,Tryz.results70,go_sem]) rfl ⟨rfl,(blr).alloc nlr _⟩
theorem zd9(a:ByteArray)(w:World):Calls Tryz.prog 91 #[.string a] w (Ret (.agg #[.int .i64 0,.string a,.string ⟨#[]⟩,.slice none 0 0]) w):=by
 go_enter Tryz.func91,Tryz.ntmps91;go_wp2;exact bodyPost_ret (v:=.agg #[.int .i64 0,.string a,.string ⟨#[]⟩,.slice none 0 0]) (by simp[results,Tryz.results91,go_sem]) rfl ⟨rfl,(blr).alloc nlr _⟩
theorem qc(a:ByteArray)(w:World):Calls Tryz.prog 89 #[.string a] w (Ret (.agg #[.int .i64 1,.string ⟨#[]⟩,.string a,.slice none 0 0]) w):=by
 go_enter Tryz.func89,Tryz.ntmps89;go_wp2;exact bodyPost_ret (v:=.agg #[.int .i64 1,.string ⟨#[]⟩,.string a,.slice none 0 0]) (by simp[results,Tryz.results89,go_sem]) rfl ⟨rfl,(blr).alloc nlr _⟩
theorem kt(n:Nat)(w:World)(h:n<9223372036854775808):Calls Tryz.prog 71 #[.int .i64 n] w (Ret (.agg #[.int .i64 0,.string (bstr (encN n)),.string ⟨#[]⟩,.slice none 0 0]) w):=by
 have h1:(n:Int)%18446744073709551616=n:=by omega
 have H:=Hq h;clear h;obtain⟨W0,hW0⟩:=nm (w.alloc (.cells #[.int .i64 0,.string ⟨#[]⟩,.string ⟨#[]⟩,.slice none 0 0] 118));have hres0:W0.heap[w.heap.size]? =some (.cells #[.int .i64 0,.string ⟨#[]⟩,.string ⟨#[]⟩,.slice none 0 0] 118 (0,0)):=by rw[←hW0];exact heap_alloc_new _ _
 have hb0:Below w.heap.size w W0:=by rw[←hW0];exact(blr).alloc nlr _
 have HW0:=Hq hW0;have HR0:=Hq hres0;have HB0:=Hq hb0;clear hW0 hres0 hb0;go_enter Tryz.func71,Tryz.ntmps71;go_wp2_with fail;rw[HW0.out];refine(yz n (by have:=H.out;omega) _).mono ?_;rintro e w1 ⟨rfl,hb1⟩;have HR1:=Hq (zr hb1 nlr HR0.out);have HB1:=bt HB0 hb1;clear hb1;go_wp2_with fail;refine(zei _ _).mono ?_;rintro e w2 ⟨rfl,hb2⟩;have hres:=zr hb2 nlr HR1.out;have HB2:=bt HB1 hb2;obtain⟨rc0,rc1,rc2,rc3⟩:=zf hres;obtain⟨rf0,rf1,rf2,rf3⟩:=jr hres;have HRES:=Hq hres;clear hb2 hres;go_wp2;have HE:=Hq (zf (xg HRES.out (.int .i64 0) (.string (bstr (encN n))) (.string ⟨#[]⟩) (.slice none 0 0)));have HBE:=Hq (xh HB2.out (b:=w.heap.size) nlr (.int .i64 0) (.string (bstr (encN n))) (.string ⟨#[]⟩) (.slice none 0 0));unfold set4 at HE HBE;obtain⟨wf,hwf⟩:=nm ((((w2.setCell ⟨w.heap.size,0,none⟩ (.int .i64 0)).setCell ⟨w.heap.size,1,none⟩ (.string (bstr (encN n)))).setCell ⟨w.heap.size,2,none⟩ (.string ⟨#[]⟩)).setCell ⟨w.heap.size,3,none⟩ (.slice none 0 0));rw[hwf]at HE HBE⊢;obtain⟨q0,q1,q2,q3⟩:=HE.out;exact bodyPost_ret (v:=.agg #[.int .i64 0,.string (bstr (encN n)),.string ⟨#[]⟩,.slice none 0 0]) (by simp[results,Tryz.results71,go_sem,q0,q1,q2,q3]) rfl ⟨rfl,HBE.out⟩
theorem zb8(n:Nat)(w:World)(h:n<9223372036854775808):Calls Tryz.prog 90 #[.int .i64 n] w (Ret (.agg #[.int .i64 0,.string (bstr (encN n)),.string ⟨#[]⟩,.slice none 0 0]) w):=by
 have h1:(n:Int)%18446744073709551616=n:=by omega
 have H:=Hq h;clear h;obtain⟨W0,hW0⟩:=nm (w.alloc (.cells #[.int .i64 0,.string ⟨#[]⟩,.string ⟨#[]⟩,.slice none 0 0] 118));have hres0:W0.heap[w.heap.size]? =some (.cells #[.int .i64 0,.string ⟨#[]⟩,.string ⟨#[]⟩,.slice none 0 0] 118 (0,0)):=by rw[←hW0];exact heap_alloc_new _ _
 have hb0:Below w.heap.size w W0:=by rw[←hW0];exact(blr).alloc nlr _
 have HW0:=Hq hW0;have HR0:=Hq hres0;have HB0:=Hq hb0;clear hW0 hres0 hb0;go_enter Tryz.func90,Tryz.ntmps90;go_wp2_with fail;rw[HW0.out];refine(zdq n (by have:=H.out;omega) _).mono ?_;rintro e w1 ⟨rfl,hb1⟩;have HR1:=Hq (zr hb1 nlr HR0.out);have HB1:=bt HB0 hb1;clear hb1;go_wp2_with fail;refine(zd9 _ _).mono ?_;rintro e w2 ⟨rfl,hb2⟩;have hres:=zr hb2 nlr HR1.out;have HB2:=bt HB1 hb2;obtain⟨rc0,rc1,rc2,rc3⟩:=zf hres;obtain⟨rf0,rf1,rf2,rf3⟩:=jr hres;have HRES:=Hq hres;clear hb2 hres;go_wp2;have HE:=Hq (zf (xg HRES.out (.int .i64 0) (.string (bstr (encN n))) (.string ⟨#[]⟩) (.slice none 0 0)));have HBE:=Hq (xh HB2.out (b:=w.heap.size) nlr (.int .i64 0) (.string (bstr (encN n))) (.string ⟨#[]⟩) (.slice none 0 0));unfold set4 at HE HBE;obtain⟨wf,hwf⟩:=nm ((((w2.setCell ⟨w.heap.size,0,none⟩ (.int .i64 0)).setCell ⟨w.heap.size,1,none⟩ (.string (bstr (encN n)))).setCell ⟨w.heap.size,2,none⟩ (.string ⟨#[]⟩)).setCell ⟨w.heap.size,3,none⟩ (.slice none 0 0));rw[hwf]at HE HBE⊢;obtain⟨q0,q1,q2,q3⟩:=HE.out;exact bodyPost_ret (v:=.agg #[.int .i64 0,.string (bstr (encN n)),.string ⟨#[]⟩,.slice none 0 0]) (by simp[results,Tryz.results90,go_sem,q0,q1,q2,q3]) rfl ⟨rfl,HBE.out⟩
structure En where
 kind:Int
 handle:ByteArray
 schema:ByteArray
 epoch:Int
def En.val(e:En):Value:=.agg #[.int .i64 e.kind,.string e.handle,.string e.schema,.int .i64 e.epoch]
def lowB(h:ByteArray):Bool:=decide (ordB h ⟨#[3]⟩<0)
def ql(e:En):Bool:=zc e.handle&&(if e.kind=0 then !lowB e.handle&&kr e.schema else if e.kind=1 then !lowB e.handle&&e.schema.size==0 else if e.kind=2 then e.handle.size==0&&e.schema.size==0 else false)
abbrev itsE(q:Nat)(h s:ByteArray)(p:Nat):List It:=[.mk 1 ⟨#[]⟩ ⟨#[101,110,116,114,121]⟩ [],.mk 0 (bstr (encN q)) ⟨#[]⟩ [],.mk 0 h ⟨#[]⟩ [],.mk 1 ⟨#[]⟩ s [],.mk 0 (bstr (encN p)) ⟨#[]⟩ []]
def itE(q:Nat)(h s:ByteArray)(p:Nat):It:=.mk 2 ⟨#[]⟩ ⟨#[]⟩ (itsE q h s p)
def msgS(e:En):ByteArray×Int:=if ql e=false then(⟨#[]⟩,3)else if e.epoch<0∨4096<e.epoch then(⟨#[]⟩,2)else encS (itE e.kind.toNat e.handle e.schema e.epoch.toNat)
theorem qn{q p:Nat}{h s:ByteArray}(hq:q≤2)(hp:p≤4096)(hh:h.size≤128)(hs:s.size≤32):(itE q h s p).weight≤1000000000:=by
 have h1:(encN q).length≤8:=jt.2 (by omega);have h2:(encN p).length≤8:=jt.2 (by omega);simp only[itE,It.weight,Its.weight,zm];have e1:(⟨#[]⟩:ByteArray).size=0:=rfl;have e2:(⟨#[101,110,116,114,121]⟩:ByteArray).size=5:=rfl;omega
theorem zgp:bstr (encN 3)=⟨#[3]⟩:=rfl
theorem low_no{h:ByteArray}(hv:zc h=true)(hl:lowB h=false):∃ c:Int,ncmp h ⟨#[3]⟩=c∧0≤c:=by
 have h3:zc ⟨#[3]⟩=true:=rfl;refine⟨_,rfl,?_⟩;simp only[ncmp,hv,h3,Bool.and_self,if_true];have:=of_decide_eq_false hl;omega
theorem zr0{h:ByteArray}(hv:zc h=true)(hl:lowB h=true):∃ c:Int,ncmp h ⟨#[3]⟩=c∧¬ 0≤c:=by
 have h3:zc ⟨#[3]⟩=true:=rfl;refine⟨_,rfl,?_⟩;simp only[ncmp,hv,h3,Bool.and_self,if_true];have:=of_decide_eq_true hl;omega
theorem row5{w:World}{T:TypeId}{fr:Nat×Nat}{b:Nat}{k0 k1 k2 k3 k4:Int}{n0 n1 n2 n3 n4 t0 t1 t2 t3 t4:ByteArray}
 (hb:w.heap[b]? =some (.cells #[.int .i64 k0,.string n0,.string t0,.slice none 0 0,.int .i64 k1,.string n1,.string t1,.slice none 0 0,.int .i64 k2,.string n2,.string t2,.slice none 0 0,.int .i64 k3,.string n3,.string t3,.slice none 0 0,.int .i64 k4,.string n4,.string t4,.slice none 0 0] T fr)) :
 SlAt w (fun _=>True) (some ⟨b,0,none⟩) 5 5 [.mk k0 n0 t0 [],.mk k1 n1 t1 [],.mk k2 n2 t2 [],.mk k3 n3 t3 [],.mk k4 n4 t4 []]:=by
 have hc:=fun k=>Lib.cell_of_heap hb (j:=k);refine⟨rfl,Nat.le_refl _,by omega,b,0,fun _=>⟨rfl,trivial⟩,?_⟩;refine⟨CellsAt.mk' (hc 0) (hc 1) (hc 2) (hc 3) (SlAt.nil _ _),CellsAt.mk' (hc 4) (hc 5) (hc 6) (hc 7) (SlAt.nil _ _),CellsAt.mk' (hc 8) (hc 9) (hc 10) (hc 11) (SlAt.nil _ _),CellsAt.mk' (hc 12) (hc 13) (hc 14) (hc 15) (SlAt.nil _ _),CellsAt.mk' (hc 16) (hc 17) (hc 18) (hc 19) (SlAt.nil _ _),trivial⟩
theorem jm(w:World)(q p:Int)(h s:ByteArray)(T:TypeId):∃ W0,Hid (w.alloc (.cells #[.int .i64 q,.string h,.string s,.int .i64 p] T)=W0)∧Hid (Below w.heap.size w W0)∧w.heap.size+1≤W0.heap.size∧W0.cell? ⟨w.heap.size,0,none⟩=some (.int .i64 q)∧W0.cell? ⟨w.heap.size,1,none⟩=some (.string h)∧W0.cell? ⟨w.heap.size,2,none⟩=some (.string s)∧W0.cell? ⟨w.heap.size,3,none⟩=some (.int .i64 p):=by
 obtain⟨W0,hW0⟩:=nm (w.alloc (.cells #[.int .i64 q,.string h,.string s,.int .i64 p] T));have hbox:W0.heap[w.heap.size]? =some (.cells #[.int .i64 q,.string h,.string s,.int .i64 p] T (0,0)):=by rw[←hW0];exact heap_alloc_new _ _
 have hb0:Below w.heap.size w W0:=by rw[←hW0];exact(blr).alloc nlr _
 exact⟨W0,Hq hW0,Hq hb0,zn hbox,zf hbox⟩
set_option maxRecDepth 100000
set_option maxHeartbeats 4000000
theorem zje(q p:Nat)(h s:ByteArray)(w:World)(hq:((q:Int)==0)=true)(hh:h.size≤128)(hs:s.size≤32)(hv:zc h=true)(hl:lowB h=false)(hn:kr s=true)(hq2:q≤2)(hp:p≤4096):Calls Tryz.prog 40 #[.agg #[.int .i64 q,.string h,.string s,.int .i64 p]] w (yy (encS (itE q h s p)) w):=by
 obtain⟨W0,HW0,HA0,hz,b0,b1,b2,b3⟩:=jm w q p h s 53;have HL:=Hq hl;have HN:=Hq hn;clear hl hn;have HV:=Hq hv;clear hv;go_enter Tryz.func40,Tryz.ntmps40;go_wp2_with fail;rw[HW0.out];refine(zh h (by omega) _).mono ?_;rintro e w1 ⟨rfl,rfl⟩;rw[HV.out];go_wp2;refine za 14 (Below (W0.drew).heap.size (W0.drew)) (by kernel_rfl) ?_;have KK1:=Hq (fun w' (hS':(Below (W0.drew).heap.size (W0.drew)) w')=>And.intro (kC hS' b0) (And.intro (kC hS' b1) (And.intro (kC hS' b2) (kC hS' b3))));refine rPs 0 12 13 blr ?_;refine rPs 1 13 12 blr ?_;refine rPs 2 14 11 blr ?_;refine rTs 3 15 10 blr KK1.out ?_;refine rO 4 9 ?_;intro K4 hK4;go_wp2_with fail;refine(yz 3 (by omega) _).mono ?_;rintro e w2 ⟨rfl,hb2⟩;have HB4:=Hq hb2;clear hb2;rw[zgp];go_wp2;refine hK4 _ _ (by exact HB4.out) ?_;clear hK4;intro hS_5_4;refine rO 5 8 ?_;intro K5 hK5;go_wp2_with fail;refine(jw h _ (by omega) (by decide) _).mono ?_;rintro e w3 ⟨rfl,rfl⟩;obtain⟨c,hc,hc0⟩:=low_no HV.out HL.out;rw[hc];have HC:=Hq hc;clear hc;go_wp2;refine hK5 _ _ (by exact hS_5_4) ?_;clear hK5;intro hS_5_5;refine rPs 6 18 7 hS_5_5 ?_;refine rPs 7 19 6 hS_5_5 ?_;refine rPs 8 20 5 hS_5_5 ?_;refine rPs 9 21 4 hS_5_5 ?_;refine rTs 10 22 3 hS_5_5 KK1.out ?_;refine rO 11 2 ?_;intro K11 hK11;go_wp2_with fail;refine(zee s _ (by omega)).mono ?_;rintro e w4 ⟨rfl,rfl⟩;rw[HN.out];go_wp2;refine hK11 _ _ (by exact hS_5_5) ?_;clear hK11;intro hS_5_11;refine rPs 12 24 1 hS_5_11 ?_;refine rO 13 0 ?_;intro K13 hK13;go_wp2;refine hK13 _ _ (by exact hS_5_11) ?_;clear hK13;intro hS_5_13;refine wDn ?_;have HS5:=Hq hS_5_13;have d0:=kc HS5.out b0;have d1:=kc HS5.out b1;have d2:=kc HS5.out b2;have d3:=kc HS5.out b3;have hz2:w.heap.size+1≤w2.heap.size:=Nat.le_trans hz HS5.out.size;have HA1:=Hq (HA0.out.drew.trans (HS5.out.mono (by simp;omega)));clear b0 b1 b2 b3 HS5 HA0 HW0;go_wp2;refine za 20 (Below (w2.drew).heap.size (w2.drew)) (by kernel_rfl) ?_;have KK2:=Hq (fun w' (hS':(Below (w2.drew).heap.size (w2.drew)) w')=>And.intro (kC hS' d0) (And.intro (kC hS' d1) (And.intro (kC hS' d2) (kC hS' d3))));refine rPs 1 64 19 blr ?_;refine rTs 2 65 18 blr KK2.out ?_;refine rPs 4 67 17 blr ?_;refine rTs 5 68 16 blr KK2.out ?_;refine rPs 7 70 15 blr ?_;refine rTs 8 71 14 blr KK2.out ?_;refine rPs 10 73 13 blr ?_;refine rTs 11 74 12 blr KK2.out ?_;refine rO 0 11 ?_;intro K0 hK0;go_wp2_with fail;refine(qd _ _).mono ?_;rintro e w10 ⟨rfl,hb10⟩;have HB0:=Hq hb10;clear hb10;go_wp2;refine hK0 _ _ (by exact HB0.out) ?_;clear hK0;intro hS_14_0;refine rO 3 10 ?_;intro K3 hK3;go_wp2_with fail;refine(kt q _ (by omega)).mono ?_;rintro e w11 ⟨rfl,hb11⟩;have HB3:=Hq hb11;clear hb11;go_wp2;refine hK3 _ _ (by exact Below.trans hS_14_0 (Below.mono HB3.out (Below.size hS_14_0))) ?_;clear hK3;intro hS_14_3;refine rO 6 9 ?_;intro K6 hK6;go_wp2_with fail;refine(zei _ _).mono ?_;rintro e w12 ⟨rfl,hb12⟩;have HB6:=Hq hb12;clear hb12;go_wp2;refine hK6 _ _ (by exact Below.trans hS_14_3 (Below.mono HB6.out (Below.size hS_14_3))) ?_;clear hK6;intro hS_14_6;refine rO 9 8 ?_;intro K9 hK9;go_wp2_with fail;refine(qd _ _).mono ?_;rintro e w13 ⟨rfl,hb13⟩;have HB9:=Hq hb13;clear hb13;go_wp2;refine hK9 _ _ (by exact Below.trans hS_14_6 (Below.mono HB9.out (Below.size hS_14_6))) ?_;clear hK9;intro hS_14_9;refine rO 12 7 ?_;intro K12 hK12;go_wp2_with fail;refine(kt p _ (by omega)).mono ?_;rintro e w14 ⟨rfl,hb14⟩;have HB12:=Hq hb14;clear hb14;go_wp2;refine hK12 _ _ (by exact Below.trans hS_14_9 (Below.mono HB12.out (Below.size hS_14_9))) ?_;clear hK12;intro hS_14_12;refine rO 13 6 ?_;intro K13 hK13;go_wp2;refine hK13 _ _ (by exact Below.alloc hS_14_12 (Below.size hS_14_12) _) ?_;clear hK13;intro hS_14_13;refine rO 14 5 ?_;intro K14 hK14;go_wp2_with fail;refine(zbw (itsE q h s p) _ 5 5 _ _ (Nat.le_of_ble_eq_true rfl) (row5 (heap_alloc_new w14 _))).mono ?_;rintro e w15 ⟨v15,rfl,hi15,hb15⟩;have HB14:=Hq hb15;have HI15:=Hq hi15;clear hb15 hi15;go_wp2;refine hK14 _ _ (by exact Below.trans hS_14_13 (Below.mono HB14.out (Below.size hS_14_13))) ?_;clear hK14;intro hS_14_14;refine rO 15 4 ?_;intro K15 hK15;go_wp2_with fail;refine(zav _ v15 _ _ (qn hq2 hp hh hs) HI15.out).mono ?_;rintro e w16 ⟨rfl,hb16⟩;have HB15:=Hq hb16;clear hb16;obtain⟨r1,r2,hr⟩:∃ r1 r2,encS (itE q h s p)=(r1,r2):=⟨_,_,rfl⟩;have HR:=Hq hr;rw[hr];clear hr;go_wp2;refine hK15 _ _ (by exact Below.trans hS_14_14 (Below.mono HB15.out (Below.size hS_14_14))) ?_;clear hK15;intro hS_14_15;refine rPs 16 79 3 hS_14_15 ?_;refine rPs 17 80 2 hS_14_15 ?_;refine rO 18 1 ?_;intro K18 hK18;go_wp2;refine hK18 _ _ (by exact hS_14_15) ?_;clear hK18;intro hS_14_18;refine rO 19 0 ?_;intro K19 hK19;go_wp2;refine hK19 _ _ (by exact hS_14_18) ?_;clear hK19;intro hS_14_19;refine wDn ?_;go_wp2;go_ret2;exact⟨by rw[HR.out];rfl,HA1.out.drew.trans ((hS_14_19).mono (by simp;omega))⟩
theorem zg8(q:Nat)(p:Int)(h s:ByteArray)(w:World)(hq:((q:Int)==0)=true)(hh:h.size≤128)(hs:s.size≤32)(hv:zc h=true)(hl:lowB h=false)(hn:kr s=true)(hp:p<0∨4096<p):Calls Tryz.prog 40 #[.agg #[.int .i64 q,.string h,.string s,.int .i64 p]] w (yy (⟨#[]⟩,2) w):=by
 rcases hp with hp | hp
 · skip;obtain⟨W0,HW0,HA0,hz,b0,b1,b2,b3⟩:=jm w q p h s 53;have HL:=Hq hl;have HN:=Hq hn;clear hl hn;have HV:=Hq hv;clear hv;go_enter Tryz.func40,Tryz.ntmps40;go_wp2_with fail;rw[HW0.out];refine(zh h (by omega) _).mono ?_;rintro e w1 ⟨rfl,rfl⟩;rw[HV.out];go_wp2;refine za 14 (Below (W0.drew).heap.size (W0.drew)) (by kernel_rfl) ?_;have KK3:=Hq (fun w' (hS':(Below (W0.drew).heap.size (W0.drew)) w')=>And.intro (kC hS' b0) (And.intro (kC hS' b1) (And.intro (kC hS' b2) (kC hS' b3))));refine rPs 0 12 13 blr ?_;refine rPs 1 13 12 blr ?_;refine rPs 2 14 11 blr ?_;refine rTs 3 15 10 blr KK3.out ?_;refine rO 4 9 ?_;intro K4 hK4;go_wp2_with fail;refine(yz 3 (by omega) _).mono ?_;rintro e w2 ⟨rfl,hb2⟩;have HB4:=Hq hb2;clear hb2;rw[zgp];go_wp2;refine hK4 _ _ (by exact HB4.out) ?_;clear hK4;intro hS_5_4;refine rO 5 8 ?_;intro K5 hK5;go_wp2_with fail;refine(jw h _ (by omega) (by decide) _).mono ?_;rintro e w3 ⟨rfl,rfl⟩;obtain⟨c,hc,hc0⟩:=low_no HV.out HL.out;rw[hc];have HC:=Hq hc;clear hc;go_wp2;refine hK5 _ _ (by exact hS_5_4) ?_;clear hK5;intro hS_5_5;refine rPs 6 18 7 hS_5_5 ?_;refine rPs 7 19 6 hS_5_5 ?_;refine rPs 8 20 5 hS_5_5 ?_;refine rPs 9 21 4 hS_5_5 ?_;refine rTs 10 22 3 hS_5_5 KK3.out ?_;refine rO 11 2 ?_;intro K11 hK11;go_wp2_with fail;refine(zee s _ (by omega)).mono ?_;rintro e w4 ⟨rfl,rfl⟩;rw[HN.out];go_wp2;refine hK11 _ _ (by exact hS_5_5) ?_;clear hK11;intro hS_5_11;refine rPs 12 24 1 hS_5_11 ?_;refine rO 13 0 ?_;intro K13 hK13;go_wp2;refine hK13 _ _ (by exact hS_5_11) ?_;clear hK13;intro hS_5_13;refine wDn ?_;have HS5:=Hq hS_5_13;have d0:=kc HS5.out b0;have d1:=kc HS5.out b1;have d2:=kc HS5.out b2;have d3:=kc HS5.out b3;have hz2:w.heap.size+1≤w2.heap.size:=Nat.le_trans hz HS5.out.size;have HA1:=Hq (HA0.out.drew.trans (HS5.out.mono (by simp;omega)));clear b0 b1 b2 b3 HS5 HA0 HW0;go_wp2;go_ret2;exact⟨rfl,HA1.out⟩
 · skip;obtain⟨W0,HW0,HA0,hz,b0,b1,b2,b3⟩:=jm w q p h s 53;have HL:=Hq hl;have HN:=Hq hn;clear hl hn;have HV:=Hq hv;clear hv;go_enter Tryz.func40,Tryz.ntmps40;go_wp2_with fail;rw[HW0.out];refine(zh h (by omega) _).mono ?_;rintro e w1 ⟨rfl,rfl⟩;rw[HV.out];go_wp2;refine za 14 (Below (W0.drew).heap.size (W0.drew)) (by kernel_rfl) ?_;have KK4:=Hq (fun w' (hS':(Below (W0.drew).heap.size (W0.drew)) w')=>And.intro (kC hS' b0) (And.intro (kC hS' b1) (And.intro (kC hS' b2) (kC hS' b3))));refine rPs 0 12 13 blr ?_;refine rPs 1 13 12 blr ?_;refine rPs 2 14 11 blr ?_;refine rTs 3 15 10 blr KK4.out ?_;refine rO 4 9 ?_;intro K4 hK4;go_wp2_with fail;refine(yz 3 (by omega) _).mono ?_;rintro e w2 ⟨rfl,hb2⟩;have HB4:=Hq hb2;clear hb2;rw[zgp];go_wp2;refine hK4 _ _ (by exact HB4.out) ?_;clear hK4;intro hS_5_4;refine rO 5 8 ?_;intro K5 hK5;go_wp2_with fail;refine(jw h _ (by omega) (by decide) _).mono ?_;rintro e w3 ⟨rfl,rfl⟩;obtain⟨c,hc,hc0⟩:=low_no HV.out HL.out;rw[hc];have HC:=Hq hc;clear hc;go_wp2;refine hK5 _ _ (by exact hS_5_4) ?_;clear hK5;intro hS_5_5;refine rPs 6 18 7 hS_5_5 ?_;refine rPs 7 19 6 hS_5_5 ?_;refine rPs 8 20 5 hS_5_5 ?_;refine rPs 9 21 4 hS_5_5 ?_;refine rTs 10 22 3 hS_5_5 KK4.out ?_;refine rO 11 2 ?_;intro K11 hK11;go_wp2_with fail;refine(zee s _ (by omega)).mono ?_;rintro e w4 ⟨rfl,rfl⟩;rw[HN.out];go_wp2;refine hK11 _ _ (by exact hS_5_5) ?_;clear hK11;intro hS_5_11;refine rPs 12 24 1 hS_5_11 ?_;refine rO 13 0 ?_;intro K13 hK13;go_wp2;refine hK13 _ _ (by exact hS_5_11) ?_;clear hK13;intro hS_5_13;refine wDn ?_;have HS5:=Hq hS_5_13;have d0:=kc HS5.out b0;have d1:=kc HS5.out b1;have d2:=kc HS5.out b2;have d3:=kc HS5.out b3;have hz2:w.heap.size+1≤w2.heap.size:=Nat.le_trans hz HS5.out.size;have HA1:=Hq (HA0.out.drew.trans (HS5.out.mono (by simp;omega)));clear b0 b1 b2 b3 HS5 HA0 HW0;go_wp2;go_ret2;exact⟨rfl,HA1.out⟩
set_option maxRecDepth 100000
set_option maxHeartbeats 4000000
theorem zjd(q p:Nat)(h s:ByteArray)(w:World)(hq:((q:Int)==0)=false)(hq1:((q:Int)==1)=true)(hh:h.size≤128)(hs:s.size≤32)(hv:zc h=true)(hl:lowB h=false)(hn:s.toList.isEmpty=true)(hq2:q≤2)(hp:p≤4096):Calls Tryz.prog 40 #[.agg #[.int .i64 q,.string h,.string s,.int .i64 p]] w (yy (encS (itE q h s p)) w):=by
 obtain⟨W0,HW0,HA0,hz,b0,b1,b2,b3⟩:=jm w q p h s 53;have HL:=Hq hl;clear hl;have HV:=Hq hv;clear hv;go_enter Tryz.func40,Tryz.ntmps40;go_wp2_with fail;rw[HW0.out];refine(zh h (by omega) _).mono ?_;rintro e w1 ⟨rfl,rfl⟩;rw[HV.out];go_wp2;refine za 14 (Below (W0.drew).heap.size (W0.drew)) (by kernel_rfl) ?_;have KK1:=Hq (fun w' (hS':(Below (W0.drew).heap.size (W0.drew)) w')=>And.intro (kC hS' b0) (And.intro (kC hS' b1) (And.intro (kC hS' b2) (kC hS' b3))));refine rPs 0 27 13 blr ?_;refine rPs 1 28 12 blr ?_;refine rPs 2 29 11 blr ?_;refine rTs 3 30 10 blr KK1.out ?_;refine rO 4 9 ?_;intro K4 hK4;go_wp2_with fail;refine(yz 3 (by omega) _).mono ?_;rintro e w2 ⟨rfl,hb2⟩;have HB4:=Hq hb2;clear hb2;rw[zgp];go_wp2;refine hK4 _ _ (by exact HB4.out) ?_;clear hK4;intro hS_7_4;refine rO 5 8 ?_;intro K5 hK5;go_wp2_with fail;refine(jw h _ (by omega) (by decide) _).mono ?_;rintro e w3 ⟨rfl,rfl⟩;obtain⟨c,hc,hc0⟩:=low_no HV.out HL.out;rw[hc];have HC:=Hq hc;clear hc;go_wp2;refine hK5 _ _ (by exact hS_7_4) ?_;clear hK5;intro hS_7_5;refine rPs 6 33 7 hS_7_5 ?_;refine rPs 7 34 6 hS_7_5 ?_;refine rPs 8 35 5 hS_7_5 ?_;refine rPs 9 36 4 hS_7_5 ?_;refine rTs 10 37 3 hS_7_5 KK1.out ?_;refine rPs 11 38 2 hS_7_5 ?_;refine rPs 12 39 1 hS_7_5 ?_;refine rO 13 0 ?_;intro K13 hK13;go_wp2;refine hK13 _ _ (by exact hS_7_5) ?_;clear hK13;intro hS_7_13;refine wDn ?_;have HS5:=Hq hS_7_13;have d0:=kc HS5.out b0;have d1:=kc HS5.out b1;have d2:=kc HS5.out b2;have d3:=kc HS5.out b3;have hz2:w.heap.size+1≤w2.heap.size:=Nat.le_trans hz HS5.out.size;have HA1:=Hq (HA0.out.drew.trans (HS5.out.mono (by simp;omega)));clear b0 b1 b2 b3 HS5 HA0 HW0;go_wp2;refine za 20 (Below (w2.drew).heap.size (w2.drew)) (by kernel_rfl) ?_;have KK2:=Hq (fun w' (hS':(Below (w2.drew).heap.size (w2.drew)) w')=>And.intro (kC hS' d0) (And.intro (kC hS' d1) (And.intro (kC hS' d2) (kC hS' d3))));refine rPs 1 64 19 blr ?_;refine rTs 2 65 18 blr KK2.out ?_;refine rPs 4 67 17 blr ?_;refine rTs 5 68 16 blr KK2.out ?_;refine rPs 7 70 15 blr ?_;refine rTs 8 71 14 blr KK2.out ?_;refine rPs 10 73 13 blr ?_;refine rTs 11 74 12 blr KK2.out ?_;refine rO 0 11 ?_;intro K0 hK0;go_wp2_with fail;refine(qd _ _).mono ?_;rintro e w10 ⟨rfl,hb10⟩;have HB0:=Hq hb10;clear hb10;go_wp2;refine hK0 _ _ (by exact HB0.out) ?_;clear hK0;intro hS_14_0;refine rO 3 10 ?_;intro K3 hK3;go_wp2_with fail;refine(kt q _ (by omega)).mono ?_;rintro e w11 ⟨rfl,hb11⟩;have HB3:=Hq hb11;clear hb11;go_wp2;refine hK3 _ _ (by exact Below.trans hS_14_0 (Below.mono HB3.out (Below.size hS_14_0))) ?_;clear hK3;intro hS_14_3;refine rO 6 9 ?_;intro K6 hK6;go_wp2_with fail;refine(zei _ _).mono ?_;rintro e w12 ⟨rfl,hb12⟩;have HB6:=Hq hb12;clear hb12;go_wp2;refine hK6 _ _ (by exact Below.trans hS_14_3 (Below.mono HB6.out (Below.size hS_14_3))) ?_;clear hK6;intro hS_14_6;refine rO 9 8 ?_;intro K9 hK9;go_wp2_with fail;refine(qd _ _).mono ?_;rintro e w13 ⟨rfl,hb13⟩;have HB9:=Hq hb13;clear hb13;go_wp2;refine hK9 _ _ (by exact Below.trans hS_14_6 (Below.mono HB9.out (Below.size hS_14_6))) ?_;clear hK9;intro hS_14_9;refine rO 12 7 ?_;intro K12 hK12;go_wp2_with fail;refine(kt p _ (by omega)).mono ?_;rintro e w14 ⟨rfl,hb14⟩;have HB12:=Hq hb14;clear hb14;go_wp2;refine hK12 _ _ (by exact Below.trans hS_14_9 (Below.mono HB12.out (Below.size hS_14_9))) ?_;clear hK12;intro hS_14_12;refine rO 13 6 ?_;intro K13 hK13;go_wp2;refine hK13 _ _ (by exact Below.alloc hS_14_12 (Below.size hS_14_12) _) ?_;clear hK13;intro hS_14_13;refine rO 14 5 ?_;intro K14 hK14;go_wp2_with fail;refine(zbw (itsE q h s p) _ 5 5 _ _ (Nat.le_of_ble_eq_true rfl) (row5 (heap_alloc_new w14 _))).mono ?_;rintro e w15 ⟨v15,rfl,hi15,hb15⟩;have HB14:=Hq hb15;have HI15:=Hq hi15;clear hb15 hi15;go_wp2;refine hK14 _ _ (by exact Below.trans hS_14_13 (Below.mono HB14.out (Below.size hS_14_13))) ?_;clear hK14;intro hS_14_14;refine rO 15 4 ?_;intro K15 hK15;go_wp2_with fail;refine(zav _ v15 _ _ (qn hq2 hp hh hs) HI15.out).mono ?_;rintro e w16 ⟨rfl,hb16⟩;have HB15:=Hq hb16;clear hb16;obtain⟨r1,r2,hr⟩:∃ r1 r2,encS (itE q h s p)=(r1,r2):=⟨_,_,rfl⟩;have HR:=Hq hr;rw[hr];clear hr;go_wp2;refine hK15 _ _ (by exact Below.trans hS_14_14 (Below.mono HB15.out (Below.size hS_14_14))) ?_;clear hK15;intro hS_14_15;refine rPs 16 79 3 hS_14_15 ?_;refine rPs 17 80 2 hS_14_15 ?_;refine rO 18 1 ?_;intro K18 hK18;go_wp2;refine hK18 _ _ (by exact hS_14_15) ?_;clear hK18;intro hS_14_18;refine rO 19 0 ?_;intro K19 hK19;go_wp2;refine hK19 _ _ (by exact hS_14_18) ?_;clear hK19;intro hS_14_19;refine wDn ?_;go_wp2;go_ret2;exact⟨by rw[HR.out];rfl,HA1.out.drew.trans ((hS_14_19).mono (by simp;omega))⟩
theorem zg7(q:Nat)(p:Int)(h s:ByteArray)(w:World)(hq:((q:Int)==0)=false)(hq1:((q:Int)==1)=true)(hh:h.size≤128)(hs:s.size≤32)(hv:zc h=true)(hl:lowB h=false)(hn:s.toList.isEmpty=true)(hp:p<0∨4096<p):Calls Tryz.prog 40 #[.agg #[.int .i64 q,.string h,.string s,.int .i64 p]] w (yy (⟨#[]⟩,2) w):=by
 rcases hp with hp | hp
 · skip;obtain⟨W0,HW0,HA0,hz,b0,b1,b2,b3⟩:=jm w q p h s 53;have HL:=Hq hl;clear hl;have HV:=Hq hv;clear hv;go_enter Tryz.func40,Tryz.ntmps40;go_wp2_with fail;rw[HW0.out];refine(zh h (by omega) _).mono ?_;rintro e w1 ⟨rfl,rfl⟩;rw[HV.out];go_wp2;refine za 14 (Below (W0.drew).heap.size (W0.drew)) (by kernel_rfl) ?_;have KK3:=Hq (fun w' (hS':(Below (W0.drew).heap.size (W0.drew)) w')=>And.intro (kC hS' b0) (And.intro (kC hS' b1) (And.intro (kC hS' b2) (kC hS' b3))));refine rPs 0 27 13 blr ?_;refine rPs 1 28 12 blr ?_;refine rPs 2 29 11 blr ?_;refine rTs 3 30 10 blr KK3.out ?_;refine rO 4 9 ?_;intro K4 hK4;go_wp2_with fail;refine(yz 3 (by omega) _).mono ?_;rintro e w2 ⟨rfl,hb2⟩;have HB4:=Hq hb2;clear hb2;rw[zgp];go_wp2;refine hK4 _ _ (by exact HB4.out) ?_;clear hK4;intro hS_7_4;refine rO 5 8 ?_;intro K5 hK5;go_wp2_with fail;refine(jw h _ (by omega) (by decide) _).mono ?_;rintro e w3 ⟨rfl,rfl⟩;obtain⟨c,hc,hc0⟩:=low_no HV.out HL.out;rw[hc];have HC:=Hq hc;clear hc;go_wp2;refine hK5 _ _ (by exact hS_7_4) ?_;clear hK5;intro hS_7_5;refine rPs 6 33 7 hS_7_5 ?_;refine rPs 7 34 6 hS_7_5 ?_;refine rPs 8 35 5 hS_7_5 ?_;refine rPs 9 36 4 hS_7_5 ?_;refine rTs 10 37 3 hS_7_5 KK3.out ?_;refine rPs 11 38 2 hS_7_5 ?_;refine rPs 12 39 1 hS_7_5 ?_;refine rO 13 0 ?_;intro K13 hK13;go_wp2;refine hK13 _ _ (by exact hS_7_5) ?_;clear hK13;intro hS_7_13;refine wDn ?_;have HS5:=Hq hS_7_13;have d0:=kc HS5.out b0;have d1:=kc HS5.out b1;have d2:=kc HS5.out b2;have d3:=kc HS5.out b3;have hz2:w.heap.size+1≤w2.heap.size:=Nat.le_trans hz HS5.out.size;have HA1:=Hq (HA0.out.drew.trans (HS5.out.mono (by simp;omega)));clear b0 b1 b2 b3 HS5 HA0 HW0;go_wp2;go_ret2;exact⟨rfl,HA1.out⟩
 · skip;obtain⟨W0,HW0,HA0,hz,b0,b1,b2,b3⟩:=jm w q p h s 53;have HL:=Hq hl;clear hl;have HV:=Hq hv;clear hv;go_enter Tryz.func40,Tryz.ntmps40;go_wp2_with fail;rw[HW0.out];refine(zh h (by omega) _).mono ?_;rintro e w1 ⟨rfl,rfl⟩;rw[HV.out];go_wp2;refine za 14 (Below (W0.drew).heap.size (W0.drew)) (by kernel_rfl) ?_;have KK4:=Hq (fun w' (hS':(Below (W0.drew).heap.size (W0.drew)) w')=>And.intro (kC hS' b0) (And.intro (kC hS' b1) (And.intro (kC hS' b2) (kC hS' b3))));refine rPs 0 27 13 blr ?_;refine rPs 1 28 12 blr ?_;refine rPs 2 29 11 blr ?_;refine rTs 3 30 10 blr KK4.out ?_;refine rO 4 9 ?_;intro K4 hK4;go_wp2_with fail;refine(yz 3 (by omega) _).mono ?_;rintro e w2 ⟨rfl,hb2⟩;have HB4:=Hq hb2;clear hb2;rw[zgp];go_wp2;refine hK4 _ _ (by exact HB4.out) ?_;clear hK4;intro hS_7_4;refine rO 5 8 ?_;intro K5 hK5;go_wp2_with fail;refine(jw h _ (by omega) (by decide) _).mono ?_;rintro e w3 ⟨rfl,rfl⟩;obtain⟨c,hc,hc0⟩:=low_no HV.out HL.out;rw[hc];have HC:=Hq hc;clear hc;go_wp2;refine hK5 _ _ (by exact hS_7_4) ?_;clear hK5;intro hS_7_5;refine rPs 6 33 7 hS_7_5 ?_;refine rPs 7 34 6 hS_7_5 ?_;refine rPs 8 35 5 hS_7_5 ?_;refine rPs 9 36 4 hS_7_5 ?_;refine rTs 10 37 3 hS_7_5 KK4.out ?_;refine rPs 11 38 2 hS_7_5 ?_;refine rPs 12 39 1 hS_7_5 ?_;refine rO 13 0 ?_;intro K13 hK13;go_wp2;refine hK13 _ _ (by exact hS_7_5) ?_;clear hK13;intro hS_7_13;refine wDn ?_;have HS5:=Hq hS_7_13;have d0:=kc HS5.out b0;have d1:=kc HS5.out b1;have d2:=kc HS5.out b2;have d3:=kc HS5.out b3;have hz2:w.heap.size+1≤w2.heap.size:=Nat.le_trans hz HS5.out.size;have HA1:=Hq (HA0.out.drew.trans (HS5.out.mono (by simp;omega)));clear b0 b1 b2 b3 HS5 HA0 HW0;go_wp2;go_ret2;exact⟨rfl,HA1.out⟩
theorem zjc(q p:Nat)(h s:ByteArray)(w:World)(hq:((q:Int)==0)=false)(hq1:((q:Int)==1)=false)(hqq:((q:Int)==2)=true)(hh:h.size≤128)(hs:s.size≤32)(hv:zc h=true)(hl:h.toList.isEmpty=true)(hn:s.toList.isEmpty=true)(hq2:q≤2)(hp:p≤4096):Calls Tryz.prog 40 #[.agg #[.int .i64 q,.string h,.string s,.int .i64 p]] w (yy (encS (itE q h s p)) w):=by
 obtain⟨W0,HW0,HA0,hz,b0,b1,b2,b3⟩:=jm w q p h s 53;have HV:=Hq hv;clear hv;go_enter Tryz.func40,Tryz.ntmps40;go_wp2_with fail;rw[HW0.out];refine(zh h (by omega) _).mono ?_;rintro e w1 ⟨rfl,rfl⟩;rw[HV.out];go_wp2;have d0:=b0;have d1:=b1;have d2:=b2;have d3:=b3;have hz2:=hz;have HA1:=HA0;clear b0 b1 b2 b3 HA0 HW0;refine za 20 (Below (W0.drew).heap.size (W0.drew)) (by kernel_rfl) ?_;have KK5:=Hq (fun w' (hS':(Below (W0.drew).heap.size (W0.drew)) w')=>And.intro (kC hS' d0) (And.intro (kC hS' d1) (And.intro (kC hS' d2) (kC hS' d3))));refine rPs 1 64 19 blr ?_;refine rTs 2 65 18 blr KK5.out ?_;refine rPs 4 67 17 blr ?_;refine rTs 5 68 16 blr KK5.out ?_;refine rPs 7 70 15 blr ?_;refine rTs 8 71 14 blr KK5.out ?_;refine rPs 10 73 13 blr ?_;refine rTs 11 74 12 blr KK5.out ?_;refine rO 0 11 ?_;intro K0 hK0;go_wp2_with fail;refine(qd _ _).mono ?_;rintro e w10 ⟨rfl,hb10⟩;have HB0:=Hq hb10;clear hb10;go_wp2;refine hK0 _ _ (by exact HB0.out) ?_;clear hK0;intro hS_14_0;refine rO 3 10 ?_;intro K3 hK3;go_wp2_with fail;refine(kt q _ (by omega)).mono ?_;rintro e w11 ⟨rfl,hb11⟩;have HB3:=Hq hb11;clear hb11;go_wp2;refine hK3 _ _ (by exact Below.trans hS_14_0 (Below.mono HB3.out (Below.size hS_14_0))) ?_;clear hK3;intro hS_14_3;refine rO 6 9 ?_;intro K6 hK6;go_wp2_with fail;refine(zei _ _).mono ?_;rintro e w12 ⟨rfl,hb12⟩;have HB6:=Hq hb12;clear hb12;go_wp2;refine hK6 _ _ (by exact Below.trans hS_14_3 (Below.mono HB6.out (Below.size hS_14_3))) ?_;clear hK6;intro hS_14_6;refine rO 9 8 ?_;intro K9 hK9;go_wp2_with fail;refine(qd _ _).mono ?_;rintro e w13 ⟨rfl,hb13⟩;have HB9:=Hq hb13;clear hb13;go_wp2;refine hK9 _ _ (by exact Below.trans hS_14_6 (Below.mono HB9.out (Below.size hS_14_6))) ?_;clear hK9;intro hS_14_9;refine rO 12 7 ?_;intro K12 hK12;go_wp2_with fail;refine(kt p _ (by omega)).mono ?_;rintro e w14 ⟨rfl,hb14⟩;have HB12:=Hq hb14;clear hb14;go_wp2;refine hK12 _ _ (by exact Below.trans hS_14_9 (Below.mono HB12.out (Below.size hS_14_9))) ?_;clear hK12;intro hS_14_12;refine rO 13 6 ?_;intro K13 hK13;go_wp2;refine hK13 _ _ (by exact Below.alloc hS_14_12 (Below.size hS_14_12) _) ?_;clear hK13;intro hS_14_13;refine rO 14 5 ?_;intro K14 hK14;go_wp2_with fail;refine(zbw (itsE q h s p) _ 5 5 _ _ (Nat.le_of_ble_eq_true rfl) (row5 (heap_alloc_new w14 _))).mono ?_;rintro e w15 ⟨v15,rfl,hi15,hb15⟩;have HB14:=Hq hb15;have HI15:=Hq hi15;clear hb15 hi15;go_wp2;refine hK14 _ _ (by exact Below.trans hS_14_13 (Below.mono HB14.out (Below.size hS_14_13))) ?_;clear hK14;intro hS_14_14;refine rO 15 4 ?_;intro K15 hK15;go_wp2_with fail;refine(zav _ v15 _ _ (qn hq2 hp hh hs) HI15.out).mono ?_;rintro e w16 ⟨rfl,hb16⟩;have HB15:=Hq hb16;clear hb16;obtain⟨r1,r2,hr⟩:∃ r1 r2,encS (itE q h s p)=(r1,r2):=⟨_,_,rfl⟩;have HR:=Hq hr;rw[hr];clear hr;go_wp2;refine hK15 _ _ (by exact Below.trans hS_14_14 (Below.mono HB15.out (Below.size hS_14_14))) ?_;clear hK15;intro hS_14_15;refine rPs 16 79 3 hS_14_15 ?_;refine rPs 17 80 2 hS_14_15 ?_;refine rO 18 1 ?_;intro K18 hK18;go_wp2;refine hK18 _ _ (by exact hS_14_15) ?_;clear hK18;intro hS_14_18;refine rO 19 0 ?_;intro K19 hK19;go_wp2;refine hK19 _ _ (by exact hS_14_18) ?_;clear hK19;intro hS_14_19;refine wDn ?_;go_wp2;go_ret2;exact⟨by rw[HR.out];rfl,HA1.out.drew.trans ((hS_14_19).mono (by simp;omega))⟩
theorem zg6(q:Nat)(p:Int)(h s:ByteArray)(w:World)(hq:((q:Int)==0)=false)(hq1:((q:Int)==1)=false)(hqq:((q:Int)==2)=true)(hh:h.size≤128)(hs:s.size≤32)(hv:zc h=true)(hl:h.toList.isEmpty=true)(hn:s.toList.isEmpty=true)(hp:p<0∨4096<p):Calls Tryz.prog 40 #[.agg #[.int .i64 q,.string h,.string s,.int .i64 p]] w (yy (⟨#[]⟩,2) w):=by
 rcases hp with hp | hp
 · skip;obtain⟨W0,HW0,HA0,hz,b0,b1,b2,b3⟩:=jm w q p h s 53;have HV:=Hq hv;clear hv;go_enter Tryz.func40,Tryz.ntmps40;go_wp2_with fail;rw[HW0.out];refine(zh h (by omega) _).mono ?_;rintro e w1 ⟨rfl,rfl⟩;rw[HV.out];go_wp2;go_ret2;exact⟨rfl,HA0.out⟩
 · skip;obtain⟨W0,HW0,HA0,hz,b0,b1,b2,b3⟩:=jm w q p h s 53;have HV:=Hq hv;clear hv;go_enter Tryz.func40,Tryz.ntmps40;go_wp2_with fail;rw[HW0.out];refine(zh h (by omega) _).mono ?_;rintro e w1 ⟨rfl,rfl⟩;rw[HV.out];go_wp2;go_ret2;exact⟨rfl,HA0.out⟩
end Go.Proofs.YtppbcopnfankcaaGreat
