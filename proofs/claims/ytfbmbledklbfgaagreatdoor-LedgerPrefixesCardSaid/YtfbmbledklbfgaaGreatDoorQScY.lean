import Derived.Test.YtfbmbledklbfgaaGreatDoorQLxA
set_option linter.unusedVariables false
set_option linter.unusedSimpArgs false
namespace Go.Proofs.YtfbmbledklbfgaaGreatDoor
set_option maxRecDepth 100000
set_option maxHeartbeats 1000000
open Go.RowKit Go.Shelf
attribute [local go_sem] Oper.semAt_some
def few9(M O:ByteArray)(l:List ByteArray):Bool:=l.all (fun s=>decide (s.size≤20))&&(decide (M.size≤8)&&decide (O.size≤10))
theorem few9_big{M O:ByteArray}{l:List ByteArray}{k:Nat}{s:ByteArray}(h:l[k]? =some s)(hb:20<s.size):few9 M O l=false:=by
 unfold few9;have : l.all (fun s=>decide (s.size≤20))=false:=by
  rw[List.all_eq_false];exact⟨s,List.mem_of_getElem? h,by simp;omega⟩
 rw[this];rfl
theorem few9_all{M O:ByteArray}{l:List ByteArray}(h:∀ k,k<l.length→∃ s,l[k]? =some s∧s.size≤20):few9 M O l=(decide (M.size≤8)&&decide (O.size≤10)):=by
 unfold few9;have : l.all (fun s=>decide (s.size≤20))=true:=by
  rw[List.all_eq_true];intro s hs;obtain⟨k,hk⟩:=List.mem_iff_getElem?.1 hs;obtain⟨s',h1,h2⟩:=h k (List.getElem?_eq_some_iff.1 hk).1;rw[hk]at h1;cases h1;exact decide_eq_true h2
 rw[this];rfl
theorem few9_of{M O:ByteArray}{l:List ByteArray}(h:few9 M O l=true):M.size≤8∧O.size≤10∧∀ s∈l,s.size≤20:=by
 unfold few9 at h;simp only[Bool.and_eq_true,decide_eq_true_eq,List.all_eq_true]at h;exact⟨h.2.1,h.2.2,h.1⟩
theorem law_Few(M O:ByteArray)(l:List ByteArray)(A:Option Addr)(len cap:Nat)(hl:len≤1000)(w:World)(hs:SlN w A len cap l):Calls Tryz.prog 34 #[gV M O,.slice A len cap] w (Ret (.bool (few9 M O l)) w):=by
 have HX0:=Hq (Bx2.new w (.string M) (.string O) 24);have HB0:=Hq ((Below.refl w.heap.size w).alloc nlr (.cells #[.string M,.string O] 24));have c0:=HX0.out.c0;have c1:=HX0.out.c1;have HS:=Hq (hs.kept HB0.out nlr);have HLEN:=Hq hs.1;have hcap:=hs.2.1;have hcap2:=hs.2.2.1;clear hs;unfold gV;go_enter Tryz.func34,Tryz.ntmps34;go_wp2
 go_loop [5] (fun i=>∃ k:Nat,k≤len∧i=.int .i64 k∧∀ j,j<k→∃ s,l[j]? =some s∧s.size≤20) (fun i=>len - (RowKit.intOf i).toNat)
 case atStart=>exact⟨0,Nat.zero_le _,rfl,fun j h=>by omega⟩
 case round =>
  obtain⟨k,hk,rfl,hall⟩:=hrel;have HALL:=Hq hall;clear hall;by_cases hlt:k<len
  · obtain⟨b,o,rfl⟩:=HS.out.head (by omega);obtain⟨s,he⟩:∃ s,l[k]? =some s:=⟨_,List.getElem?_eq_getElem (by rw[HLEN.out];exact hlt)⟩;have d0:=HS.out.get? k he;have HE:=Hq he;clear he;by_cases h1:20<s.size
    · have HF:=Hq (few9_big (M:=M) (O:=O) HE.out h1);have i1:decide ((20:Int)<(s.size:Int))=true:=decide_eq_true (by omega);go_wp2;go_ret;exact⟨by rw[HF.out];rfl,HB0.out⟩
    · have i1:decide ((20:Int)<(s.size:Int))=false:=decide_eq_false (by omega);go_wp2;go_round;case rel =>
       refine⟨k+1,by omega,by go_num,fun j hj=>?_⟩;by_cases hjk:j<k
       · exact HALL.out j hjk
       · obtain rfl:j=k:=by omega
         exact⟨s,HE.out,by omega⟩
      case measure=>simp[RowKit.intOf];omega
  · obtain rfl:k=len:=by omega
    have HF:=Hq (few9_all (M:=M) (O:=O) (l:=l) (fun j hj=>HALL.out j (by have:=HLEN.out;omega)));by_cases h8:M.size≤8
    · rw[decide_eq_true h8,Bool.true_and]at HF;have h8':(M.size:Int)≤8:=by omega
      by_cases h10:O.size≤10
      · rw[decide_eq_true h10]at HF;have h10':(O.size:Int)≤10:=by omega
        go_wp2;go_ret;exact⟨by rw[HF.out];rfl,HB0.out⟩
      · rw[decide_eq_false h10]at HF;have h10':decide ((O.size:Int)≤10)=false:=decide_eq_false (by omega);go_wp2;go_ret;exact⟨by rw[HF.out];rfl,HB0.out⟩
    · rw[decide_eq_false h8,Bool.false_and]at HF;have h8':decide ((M.size:Int)≤8)=false:=decide_eq_false (by omega);go_wp2;go_ret;exact⟨by rw[HF.out];rfl,HB0.out⟩
set_option maxRecDepth 100000
set_option maxHeartbeats 1000000
open Go.RowKit Go.Lib
def few33(M O G H:ByteArray)(l:List ByteArray):Bool:=few9 M O [G,H]&&few9 M O l
theorem few33_of{M O G H:ByteArray}{l:List ByteArray}(h:few33 M O G H l=true):M.size≤8∧O.size≤10∧G.size≤20∧H.size≤20∧∀ s∈l,s.size≤20:=by
 unfold few33 at h;rw[Bool.and_eq_true]at h;obtain⟨a,b,c⟩:=few9_of h.1;exact⟨a,b,c G (by simp),c H (by simp),(few9_of h.2).2.2⟩
theorem law33_Few(M O G H:ByteArray)(l:List ByteArray)(A:Option Addr)(n cap:Nat)(hn:n≤1000)(w:World)(hsl:SlN w A n cap l):Calls Tryz.prog 10 #[kV M O G H,.slice A n cap] w (Ret (.bool (few33 M O G H l)) w):=by
 have HK0:=Hq (SB.new w M O G H);have HS0:=Hq (hsl.kept ((blr).alloc nlr (.cells #[.string M,.string O,.string G,.string H] 26)) nlr);obtain⟨W0,hW0⟩:∃ W,w.alloc (.cells #[.string M,.string O,.string G,.string H] 26)=W:=⟨_,rfl⟩;rw[hW0]at HK0 HS0;have hs2:=sln_alloc W0 [G,H] 22 (by simp);have hbb:=(Below.refl W0.heap.size W0).alloc nlr (.cells #[.string G,.string H] 22);have HF1:=Hq (law_Few M O [G,H] _ 2 2 (by omega) _ hs2);have HK1:=Hq (HK0.out.next hbb);have HS1:=Hq (HS0.out.kept hbb nlr);have HLF:=Hq (fun w hs=>law_Few M O l A n cap hn w hs);obtain⟨c0,c1,c2,c3⟩:=HK0.out.1.cells
 cases h1:few9 M O [G,H]with
 | false =>
  rw[h1]at HF1;have HR:=Hq (show few33 M O G H l=false from by unfold few33;rw[h1];rfl);rw[HR.out];unfold kV gV at *;clear hsl hn hs2 hbb h1;go_enter Tryz.func10,Tryz.ntmps10;go_wp2_with fail;try rw[hW0]
  clear hW0;refine HF1.out.mono ?_;rintro ev w1 ⟨rfl,hb⟩;have HK2:=Hq (HK1.out.next hb);clear hb c0 c1 c2 c3;go_wp2;go_ret;exact⟨rfl,HK2.out.2⟩
 | true =>
  rw[h1]at HF1;have HR:=Hq (show few33 M O G H l=few9 M O l from by unfold few33;rw[h1];rfl);rw[HR.out];unfold kV gV at *;clear hsl hn hs2 hbb h1;go_enter Tryz.func10,Tryz.ntmps10;go_wp2_with fail;try rw[hW0]
  clear hW0;refine HF1.out.mono ?_;rintro ev w1 ⟨rfl,hb⟩;have HK2:=Hq (HK1.out.next hb);have HLL:=Hq (HLF.out _ (HS1.out.kept hb nlr));clear hb c0 c1 c2 c3;obtain⟨c0,c1,c2,c3⟩:=HK2.out.1.cells;go_wp2_with fail;refine HLL.out.mono ?_;rintro ev w2 ⟨rfl,hb⟩;have HK3:=Hq (HK2.out.next hb);clear hb c0 c1 c2 c3;go_wp2;go_ret;exact⟨rfl,HK3.out.2⟩
set_option maxRecDepth 100000
set_option maxHeartbeats 2000000
attribute [local go_sem] Oper.semAt_some
def fewT(lim sz sd:Nat)(l:List ByteArray)(s:ByteArray):Bool:=(l.take lim).all (fun s=>decide (s.size≤sz))&&(decide (l.length≤lim)&&decide (s.size≤sd))
theorem fewT_of{lim sz sd:Nat}{l:List ByteArray}{s:ByteArray}(h:fewT lim sz sd l s=true):l.length≤lim∧s.size≤sd∧∀ x∈l,x.size≤sz:=by
 unfold fewT at h;simp only[Bool.and_eq_true,decide_eq_true_eq,List.all_eq_true]at h;rw[List.take_of_length_le h.2.1]at h;exact⟨h.2.1,h.2.2,h.1⟩
theorem fewT_big{lim sz sd:Nat}{l:List ByteArray}{s x:ByteArray}{k:Nat}(hx:l[k]? =some x)(hk:k<lim)(hb:sz<x.size):fewT lim sz sd l s=false:=by
 unfold fewT;have : (l.take lim).all (fun s=>decide (s.size≤sz))=false:=by
  rw[List.all_eq_false];exact⟨x,List.mem_of_getElem? (i:=k) (by rw[List.getElem?_take_of_lt hk];exact hx),by simp;omega⟩
 rw[this];rfl
theorem fewT_all{lim sz sd:Nat}{l:List ByteArray}{s:ByteArray}(h:∀ j,j<l.length→j<lim→∃ x,l[j]? =some x∧x.size≤sz):fewT lim sz sd l s=(decide (l.length≤lim)&&decide (s.size≤sd)):=by
 unfold fewT;have : (l.take lim).all (fun s=>decide (s.size≤sz))=true:=by
  rw[List.all_eq_true];intro x hx;obtain⟨k,hk⟩:=List.mem_iff_getElem?.1 hx;have h1:=(List.getElem?_eq_some_iff.1 hk).1;rw[List.length_take]at h1;have hkl:k<lim:=by omega
  rw[List.getElem?_take_of_lt hkl]at hk;obtain⟨x',h2,h3⟩:=h k (by omega) hkl;rw[hk]at h2;cases h2;exact decide_eq_true h3
 rw[this];rfl
def few11(l:List ByteArray)(s:ByteArray)(k:Int):Bool:=fewT 80 16 40 l s&&decide (k<1000)
theorem law11_Few(l:List ByteArray)(s:ByteArray)(k:Int)(A:Option Addr)(n cap:Nat)(w:World)(hs:SlN w A n cap l):Calls Tryz.prog 12 #[tpV A n cap s k] w (Ret (.bool (few11 l s k)) w):=by
 have HT:=Hq (TB.new w A n cap s k);have HB0:=Hq ((Below.refl w.heap.size w).alloc nlr (.cells #[.slice A n cap,.string s,.int .i64 k] 30));obtain⟨c0,c1,c2⟩:=HT.out.c;have HS:=Hq (hs.kept HB0.out nlr);have HLEN:=Hq hs.1;have hcap:=hs.2.1;have hcap2:=hs.2.2.1;have HR:=Hq (show few11 l s k=(fewT 80 16 40 l s&&decide (k<1000))from rfl);clear hs;unfold tpV;go_enter Tryz.func12,Tryz.ntmps12;go_wp2
 go_loop [3] (fun i=>∃ q:Nat,q≤n∧q≤80∧i=.int .i64 q∧∀ j,j<q→∃ x,l[j]? =some x∧x.size≤16) (fun i=>80 - (RowKit.intOf i).toNat)
 case atStart=>exact⟨0,Nat.zero_le _,Nat.zero_le _,rfl,fun j h=>by omega⟩
 case round =>
  obtain⟨q,hq,hq8,rfl,hall⟩:=hrel;have HALL:=Hq hall;clear hall;by_cases hin:q<n∧q<80
  · obtain⟨hlt,hl8⟩:=hin;obtain⟨b,o,rfl⟩:=HS.out.head (by omega);obtain⟨x,he⟩:∃ s,l[q]? =some s:=⟨_,List.getElem?_eq_getElem (by rw[HLEN.out];exact hlt)⟩;have d0:=HS.out.get? q he;have HE:=Hq he;have hqi:(q:Int)<(n:Int):=by omega
    have hq8i:(q:Int)<80:=by omega
    have HQ8:=Hq hl8;have HQN:=Hq hlt;clear he hq hq8 hlt hl8;by_cases h1:16<x.size
    · have HF:=Hq (fewT_big (sd:=40) (s:=s) HE.out HQ8.out h1);have i1:decide ((16:Int)<(x.size:Int))=true:=decide_eq_true (by omega);go_wp2;go_ret;exact⟨by rw[HR.out,HF.out];rfl,HB0.out⟩
    · have i1:decide ((16:Int)<(x.size:Int))=false:=decide_eq_false (by omega);have H1:=Hq h1;clear h1;go_wp2;go_round;case rel =>
       refine⟨q+1,HQN.out,HQ8.out,by go_num,fun j hj=>?_⟩;by_cases hjk:j<q
       · exact HALL.out j hjk
       · obtain rfl:j=q:=by omega
         exact⟨x,HE.out,by have:=H1.out;omega⟩
      case measure=>have:=HQ8.out;simp[RowKit.intOf];omega
  · have HF:=Hq (fewT_all (lim:=80) (sz:=16) (sd:=40) (s:=s) (l:=l) (fun j hj hj8=>HALL.out j (by have:=HLEN.out;omega)));have hc:decide ((q:Int)<(n:Int))=true→decide ((q:Int)<80)=false:=fun h=>decide_eq_false (by have:=of_decide_eq_true h;omega);have hR:few11 l s k=(decide (n≤80)&&decide (s.size≤40)&&decide (k<1000)):=by rw[HR.out,HF.out,HLEN.out]
    have HR2:=Hq hR;have HQ9:=Hq (show q<n→q=80 from fun h=>by omega);clear hR hin hq8 HF HR;by_cases hqn:q<n
    · obtain rfl:=HQ9.out hqn;have e1:((80:Nat):Int)<(n:Int):=by omega
      have e2:decide ((n:Int)≤80)=false:=decide_eq_false (by omega);have HZ:=Hq (show few11 l s k=false from by rw[HR2.out,decide_eq_false (by omega:¬ n≤80)];rfl);clear hq hqn hc;go_wp2;go_ret;exact⟨by rw[HZ.out];rfl,HB0.out⟩
    · have e1:¬ ((q:Int)<(n:Int)):=by omega
      clear hq hc;by_cases h8:n≤80
      · have e2:decide ((n:Int)≤80)=true:=decide_eq_true (by omega);by_cases h4:s.size≤40
        · have e3:decide ((s.size:Int)≤40)=true:=decide_eq_true (by omega);have HZ:=Hq (show few11 l s k=decide (k<1000)from by rw[HR2.out,decide_eq_true h8,decide_eq_true h4];rfl);clear h8 h4;go_wp2;go_ret;exact⟨by rw[HZ.out];rfl,HB0.out⟩
        · have e3:decide ((s.size:Int)≤40)=false:=decide_eq_false (by omega);have HZ:=Hq (show few11 l s k=false from by rw[HR2.out,decide_eq_true h8,decide_eq_false h4];rfl);clear h8 h4;go_wp2;go_ret;exact⟨by rw[HZ.out];rfl,HB0.out⟩
      · have e2:decide ((n:Int)≤80)=false:=decide_eq_false (by omega);have HZ:=Hq (show few11 l s k=false from by rw[HR2.out,decide_eq_false h8];rfl);clear h8;go_wp2;go_ret;exact⟨by rw[HZ.out];rfl,HB0.out⟩
theorem cm_sign{m q g y x n c i:Nat}(hu:Un m g i)(hp:g ^ q%m=1)(hyx:g ^ x%m=y)(hc:c<q):cmS m q g y c ((c * x%q+n)%q)=g ^ n%m:=by
 have hy:y=pz m g (x:Int):=by rw[pz_nat,hyx]
 obtain⟨j,hj⟩:=pz_un hu (x:Int);have hpy:y ^ q%m=1:=(by rw[hy,←pz_nat,pz_pow hu,Int.mul_comm,←pz_pow hu,show pz m g (q:Int)=1 from by rw[pz_nat,hp],pz_base1 hu.hm]);rw[←cmS_pz (hy▸hj) hpy hc,hy,pz_pow hu,←pz_add hu,←pz_red hu hp];have e:((((c * x%q+n)%q:Nat):Int)+(x:Int) * -(c:Int))%(q:Int)=(n:Int)%(q:Int):=(by rw[Int.natCast_emod,Int.emod_add_emod,Int.natCast_add,Int.natCast_emod,Int.add_assoc,Int.emod_add_emod,Int.natCast_mul];congr 1;rw[Int.mul_neg,Int.mul_comm];omega);rw[e,pz_red hu hp,pz_nat]
theorem sg_ok{M O G Y X msg:ByteArray}{l:List ByteArray}{s:ByteArray}{k:Int}(h:(sgN M O G Y X msg l s k).2.2=0) :
 ∃ nn,scK M O G Y=0∧(0<num X∧num X<num O∧num G ^ num X%num M=num Y)∧nn<num O∧∀ msg',sgN M O G Y X msg' l s k=(chS M O G Y (num G ^ nn%num M) msg',(chS M O G Y (num G ^ nn%num M) msg' * num X%num O+nn)%num O,0):=by
 unfold sgN at *;split at h
 · rename_i h1;split at h
   · rename_i h2;split at h
     · rename_i h3;split at h
       · rename_i h4;exact⟨(coN l s k O).1,h1,of_decide_eq_true h3,coN_lt h4,fun msg'=>by rw[if_pos h1,if_pos h2,if_pos h3,if_pos h4]⟩
       · rename_i h4;exact absurd h h4
     · cases h
   · cases h
 · rename_i h1;exact absurd h h1
theorem ve_sign{M O G Y X:ByteArray}{nn c:Nat}(hM:M.size≤8)(hk:scK M O G Y=0)(hs:num G ^ num X%num M=num Y)(hc:c<num O)(other:ByteArray) :
 veK M O G Y (nS c) (nS ((c * num X%num O+nn)%num O)) other=if chS M O G Y (num G ^ nn%num M) other=c then 0 else 19:=by
 obtain⟨hv4,hck,hz,hgg,hy⟩:=scK_ok hk;have h8:=chk_small hv4 hM hck;have lO:=num_small h8;have hgp:=genK_parts hgg;obtain⟨i,hu⟩:=has_un (chkK_parts hck).2.2 hgp.1;have hr:(c * num X%num O+nn)%num O<num O:=Nat.mod_lt _ (by omega);have v1:nvalid (nS c)=true:=nvalid_nS.2 (lt128_of_lt8 (by omega));have v2:nvalid (nS ((c * num X%num O+nn)%num O))=true:=nvalid_nS.2 (lt128_of_lt8 (by omega));unfold veK veB;rw[if_pos hk,v1,v2,if_pos (by rfl),num_nS,num_nS,decide_eq_true hc,decide_eq_true hr,cm_sign hu (has_ord (by omega) hgp.1) hs hc,Bool.true_and,Bool.true_and];simp only[decide_eq_true_eq]
end Go.Proofs.YtfbmbledklbfgaaGreatDoor
