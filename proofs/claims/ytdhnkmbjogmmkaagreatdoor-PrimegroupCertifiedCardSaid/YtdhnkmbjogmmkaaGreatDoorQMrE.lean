import Derived.Test.YtdhnkmbjogmmkaaGreatDoorQMrC
set_option linter.unusedVariables false
set_option linter.unusedSimpArgs false
namespace Go.Proofs.YtdhnkmbjogmmkaaGreatDoor
set_option maxRecDepth 100000
set_option maxHeartbeats 4000000
open Go.RowKit
theorem r04_Formed(a:ByteArray)(h:a.size≤9223372036854775807)(w:World):Calls Tryz.prog 98 #[.string a] w (RetQ (.bool (nvalid a)) w):=by
 by_cases h1:a.size≤128
 · by_cases h2:a.size=0
   · rw[nvalid_nil h2];have h3:=sempty_true h2;go_enter Tryz.func98,Tryz.ntmps98;go_wp2;go_ret;exact⟨rfl,rfl⟩
   · have h3:0<a.size:=by omega
     have h4:=sempty_false h3;have h5:((a.size:Int)==0)=false:=by rw[beq_eq_false_iff_ne];omega
     rw[nvalid_some h1 h3];go_enter Tryz.func98,Tryz.ntmps98;go_wp2;go_ret;exact⟨rfl,rfl⟩
 · rw[nvalid_long h1];go_enter Tryz.func98,Tryz.ntmps98;go_wp2;go_ret;exact⟨rfl,rfl⟩
theorem r04_U(s:ByteArray)(h8:s.size≤8)(w:World):Calls Tryz.prog 99 #[.string s] w (RetQ (.tuple #[.int .u64 (num s),.bool true]) w):=by
 have hne:(s.size:Int)≤8:=by omega
 go_enter Tryz.func99,Tryz.ntmps99;go_wp2
 go_loop [4,5] (fun n i=>∃ k:Nat,k≤s.size∧i=.int .i64 k∧n=.int .u64 (pre s k)) (fun _ i=>s.size - (intOf i).toNat)
 case atStart=>exact⟨0,Nat.zero_le _,rfl,rfl⟩
 case round =>
  obtain⟨k,hk,rfl,rfl⟩:=hrel;by_cases hlt:k<s.size
  · have hp:=pre_le (s:=s) (k:=k) (by omega);have HP:=Hq (pre_succ s k hlt);obtain⟨p,hpp⟩:∃ p,pre s k=p:=⟨_,rfl⟩;rw[hpp]at hp HP⊢;have hb:=(s[k]).toNat_lt;have hw:=u64_wrap (s[k]).toNat (by omega);have hp0:(p:Int)<72057594037927936:=by omega
    have hb0:((s[k]).toNat:Int)<256:=by omega
    clear hpp hb;go_wp2;go_round;case rel=>exact⟨k+1,by omega,by go_num,by rw[HP.out];go_num⟩
    case measure=>simp[intOf];omega
  · obtain rfl:k=s.size:=by omega
    have HA:=Hq (pre_all s);go_wp2;go_ret2;exact⟨by rw[←HA.out];rfl,rfl⟩
theorem r04_StrongU(n p:Nat)(h38:38≤n)(hodd:n%2=1)(hp:2≤p)(hp2:p≤37)(h8:n<18446744073709551616)(w:World):Calls Tryz.prog 123 #[.int .u64 n,.int .u64 p] w (Ret (.bool (strongB n p (sN n) (dN n))) w):=by
 obtain⟨hsd,hdo⟩:=sd_spec (n:=n) (by omega) h8;obtain⟨S,hs⟩:∃ s,sN n=s:=⟨_,rfl⟩;obtain⟨D,hd⟩:∃ d,dN n=d:=⟨_,rfl⟩;rw[hs,hd]at hsd⊢;rw[hd]at hdo;clear hs hd;have HSD:=Hq (fun(s d:Nat) (h:2 ^ s * d=n - 1) (h1:d%2=1)=>sd_unique (h.trans hsd.symm) h1 hdo);clear hsd hdo;obtain⟨X,hXX⟩:∃ X,n - 1=X:=⟨_,rfl⟩;rw[hXX]at HSD;have e1:(n:Int) - 1=(X:Int):=by omega
 have hX8:X<18446744073709551616:=by omega
 have hX0:0<X:=by omega
 have hwX:IntKind.u64.wrap (X:Int)=(X:Int):=u64_wrap X hX8;have HN1:=Hq hXX;have hn3:((n:Int)<3)=False:=eq_false (by omega);have hn2:(n:Int)%2=1:=by omega
 have hp0:((p:Int)==0)=false:=by rw[beq_eq_false_iff_ne];omega
 have HPW:=Hq (fun d (hd8:d<18446744073709551616)=>r04_ExpMod p d n (by omega) hd8 h8 (by omega));have HMU:=Hq (fun x (hx:x<n)=>r04_MulMod x x n hx hx h8);have HH8:=Hq h8;have hn0:0<n:=by omega
 clear hXX hodd hp hp2 h8;go_enter Tryz.func123,Tryz.ntmps123;go_wp2
 go_loop [5,6] (fun d s=>∃ d' s':Nat,d=.int .u64 d'∧s=.int .i64 s'∧2 ^ s' * d'=X∧s'<64∧0<d'∧d'≤X) (fun d _=>(intOf d).toNat)
 case atStart=>exact⟨X,0,rfl,rfl,by rw[Nat.pow_zero,Nat.one_mul],by omega,hX0,Nat.le_refl _⟩
 case round =>
  obtain⟨d,s,rfl,rfl,hds,hs64,hd0,hdX⟩:=hrel;have HDS:=Hq hds;clear hds;by_cases he:d%2=0
  · have hr:(d:Int)%2=0:=by omega
    have he2:((d:Int) / 2)=((d / 2:Nat):Int):=by omega
    obtain⟨H,hH⟩:∃ H,d / 2=H:=⟨_,rfl⟩;rw[hH]at he2;have hd2:d=2 * H:=by omega
    have hwH:IntKind.u64.wrap (H:Int)=(H:Int):=u64_wrap H (by omega);have HR:=Hq (show 2 ^ (s+1) * H=X from by rw[←HDS.out,hd2,Nat.pow_succ,Nat.mul_assoc]);have hs65:s+1<64:=by
     rcases Nat.lt_or_ge (s+1) 64 with a | a
     · exact a
     · exfalso;have b:2 ^ 64≤2 ^ (s+1):=Nat.pow_le_pow_right (by decide) a;have c:=Nat.le_mul_of_pos_right (2 ^ (s+1)) (show 0<H by omega);rw[HR.out]at c;omega
    clear hH hd2;have hH0:0<H:=by omega
    have hHX:H≤X:=by omega
    go_wp2;go_round;case rel=>exact⟨H,s+1,rfl,by go_num,HR.out,hs65,hH0,hHX⟩
    case measure=>simp[intOf]<;>omega
  · have hr:(d:Int)%2=1:=by omega
    obtain⟨rfl,rfl⟩:=HSD.out s d HDS.out (by omega);have HPX:=Hq (HPW.out d (by omega));clear he hdX hd0 hX0 hX8;go_wp2_with fail;refine(HPX.out _).mono ?_;rintro e w1 ⟨rfl,hb1⟩;have HB1:=Hq hb1;have hx0:p ^ d%n<n:=Nat.mod_lt _ hn0;obtain⟨x,hx⟩:∃ x,p ^ d%n=x:=⟨_,rfl⟩;rw[hx]at hx0⊢;have HX:=Hq hx;have HX0:=Hq hx0;clear hb1 hx hx0;by_cases hc1:x=1
    · have ht1:((x:Int)==1)=true:=by rw[hc1];rfl
      have HST:=Hq (strong_one (s:=s) (HX.out.trans hc1));clear hc1;go_wp2;go_ret;exact⟨by rw[HST.out];rfl,HB1.out⟩
    · have ht1:((x:Int)==1)=false:=by rw[beq_eq_false_iff_ne];omega
      have HC1:=Hq hc1;clear hc1;go_wp2;go_loopw [7,8] (fun x i wr=>∃(i' x':Nat),i'≤s∧i=.int .i64 i'∧x=.int .u64 x'∧x'=p ^ (d * 2 ^ i')%n∧(∀ j,j<i'→¬ (p ^ (d * 2 ^ j)%n=X))∧Below w.heap.size w wr) (fun _ i _=>s - (intOf i).toNat);case atStart=>exact⟨0,x,Nat.zero_le _,rfl,rfl,by rw[Nat.pow_zero,Nat.mul_one,HX.out],fun _ h=>absurd h (Nat.not_lt_zero _),HB1.out⟩
      case round =>
       obtain⟨i',x',hit,rfl,rfl,hx',hno,hB⟩:=hrel;have HX':=Hq hx';have HB:=Hq hB;have HNO:=Hq hno;clear hx' hB ht1 hno;by_cases his:i'<s
       · have hlti:((i':Int)<(s:Int))=True:=eq_true (by omega);by_cases hc:x'=X
         · have ht:((x':Int)==(X:Int))=true:=by rw[hc];exact beq_self_eq_true _
           have HST:=Hq (strong_at (n:=n) (a:=p) (d:=d) his (by rw[←HX'.out,hc,HN1.out]));clear hc;go_wp2;go_ret;exact⟨by rw[HST.out];rfl,HB.out⟩
         · have ht:((x':Int)==(X:Int))=false:=by rw[beq_eq_false_iff_ne];omega
           have HM1:=Hq (HMU.out x' (by rw[HX'.out];exact Nat.mod_lt _ hn0));have HR:=Hq (show x' * x'%n=p ^ (d * 2 ^ (i'+1))%n from by rw[HX'.out,sq_mod]);have HN2:=Hq (show ∀ j,j<i'+1→¬ (p ^ (d * 2 ^ j)%n=X)from fun j hj=>by
            rcases Nat.lt_or_ge j i' with a | a
            · exact HNO.out j a
            · obtain rfl:j=i':=by omega
              rw[←HX'.out];exact hc)
           clear hc;go_wp2_with fail;refine(HM1.out _).mono ?_;rintro e w4 ⟨rfl,hb4⟩;have HB4:=Hq (HB.out.trans (hb4.mono HB.out.size));clear hb4;go_wp2;go_roundw;case rel=>exact⟨i'+1,_,by omega,by go_num,rfl,HR.out,HN2.out,HB4.out⟩
           case measure=>simp[intOf];omega
       · have hlti:((i':Int)<(s:Int))=False:=eq_false (by omega);obtain rfl:i'=s:=by omega
         have HF:=Hq (show strongB n p i' d=false from strong_no (by rw[HX.out];exact HC1.out) (fun i hi=>by rw[HN1.out];exact HNO.out i hi));clear his;go_wp2;go_ret;exact⟨by rw[HF.out];rfl,HB.out⟩
def PrAt(w:World)(B:Nat):Prop:=w.heap[B]? =some (.cells bsV 80 (0,0))
theorem PrAt.next{W W':World}{B:Nat}(h:PrAt W B)(hb:Below W.heap.size W W'):PrAt W' B:=(hb.block B (block_lt h)).trans h
theorem PrAt.cell{W:World}{B j:Nat}(h:PrAt W B)(hj:j<12):W.cell? ⟨B,j,none⟩=some (.int .u64 (bsN j)):=by
 rw[Lib.cell_of_heap h];have e:j=0∨j=1∨j=2∨j=3∨j=4∨j=5∨j=6∨j=7∨j=8∨j=9∨j=10∨j=11:=by omega
 rcases e with rfl | rfl | rfl | rfl | rfl | rfl | rfl | rfl | rfl | rfl | rfl | rfl<;>rfl
theorem r04_IsU(n:Nat)(h8:n<18446744073709551616)(w:World):Calls Tryz.prog 100 #[.int .u64 n] w (Ret (.bool (isN n)) w):=by
 rcases Nat.lt_or_ge n 2 with a | a
 · rw[isN_lt a];have hi:(n:Int)<2:=by omega
   clear h8;go_enter Tryz.func100,Tryz.ntmps100;go_wp2;go_ret;exact⟨rfl,Below.refl _ _⟩
 · have hn2:((n:Int)<2)=False:=eq_false (by omega);have HPR:=Hq (show PrAt (w.alloc (.cells bsV 80)) w.heap.size from heap_alloc_new _ _);have HB0:=Hq ((Below.refl w.heap.size w).alloc nlr (.cells bsV 80));obtain⟨W0,hW0⟩:∃ W0,w.alloc (.cells bsV 80)=W0:=⟨_,rfl⟩;rw[hW0]at HPR HB0;unfold bsV at hW0;have HA:=Hq a;rcases isN_cases a with⟨t,ht,hd,hno,e⟩ | ⟨hno,e⟩
   · rw[e];have HD:=Hq hd;have HNO:=Hq hno;have H8:=Hq h8;clear a e hd hno h8;go_enter Tryz.func100,Tryz.ntmps100;go_wp2;try rw[hW0]
     clear hW0
     go_loop [4] (fun k=>∃ j:Nat,j≤t∧k=.int .i64 j) (fun k=>t - (intOf k).toNat)
     case atStart=>exact⟨0,Nat.zero_le _,rfl⟩
     case round =>
      obtain⟨j,hj,rfl⟩:=hrel;have hlt:((j:Int)<12)=True:=eq_true (by omega);have hj12:j<12:=by omega
      have c0:=HPR.out.cell hj12;have hp:=bs_pos hj12;obtain⟨p,hp'⟩:∃ p,bsN j=p:=⟨_,rfl⟩;obtain⟨r,hr⟩:∃ r,n%p=r:=⟨_,rfl⟩;have hrr:(n:Int)%(p:Int)=(r:Int):=by rw[←hr];rfl
      have hr8:r<18446744073709551616:=by rw[←hr];exact Nat.lt_of_le_of_lt (Nat.mod_le _ _) H8.out
      have hwx:IntKind.u64.wrap (r:Int)=(r:Int):=u64_wrap r hr8;have hp0:¬ (p=0):=by omega
      rw[hp']at c0;by_cases hji:j<t
      · have hne:r≠0:=(by have:=HNO.out j hji;rw[hp',hr]at this;exact this);have hr0:((r:Int)==0)=false:=by rw[beq_eq_false_iff_ne];omega
        have hnp:((n:Int)==(p:Int))=false:=by
         rw[beq_eq_false_iff_ne];intro h;have h':n=p:=by omega
         rw[h',Nat.mod_self]at hr;omega
        clear hp' hr hr8 hp hne;go_wp2;go_round;case rel=>exact⟨j+1,by omega,by go_num⟩
        case measure=>simp[intOf];omega
      · obtain rfl:j=t:=by omega
        have hz:r=0:=(by have:=HD.out;rw[hp',hr]at this;exact this);have hr0:((r:Int)==0)=true:=by rw[hz];rfl
        rw[hp'];by_cases hnp:n=p
        · have hnp':((n:Int)==(p:Int))=true:=by rw[hnp];exact beq_self_eq_true _
          rw[decide_eq_true hnp];clear hp' hr hr8 hp hz hnp hji;go_wp2;go_ret;exact⟨rfl,HB0.out⟩
        · have hnp':((n:Int)==(p:Int))=false:=by rw[beq_eq_false_iff_ne];omega
          rw[decide_eq_false hnp];clear hp' hr hr8 hp hz hnp hji;go_wp2;go_ret;exact⟨rfl,HB0.out⟩
   · rw[e];have h38:=big_of a hno;have hodd:n%2=1:=by have:=hno 0 (by omega);rw[show bsN 0=2 from rfl]at this;omega
     have HNO:=Hq hno;have HST:=Hq (fun p (h1:2≤p) (h2:p≤37)=>r04_StrongU n p h38 hodd h1 h2 h8);have hAN:=Hq (fun j hj=>allB_no (n:=n) (j:=j) hj);have hAY:=Hq (allB_yes (n:=n));have H8:=Hq h8;obtain⟨S,hS⟩:∃ s,sN n=s:=⟨_,rfl⟩;obtain⟨D,hD⟩:∃ d,dN n=d:=⟨_,rfl⟩;rw[hS,hD]at HST hAN hAY;clear a e hno h8 hodd hS hD;go_enter Tryz.func100,Tryz.ntmps100;go_wp2;try rw[hW0]
     clear hW0
     go_loop [4] (fun k=>∃ j:Nat,j≤12∧k=.int .i64 j) (fun k=>12 - (intOf k).toNat)
     case atStart=>exact⟨0,Nat.zero_le _,rfl⟩
     case round =>
      obtain⟨j,hj,rfl⟩:=hrel;by_cases hj12:j<12
      · have hlt:((j:Int)<12)=True:=eq_true (by omega);have c0:=HPR.out.cell hj12;have hp:=bs_pos hj12;obtain⟨p,hp'⟩:∃ p,bsN j=p:=⟨_,rfl⟩;obtain⟨r,hr⟩:∃ r,n%p=r:=⟨_,rfl⟩;have hrr:(n:Int)%(p:Int)=(r:Int):=by rw[←hr];rfl
        have hr8:r<18446744073709551616:=by rw[←hr];exact Nat.lt_of_le_of_lt (Nat.mod_le _ _) H8.out
        have hwx:IntKind.u64.wrap (r:Int)=(r:Int):=u64_wrap r hr8;have hp0:¬ (p=0):=by omega
        rw[hp']at c0;have hne:r≠0:=by
         have:=HNO.out j hj12;rw[hp',hr]at this;exact this
        have hr0:((r:Int)==0)=false:=by rw[beq_eq_false_iff_ne];omega
        have hnp:((n:Int)==(p:Int))=false:=by rw[beq_eq_false_iff_ne];rw[hp']at hp;omega
        clear hp' hr hr8 hp hne;go_wp2;go_round;case rel=>exact⟨j+1,by omega,by go_num⟩
        case measure=>simp[intOf];omega
      · obtain rfl:j=12:=by omega
        clear hj12 hj;go_wp2;go_loopw [5] (fun k wr=>∃ j:Nat,j≤12∧k=.int .i64 j∧(∀ i,i<j→strongB n (bsN i) S D=true)∧PrAt wr w.heap.size∧Below w.heap.size w wr) (fun k _=>12 - (intOf k).toNat);case atStart=>exact⟨0,Nat.zero_le _,rfl,fun _ h=>absurd h (Nat.not_lt_zero _),HPR.out,HB0.out⟩
        case round =>
         obtain⟨j,hj,rfl,hall,hpr,hB⟩:=hrel;have HALL:=Hq hall;have HB:=Hq hB;have HP:=Hq hpr;clear hall hB hpr;by_cases hj12:j<12
         · have hlt:((j:Int)<12)=True:=eq_true (by omega);have c0:=HP.out.cell hj12;have hp:=bs_pos hj12;have HSP:=Hq (HST.out (bsN j) hp.1 hp.2);have HNP:=Hq (hAN.out j hj12)
           have hnx:=Hq (fun(hst:strongB n (bsN j) S D=true) i (hi:i<j+1)=>show strongB n (bsN i) S D=true from by
               rcases Nat.lt_or_ge i j with a | a
               · exact HALL.out i a
               · obtain rfl:i=j:=by omega
                 exact hst)
           obtain⟨p,hp'⟩:∃ p,bsN j=p:=⟨_,rfl⟩;rw[hp']at c0 HSP HNP hnx;clear hp' hp;go_wp2_with fail;refine(HSP.out _).mono ?_;rintro e w1 ⟨rfl,hb1⟩;have HB1:=Hq (HB.out.trans (hb1.mono HB.out.size));have HP1:=Hq (HP.out.next hb1);clear hb1
           cases hst:strongB n p S D with
           | true =>
               have HN2:=Hq (hnx.out hst);clear hst;go_wp2;go_roundw;case rel=>exact⟨j+1,by omega,by go_num,HN2.out,HP1.out,HB1.out⟩
               case measure=>simp[intOf];omega
           | false =>
               have HF:=Hq (HNP.out hst);clear hst;go_wp2;go_ret;exact⟨by rw[HF.out];rfl,HB1.out⟩
         · obtain rfl:j=12:=by omega
           have HF:=Hq (hAY.out HALL.out);clear hj12 hj;go_wp2;go_ret;exact⟨by rw[HF.out];rfl,HB.out⟩
set_option maxRecDepth 100000
theorem r04_Is_n(n:Nat)(h8:n<18446744073709551616)(w:World):Calls Tryz.prog 60 #[.string (nS n)] w (Ret (.tuple #[.bool (isN n),.int .i64 0]) w):=by
 have hz:=nS_small_size h8;have HF:=Hq (r04_Formed (nS n) (by omega));rw[nS_valid_small h8]at HF;have HU:=Hq (r04_U (nS n) hz);rw[num_nS]at HU;have HI:=Hq (r04_IsU n h8);obtain⟨s,hs⟩:∃ s,nS n=s:=⟨_,rfl⟩;rw[hs]at HF HU⊢;clear hs h8 hz;go_enter Tryz.func60,Tryz.ntmps60;go_wp2_with fail;refine(HF.out _).mono ?_;rintro e w1 ⟨rfl,rfl⟩;go_wp2_with fail;refine(HU.out _).mono ?_;rintro e w1 ⟨rfl,rfl⟩;go_wp2_with fail;refine(HI.out _).mono ?_;rintro e w1 ⟨rfl,hb1⟩;have HB1:=Hq hb1;clear hb1;go_wp2;go_ret2;exact⟨rfl,HB1.out⟩
end Go.Proofs.YtdhnkmbjogmmkaaGreatDoor
