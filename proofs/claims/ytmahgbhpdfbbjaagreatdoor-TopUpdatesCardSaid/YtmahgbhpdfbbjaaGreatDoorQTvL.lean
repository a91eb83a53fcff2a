import Derived.Test.YtmahgbhpdfbbjaaGreatDoorQTvG
set_option linter.unusedVariables false
set_option linter.unusedSimpArgs false
namespace Go.Proofs.YtmahgbhpdfbbjaaGreatDoor
set_option maxRecDepth 100000
open Go.RowKit Go.Lib
theorem mod_reducedA(x m:Nat)(hx8:x<256 ^ 128)(hm:m<256 ^ 128)(h0:0<m)(w:World):Calls Tryz.prog 80 #[.string (nS x),.string (nS m)] w (Ret (.string (nS (x%m))) w):=by
 have HD:=Hq (nat_DivModA x m hx8 hm h0);obtain⟨s,hs⟩:=nm (nS x);obtain⟨t,ht⟩:=nm (nS m);rw[hs,ht]at HD;rw[hs,ht];clear hs ht hm hx8;go_enter Tryz.func80,Tryz.ntmps80;go_wp2_with fail;refine(HD.out _).mono ?_;rintro e w1 ⟨rfl,hb⟩;have HB:=Hq hb;clear hb;go_wp2;go_ret;exact⟨rfl,HB.out⟩
set_option maxRecDepth 100000
set_option maxHeartbeats 8000000
open Go.RowKit
theorem mod_low_core(s:ByteArray)(k d:Nat)(hk:k+1=s.size)(h:k<s.size)(hb:(s[k]).toNat=d)(hsz:s.size≤9223372036854775807)(w:World):Calls Tryz.prog 106 #[.string s] w (RetQ (.int .i64 ((d%8:Nat):Int)) w):=by
 have hix:((s.size:Int) - 1)=(k:Int):=by omega
 have hne:s.toList.isEmpty=false:=sempty_false (by omega);have HB:=Hq hb;have HK:=Hq hk;clear hb hk;go_enter Tryz.func106,Tryz.ntmps106;go_wp2;go_ret;exact⟨ret_int (by rw[HB.out];omega),rfl⟩
theorem mod_low(n:Nat)(hn:n<256 ^ 128)(w:World):Calls Tryz.prog 106 #[.string (nS n)] w (RetQ (.int .i64 ((n%8:Nat):Int)) w):=by
 rcases Nat.eq_zero_or_pos n with e | e
 · subst e;rw[nS_zero];go_enter Tryz.func106,Tryz.ntmps106;go_wp2;go_ret;exact⟨rfl,rfl⟩
 · have hs:=nS_size_le.2 hn;have h0:0<(nS n).size:=by have:=nS_size_zero (n:=n);omega
   have h:=mod_low_core (nS n) ((nS n).size - 1) (dig n 0) (by omega) (by omega) (nS_byte n 0 _ (by omega) (by omega)) (by omega) w;rw[show dig n 0%8=n%8 from by unfold dig;rw[Nat.pow_zero,Nat.div_one];omega]at h;exact h
def nmV:Value→Nat
 | .string s=>num s
 | _=>0
def RetII(w:World)(e:Ending)(w':World):Prop:=∃ j z:Int,e=.returned (.tuple #[.int .i64 j,.int .i64 z])∧Below w.heap.size w w'
theorem odd_b{n:Nat}(h:¬ n%2=0):(((n%8:Nat):Int)%2==0)=false:=by rw[beq_eq_false_iff_ne];omega
theorem mod_Jacobi(a n:Nat)(ha:a<256 ^ 128)(hn:n<256 ^ 128)(hodd:n%2=1)(w:World):Calls Tryz.prog 66 #[.string (nS a),.string (nS n)] w (RetII w):=by
 have HCK:=Hq (check_one w (nS a) (nS n) w.heap.size rfl (nvalid_nS.2 ha) (nvalid_nS.2 hn) (empty_nS (by omega)) (w.heap.size+1) rfl);have HL1:=Hq (mod_low n hn);have hb:=odd_b (n:=n) (by omega);obtain⟨r,hr⟩:=nm (n%8);rw[hr]at HL1 hb;have hb2:((r:Int).tmod 2==0)=false:=by rw[Int.tmod_eq_emod_of_nonneg (by omega)];exact hb
 have HRD:=Hq (fun w=>mod_reducedA a n ha hn (by omega) w);have HA:=Hq ha;have HN:=Hq hn;have HM:=Hq (show a%n<256 ^ 128 from Nat.lt_of_le_of_lt (Nat.mod_le _ _) ha);obtain⟨m,hm⟩:=nm (a%n);rw[hm]at HRD HM;obtain⟨sa,hsa⟩:=nm (nS a);obtain⟨sn,hsn⟩:=nm (nS n);obtain⟨sm,hsm⟩:=nm (nS m);rw[hsa,hsn]at HCK HRD;rw[hsm]at HRD;rw[hsn]at HL1;rw[hsa,hsn];have HSN:=Hq hsn;have HSM:=Hq hsm;clear ha hn hodd hr hm hsa hsn hsm;go_enter Tryz.func66,Tryz.ntmps66;go_wp2_with fail;refine(show Calls _ _ _ _ _ from HCK.out).mono ?_;rintro e w1 ⟨rfl,hb⟩;have HB1:=Hq (show Below w.heap.size w w1 from(((Below.refl w.heap.size w).alloc nlr _).alloc (by simp) _).trans hb);clear hb;go_wp2_with fail;refine(show Calls _ _ _ _ _ from HL1.out _).mono ?_;rintro e w2 ⟨rfl,rfl⟩;go_wp2_with fail;refine(show Calls _ _ _ _ _ from HRD.out _).mono ?_;rintro e w3 ⟨rfl,hb⟩;have HB3:=Hq (show Below w.heap.size w w3 from HB1.out.trans (hb.mono HB1.out.size));clear hb hb2;go_wp2;go_loopw [0,1,7] (fun va vn vs wr=>∃(A N:Nat) (j:Int),va=.string (nS A)∧vn=.string (nS N)∧vs=.int .i64 j∧(A<256 ^ 128∧N<256 ^ 128)∧Below w.heap.size w wr) (fun va _ _ _=>nmV va);case atStart=>exact⟨m,n,1,by rw[HSM.out],by rw[HSN.out],rfl,⟨HM.out,HN.out⟩,HB3.out⟩
 case round =>
  obtain⟨A,N,j,rfl,rfl,rfl,⟨hA,hN⟩,hbr⟩:=hrel;have HA1:=Hq hA;have HN1:=Hq hN;have HBR:=Hq hbr;have HLN:=Hq (mod_low N hN);clear hA hN hbr;rcases Nat.eq_zero_or_pos A with hz | hz
  · subst hz;rw[nS_zero];go_wp2<;>(go_ret2;exact⟨_,_,rfl,HBR.out⟩)
  · have hem:=empty_nS hz;have HZ:=Hq hz;clear hz;go_wp2;go_loopw [0,7] (fun va vs wx=>∃(B:Nat) (i:Int),va=.string (nS B)∧vs=.int .i64 i∧(0<B∧B≤A)∧Below w.heap.size w wx) (fun va _ _=>nmV va);case atStart=>exact⟨A,j,rfl,rfl,⟨HZ.out,Nat.le_refl _⟩,HBR.out⟩
    case round =>
     obtain⟨B,i,rfl,rfl,⟨hB0,hBA⟩,hbx⟩:=hrel;have HB0:=Hq hB0;have HBA:=Hq hBA;have HB9:=Hq (show B<256 ^ 128 from Nat.lt_of_le_of_lt hBA HA1.out);have HBX:=Hq hbx;have HLB:=Hq (mod_low B HB9.out);clear hB0 hBA hbx;obtain⟨p,hpp⟩:=nm (B%8);rw[hpp]at HLB;have HPP:=Hq hpp;clear hpp;go_wp2_with fail;refine(show Calls _ _ _ _ _ from HLB.out _).mono ?_;rintro e w5 ⟨rfl,rfl⟩;by_cases he:p%2=0
     · have hp:((p:Int)%2==0)=true:=by rw[beq_iff_eq];omega
       have hp2:((p:Int).tmod 2==0)=true:=by rw[Int.tmod_eq_emod_of_nonneg (by omega)];exact hp
       have HDV:=Hq (nat_DivModA B 2 HB9.out (by decide) (by decide));rw[show nS 2=(⟨#[2]⟩:ByteArray)from rfl]at HDV;have HHB:=Hq (show 0<B / 2∧B / 2≤A∧B / 2<B from by have:=HB0.out;have:=HBA.out;have:=HPP.out;omega);go_wp2_with fail;refine(show Calls _ _ _ _ _ from HDV.out _).mono ?_;rintro e w6 ⟨rfl,hb⟩;have HB6:=Hq (show Below w.heap.size w w6 from HBX.out.trans (hb.mono HBX.out.size));clear hb hp hp2 he;go_wp2_with fail;refine(show Calls _ _ _ _ _ from HLN.out _).mono ?_;rintro e w7 ⟨rfl,rfl⟩;obtain⟨q,hq⟩:=nm (N%8);rw[hq];clear hq;by_cases h3:q=3
       · subst h3;go_wp2;go_roundw;case rel=>exact⟨B / 2,_,rfl,rfl,⟨HHB.out.1,HHB.out.2.1⟩,HB6.out⟩
         case measure=>simp only[nmV,num_nS];exact HHB.out.2.2
       · by_cases h5:q=5
         · subst h5;go_wp2;go_roundw;case rel=>exact⟨B / 2,_,rfl,rfl,⟨HHB.out.1,HHB.out.2.1⟩,HB6.out⟩
           case measure=>simp only[nmV,num_nS];exact HHB.out.2.2
         · have e3:((q:Int)==3)=false:=by rw[beq_eq_false_iff_ne];omega
           have e5:((q:Int)==5)=false:=by rw[beq_eq_false_iff_ne];omega
           clear h3 h5;go_wp2;go_roundw;case rel=>exact⟨B / 2,_,rfl,rfl,⟨HHB.out.1,HHB.out.2.1⟩,HB6.out⟩
           case measure=>simp only[nmV,num_nS];exact HHB.out.2.2
     · have hp:((p:Int)%2==0)=false:=by rw[beq_eq_false_iff_ne];omega
       have hp2:((p:Int).tmod 2==0)=false:=by rw[Int.tmod_eq_emod_of_nonneg (by omega)];exact hp
       have HRN:=Hq (fun w=>mod_reducedA N B HN1.out HB9.out HB0.out w);have HLT:=Hq (show N%B<A from Nat.lt_of_lt_of_le (Nat.mod_lt _ HB0.out) HBA.out);have HLU:=Hq (show N%B<256 ^ 128 from Nat.lt_of_le_of_lt (Nat.mod_le _ _) HN1.out);clear he;go_wp2_with fail;refine(show Calls _ _ _ _ _ from HLB.out _).mono ?_;rintro e w6 ⟨rfl,rfl⟩;clear hp hp2;by_cases h4:p%4=3
       · have e4:((p:Int)%4==3)=true:=by rw[beq_iff_eq];omega
         have e5:((p:Int).tmod 4==3)=true:=by rw[Int.tmod_eq_emod_of_nonneg (by omega)];exact e4
         clear h4;go_wp2_with fail;refine(show Calls _ _ _ _ _ from HLN.out _).mono ?_;rintro e w7 ⟨rfl,rfl⟩;obtain⟨q,hq⟩:=nm (N%8);rw[hq];clear hq e4 e5;by_cases h4:q%4=3
         · have e4:((q:Int)%4==3)=true:=by rw[beq_iff_eq];omega
           have e5:((q:Int).tmod 4==3)=true:=by rw[Int.tmod_eq_emod_of_nonneg (by omega)];exact e4
           clear h4;go_wp2_with fail;refine(show Calls _ _ _ _ _ from HRN.out _).mono ?_;rintro e w8 ⟨rfl,hb⟩;have HB8:=Hq (show Below w.heap.size w w8 from HBX.out.trans (hb.mono HBX.out.size));clear hb;go_wp2;go_roundw;case rel=>exact⟨N%B,B,_,rfl,rfl,rfl,⟨HLU.out,HB9.out⟩,HB8.out⟩
           case measure=>simp only[nmV,num_nS];exact HLT.out
         · have e4:((q:Int)%4==3)=false:=by rw[beq_eq_false_iff_ne];omega
           have e5:((q:Int).tmod 4==3)=false:=by rw[Int.tmod_eq_emod_of_nonneg (by omega)];exact e4
           clear h4;go_wp2_with fail;refine(show Calls _ _ _ _ _ from HRN.out _).mono ?_;rintro e w8 ⟨rfl,hb⟩;have HB8:=Hq (show Below w.heap.size w w8 from HBX.out.trans (hb.mono HBX.out.size));clear hb;go_wp2;go_roundw;case rel=>exact⟨N%B,B,_,rfl,rfl,rfl,⟨HLU.out,HB9.out⟩,HB8.out⟩
           case measure=>simp only[nmV,num_nS];exact HLT.out
       · have e4:((p:Int)%4==3)=false:=by rw[beq_eq_false_iff_ne];omega
         have e5:((p:Int).tmod 4==3)=false:=by rw[Int.tmod_eq_emod_of_nonneg (by omega)];exact e4
         clear h4;go_wp2_with fail;refine(show Calls _ _ _ _ _ from HRN.out _).mono ?_;rintro e w8 ⟨rfl,hb⟩;have HB8:=Hq (show Below w.heap.size w w8 from HBX.out.trans (hb.mono HBX.out.size));clear hb;go_wp2;go_roundw;case rel=>exact⟨N%B,B,_,rfl,rfl,rfl,⟨HLU.out,HB9.out⟩,HB8.out⟩
         case measure=>simp only[nmV,num_nS];exact HLT.out
set_option maxRecDepth 100000
set_option maxHeartbeats 2000000
def RetB1(w:World)(e:Ending)(w':World):Prop:=∃ b:Bool,e=.returned (.bool b)∧Below w.heap.size w w'
def RetBZP(P:Prop)(w:World)(e:Ending)(w':World):Prop:=∃(b:Bool) (z:Int),e=.returned (.tuple #[.bool b,.int .i64 z])∧(z=0→P)∧Below w.heap.size w w'
theorem rsa_square(p q a:Nat)(hp:p<256 ^ 128)(hq:q<256 ^ 128)(ha:a<256 ^ 128)(h2p:p%2=1)(h2q:q%2=1)(w:World):Calls Tryz.prog 34 #[.agg #[.string (nS p),.string (nS q)],.string (nS a)] w (RetB1 w):=by
 have HJ1:=Hq (mod_Jacobi a p ha hp h2p);have HJ2:=Hq (mod_Jacobi a q ha hq h2q);obtain⟨P,hP⟩:=nm (nS p);obtain⟨Q,hQ⟩:=nm (nS q);obtain⟨A,hA⟩:=nm (nS a);rw[hP,hA]at HJ1;rw[hQ,hA]at HJ2;rw[hP,hQ,hA];clear hP hQ hA hp hq ha h2p h2q;have hx0:=Bx2.new w (.string P) (.string Q) 29;have hb0:Below w.heap.size w (w.alloc (.cells #[.string P,.string Q] 29)):=(blr).alloc nlr _;obtain⟨W0,hW0⟩:=nm (w.alloc (.cells #[.string P,.string Q] 29));rw[hW0]at hx0 hb0;have HB0:=Hq hb0;have c0:=hx0.c0;have c1:=hx0.c1;clear hx0 hb0;go_enter Tryz.func34,Tryz.ntmps34;go_wp2_with fail;try rw[hW0]
 clear hW0;refine(rsa_primes P Q W0).mono ?_;rintro e w1 ⟨rfl,hb⟩;have HB1:=bTr HB0 hb;clear hb c0 c1;have x0:∀ w:World,(Instr.index 125 (.agg #[.string P,.string Q]) (.int .i64 0)).run Tryz.prog w=.ok (.string P) w:=fun _=>by kernel_rfl
 have x1:∀ w:World,(Instr.index 125 (.agg #[.string P,.string Q]) (.int .i64 1)).run Tryz.prog w=.ok (.string Q) w:=fun _=>by kernel_rfl
 go_wp2;go_loopw [11] (fun i wr=>∃ k:Nat,k≤2∧i=.int .i64 k∧Below w.heap.size w wr) (fun i _=>2 - (RowKit.intOf i).toNat);case atStart=>exact⟨0,by omega,rfl,HB1.out⟩
 case round =>
  obtain⟨k,hk,rfl,hbb⟩:=hrel;have HBB:=Hq hbb;clear hbb;rcases(show k=0∨k=1∨k=2 from by omega)with rfl | rfl | rfl
  · go_wp2_with fail;refine(show Calls _ _ _ _ _ from HJ1.out _).mono ?_;rintro e w5 ⟨j,z,rfl,hb⟩;have HB5:=bTr HBB hb;clear hb;by_cases hz:j=1
    · subst hz;go_wp2;go_roundw;case rel=>exact⟨1,by omega,by go_num,HB5.out⟩
      case measure=>simp[RowKit.intOf]
    · have hzb:(j != 1)=true:=by rw[bne_iff_ne];exact hz
      clear hz;go_wp2;go_ret;exact⟨false,rfl,HB5.out⟩
  · go_wp2_with fail;refine(show Calls _ _ _ _ _ from HJ2.out _).mono ?_;rintro e w5 ⟨j,z,rfl,hb⟩;have HB5:=bTr HBB hb;clear hb;by_cases hz:j=1
    · subst hz;go_wp2;go_roundw;case rel=>exact⟨2,by omega,by go_num,HB5.out⟩
      case measure=>simp[RowKit.intOf]
    · have hzb:(j != 1)=true:=by rw[bne_iff_ne];exact hz
      clear hz;go_wp2;go_ret;exact⟨false,rfl,HB5.out⟩
  · go_wp2;go_ret;exact⟨true,rfl,HBB.out⟩
theorem rsa_IsSquare(M O P Q x:ByteArray)(hM:M.size≤8)(hO:O.size≤8)(hP:P.size≤8)(hQ:Q.size≤8)(hx:x.size≤1000)(w:World)(ht:TabAt w):Calls Tryz.prog 15 #[gV M O,.agg #[.string P,.string Q],.string x] w (RetBZP (EltP M O x) w):=by
 have HEL:=Hq (fun W ht=>rsa_element M O P Q x hM hO hP hQ hx W ht);have HT:=Hq ht;have hbb:Below w.heap.size w ((w.alloc (.cells #[.string M,.string O] 24)).alloc (.cells #[.string P,.string Q] 29)):=((blr).alloc nlr _).alloc (by simp) _;have hxg:=(Bx2.new w (.string M) (.string O) 24).next ((blr).alloc nlr (.cells #[.string P,.string Q] 29));have hxt:=Bx2.new (w.alloc (.cells #[.string M,.string O] 24)) (.string P) (.string Q) 29;rw[World.size_alloc]at hxt;obtain⟨W0,hW0⟩:=nm ((w.alloc (.cells #[.string M,.string O] 24)).alloc (.cells #[.string P,.string Q] 29));rw[hW0]at hbb hxg hxt;have HXT0:=Hq hxt;have HB0:=Hq hbb;have HE0:=Hq (HEL.out W0 (ht.kept hbb nlr));have g0:=hxg.c0;have g1:=hxg.c1;have t0:=hxt.c0;have t1:=hxt.c1;clear hbb hxg hxt ht hM hO hP hQ hx;unfold gV at HE0 HEL⊢;go_enter Tryz.func15,Tryz.ntmps15;go_wp2_with fail;try rw[hW0]
 clear hW0;refine(show Calls _ _ _ _ _ from HE0.out).mono ?_;rintro e w1 ⟨z,rfl,hz,hb⟩;have HXT1:=Hq (HXT0.out.next hb);have HB1:=bTr HB0 hb;clear hb g0 g1 t0 t1;have t0:=HXT1.out.c0;have t1:=HXT1.out.c1;by_cases hz0:z=0
 · obtain⟨hel,⟨vP,p1⟩,vQ,q1⟩:=hz hz0;subst hz0;have HEE:=Hq hel;have HSQ:=Hq (fun w=>show Calls Tryz.prog 34 #[.agg #[.string P,.string Q],.string x] w (RetB1 w)from by
    have:=rsa_square (num P) (num Q) (num x) (nvalid_lt vP) (nvalid_lt vQ) (nvalid_lt hel.1) p1 q1 w
    rwa[←nS_num vP,←nS_num vQ,←nS_num hel.1]at this)
   clear hz hel vP p1 vQ q1;go_wp2_with fail;refine(show Calls _ _ _ _ _ from HSQ.out _).mono ?_;rintro e w2 ⟨b,rfl,hb⟩;have HB2:=bTr HB1 hb;clear hb t0 t1;go_wp2;go_ret2;exact⟨_,0,rfl,fun _=>HEE.out,HB2.out⟩
 · have hzb:(z==0)=false:=by rw[beq_eq_false_iff_ne];exact hz0
   have HZ:=Hq hz0;clear hz hz0;go_wp2;go_ret2;exact⟨_,z,rfl,(fun h=>absurd h HZ.out),HB1.out⟩
set_option maxRecDepth 100000
set_option maxHeartbeats 4000000
def shoB(most:Nat)(l:List ByteArray):Bool:=l.all (fun s=>decide (s.size≤most))
theorem t30_short(most:Nat)(l:List ByteArray)(A:Option Addr)(len cap:Nat)(w:World)(hs:SlN w A len cap l)(hz:SzL l)(hm:most≤100):Calls Tryz.prog 28 #[.int .i64 most,.slice A len cap] w (Ret (.bool (shoB most l)) w):=by
 have HS:=Hq hs;have HZ:=Hq hz;have HLEN:=Hq hs.1;have hcap:=hs.2.1;have hcap2:=hs.2.2.1;clear hs hz;go_enter Tryz.func28,Tryz.ntmps28;go_wp2
 go_loop [5] (fun i=>∃(j:Nat),j≤len∧i=.int .i64 j∧∀ s∈l.take j,s.size≤most) (fun i=>len - (RowKit.intOf i).toNat)
 case atStart=>exact⟨0,Nat.zero_le _,rfl,by simp⟩
 case round =>
  obtain⟨j,hj,rfl,hall⟩:=hrel;have HALL:=Hq hall;clear hall;by_cases hlt:j<len
  · obtain⟨s,he⟩:∃ s,l[j]? =some s:=⟨_,List.getElem?_eq_getElem (by rw[HLEN.out];exact hlt)⟩;obtain⟨b,o,rfl,e1⟩:=HS.out.cell he;have hsz:=HZ.out s (List.mem_of_getElem? he);have HE:=Hq he;clear he;by_cases hss:s.size≤most
    · have HA2:=Hq (show ∀ u∈l.take (j+1),u.size≤most from fun u hu=>by
       rw[List.take_add_one,HE.out,Option.toList_some,List.mem_append,List.mem_singleton]at hu;rcases hu with hu | rfl
       · exact HALL.out u hu
       · exact hss)
      go_wp2;go_round;case rel=>exact⟨j+1,by omega,by go_num,HA2.out⟩
      case measure=>simp[RowKit.intOf];omega
    · have HF:=Hq (show shoB most l=false from by
       unfold shoB;rw[List.all_eq_false]
       exact⟨s,List.mem_of_getElem? HE.out,by simpa using hss⟩)
      go_wp2;go_ret;exact⟨by rw[HF.out];rfl,Below.refl _ _⟩
  · obtain rfl:j=len:=by omega
    have HF:=Hq (show shoB most l=true from by
     unfold shoB;rw[List.all_eq_true];intro s hs;rw[←HLEN.out,List.take_length]at HALL
     exact decide_eq_true (HALL.out s hs))
    clear hlt hj;go_wp2;go_ret;exact⟨by rw[HF.out];rfl,Below.refl _ _⟩
def RetY(P:Prop)(w:World)(e:Ending)(w':World):Prop:=∃ b:Bool,(b=true→P)∧e=.returned (.bool b)∧Below w.heap.size w w'
theorem t30_FewKey(N M O Z S:ByteArray)(RA:Option Addr)(rn rc:Nat)(U H:ByteArray)(rl:List ByteArray)(w:World)(h:SlN w RA rn rc rl)(hz:SzL rl)(hk:SzL [N,M,O,Z,S,U,H]) :
 Calls Tryz.prog 13 #[.agg (ikC N M O Z S RA rn rc U H)] w (RetY (M.size≤8∧O.size≤8∧U.size≤9) w):=by
 obtain⟨W0,hW0⟩:=nm (w.alloc (.cells #[.string N,.string M,.string O,.string Z,.string S,.slice RA rn rc,.string U,.string H] 27));have HB0:=Hq (show Below w.heap.size w W0 from by rw[←hW0];exact(blr).alloc nlr _);have HX:=Hq (show BxC W0 w.heap.size #[.string N,.string M,.string O,.string Z,.string S,.slice RA rn rc,.string U,.string H] 27 from by rw[←hW0];exact BxC.new w _ _);have HZ:=Hq hk;have hcap:=h.2.1;have hcap2:=h.2.2.1;have hzn:N.size≤9223372036854775807:=hk _ (by simp);have x1:W0.cell? ⟨w.heap.size,1,none⟩=some (.string M):=HX.out.cell 1;have x2:W0.cell? ⟨w.heap.size,2,none⟩=some (.string O):=HX.out.cell 2;have HC:=Hq (fun(W:World) (hb:Below w.heap.size w W)=>t30_short 9 rl RA rn rc W (h.kept hb nlr) hz (by omega));unfold ikC;clear h hz hk;go_enter Tryz.func13,Tryz.ntmps13;go_wp2_with fail;try rw[hW0]
 clear hW0;refine(t30_short 8 [M,O] _ 2 2 _ (SlN.new W0 [M,O] 22 (by simp)) (fun s hs=>HZ.out s (by simp at hs⊢;rcases hs with rfl | rfl<;>simp)) (by omega)).mono ?_;rintro e w1 ⟨rfl,hb1⟩;have hb1':=((Below.refl W0.heap.size W0).alloc nlr (.cells #[.string M,.string O] 22)).trans (hb1.mono (by simp));have HX1:=Hq (HX.out.next hb1');have HB1:=Hq (HB0.out.trans (hb1'.mono HB0.out.size));clear hb1 hb1' x1 x2
 cases r1:shoB 8 [M,O]with
 | false =>
  clear r1;go_wp2;go_ret;exact⟨false,(fun h=>by cases h),rfl,HB1.out⟩
 | true =>
  have y2:w1.cell? ⟨w.heap.size,3,none⟩=some (.string Z):=HX1.out.cell 3;have y3:w1.cell? ⟨w.heap.size,4,none⟩=some (.string S):=HX1.out.cell 4;have y5:w1.cell? ⟨w.heap.size,6,none⟩=some (.string U):=HX1.out.cell 6;have y6:w1.cell? ⟨w.heap.size,7,none⟩=some (.string H):=HX1.out.cell 7;have R1:=Hq (show M.size≤8∧O.size≤8 from by simpa[shoB]using r1);clear r1;go_wp2_with fail;refine(t30_short 9 [Z,S,U,H] _ 4 4 _ (SlN.new w1 [Z,S,U,H] 22 (by simp)) (fun s hs=>HZ.out s (by simp at hs⊢;rcases hs with rfl | rfl | rfl | rfl<;>simp)) (by omega)).mono ?_;rintro e w2 ⟨rfl,hb2⟩;have hb2':=((Below.refl w1.heap.size w1).alloc nlr (.cells #[.string Z,.string S,.string U,.string H] 22)).trans (hb2.mono (by simp));have HX2:=Hq (HX1.out.next hb2');have HB2:=Hq (HB1.out.trans (hb2'.mono HB1.out.size));clear hb2 hb2' y2 y3 y5 y6;have z4:w2.cell? ⟨w.heap.size,5,none⟩=some (.slice RA rn rc):=HX2.out.cell 5;have z0:w2.cell? ⟨w.heap.size,0,none⟩=some (.string N):=HX2.out.cell 0
  cases r2:shoB 9 [Z,S,U,H]with
  | false =>
   clear r2;go_wp2;go_ret;exact⟨false,(fun h=>by cases h),rfl,HB2.out⟩
  | true =>
   have R2:=Hq (show U.size≤9 from by simp[shoB]at r2;exact r2.2.2.1);clear r2;by_cases h3:rn≤6
   · go_wp2_with fail;refine(HC.out w2 HB2.out).mono ?_;rintro e w3 ⟨rfl,hb3⟩;have HX3:=Hq (HX2.out.next hb3);have HB3:=bTr HB2 hb3;clear hb3 z4 z0;have z0:w3.cell? ⟨w.heap.size,0,none⟩=some (.string N):=HX3.out.cell 0
     cases r4:shoB 9 rl with
     | false =>
      clear r4;go_wp2;go_ret;exact⟨false,(fun h=>by cases h),rfl,HB3.out⟩
     | true =>
      clear r4;go_wp2;go_ret;exact⟨_,(fun _=>⟨R1.out.1,R1.out.2,R2.out⟩),rfl,HB3.out⟩
   · skip;go_wp2;go_ret;exact⟨false,(fun h=>by cases h),rfl,HB2.out⟩
end Go.Proofs.YtmahgbhpdfbbjaaGreatDoor
