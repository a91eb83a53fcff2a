import Derived.Test.YtamhonjkgkmdbaaGreatQKyD
import Derived.Test.YtamhonjkgkmdbaaGreatQKyH
import Derived.Test.YtamhonjkgkmdbaaGreatQKyT
import Derived.Test.YtamhonjkgkmdbaaGreatQScS
set_option linter.unusedVariables false
set_option linter.unusedSimpArgs false
namespace Go.Proofs.YtamhonjkgkmdbaaGreat
set_option maxRecDepth 100000
set_option maxHeartbeats 2000000
open Go.RowKit
def addL(l:List Ver)(v:Ver):List Ver×Int:=match lastI l v.name with
 | none=>if v.num≠1 then([],22)else(l++[v],0)
 | some i=>match l[i]? with
  | none=>([],22)
  | some u=>if v.num - 1≠u.num then([],22)else if v.fr≤u.fr∨u.to<v.fr - 1 then([],21)else(l++[v],0)
def addR(ck:Int)(l:List Ver)(v:Ver):List Ver×Int:=
 if ck≠0 then([],ck)else if 4096≤l.length then([],6)else if l.any (hitV v.name v.num)=true then([],8)else addL l v
def RetAd(r:List Ver×Int)(w:World)(e:Ending)(w':World):Prop:=∃ A c,e=.returned (.tuple #[.slice A r.1.length c,.int .i64 r.2])∧SlV w' A r.1.length c r.1∧Below w.heap.size w w'
theorem ky_add1(cs:Array Value)(nm:ByteArray)(k:Int)(h0:cs[0]? =some (.string nm))(h1:cs[1]? =some (.int .i64 k))(name:ByteArray)(num:Int)(N:Nat)(w:World)(hN:w.cell? ⟨N,0,none⟩=some (.string name))(hF:w.cell? ⟨N,1,none⟩=some (.int .i64 num)):Calls Tryz.prog 17 #[.agg cs,.pointer (some ⟨N,0,none⟩)] w (Ret (.bool ((nm.toList==name.toList)&&(k==num))) w):=by
 have kN:=cell_kept ((Below.refl w.heap.size w).alloc (Nat.le_refl _) (.cells cs 36)) (Nat.le_refl _) hN;have kF:=cell_kept ((Below.refl w.heap.size w).alloc (Nat.le_refl _) (.cells cs 36)) (Nat.le_refl _) hF;clear hN hF
 cases hq:(nm.toList==name.toList)with
 | true =>
  go_enter Tryz.func17,Tryz.ntmps17;go_wp2;go_ret;exact⟨rfl,(Below.refl _ _).alloc (Nat.le_refl _) _⟩
 | false =>
  go_enter Tryz.func17,Tryz.ntmps17;go_wp2;go_ret;exact⟨rfl,(Below.refl _ _).alloc (Nat.le_refl _) _⟩
theorem sl_IndexFuncA(l:List Ver)(A:Option Addr)(len cap:Nat)(name:ByteArray)(num:Int)(N:Nat)(w:World)(hs:SlV w A len cap l)(hlen:len≤4096)(hN:w.cell? ⟨N,0,none⟩=some (.string name))(hF:w.cell? ⟨N,1,none⟩=some (.int .i64 num)) :
 Calls Tryz.prog 26 #[.slice A len cap,.func (.func 17) #[] #[.pointer (some ⟨N,0,none⟩)]] w (Ret (.int .i64 (idxV l name num)) w):=by
 have HS:=Hq hs;have HN:=Hq hN;have HF:=Hq hF;have HLEN:=Hq hs.1;have hcap:=hs.2.1;have hcap2:=hs.2.2.1;clear hs hN hF;go_enter Tryz.func26,Tryz.ntmps26;go_wp2;go_loopw [8] (fun k wr=>∃ j:Nat,j≤len∧k=.int .i64 j∧(∀(i:Nat) u,i<j→l[i]? =some u→hitV name num u=false)∧Below w.heap.size w wr) (fun k _=>len - (intOf k).toNat);case atStart=>exact⟨0,Nat.zero_le _,rfl,fun i u h=>absurd h (Nat.not_lt_zero _),Below.refl _ _⟩
 case round =>
  obtain⟨j,hj,rfl,hall,hB⟩:=hrel;have HALL:=Hq hall;have HB:=Hq hB;clear hall hB;by_cases hlt:j<len
  · obtain⟨b,o,rfl⟩:=HS.out.head (by omega);obtain⟨v,he⟩:∃ v,l[j]? =some v:=⟨_,List.getElem?_eq_getElem (by rw[HLEN.out];exact hlt)⟩;obtain⟨A1,n1,c1,hvc,_⟩:=(HS.out.kept HB.out (Nat.le_refl _)).get? j he;have HE:=Hq he;have hra:wr.rangeAt b (o+j * 18) (v.vals (.slice A1 n1 c1)):=hvc;have hsz:(Tryz.prog.info? 36).map (·.size)=some (v.vals (.slice A1 n1 c1)).length:=by kernel_rfl
    have HC:=Hq (ky_add1 (v.vals (.slice A1 n1 c1)).toArray v.name v.num rfl rfl name num N wr (cell_kept HB.out (Nat.le_refl _) HN.out) (cell_kept HB.out (Nat.le_refl _) HF.out));obtain⟨cs,hcs⟩:∃ cs,v.vals (.slice A1 n1 c1)=cs:=⟨_,rfl⟩;rw[hcs]at hra hsz HC;have HRA:=Hq hra;have HSZ:=Hq hsz;clear hvc he hcs hra hsz;go_upto_region 4 with fail
    refine wp_region_lit ?_;iterate 13 go_step
    refine wp_load_mid 36 _ rfl b (o+j * 18) rfl cs _ HRA.out Tryz.underlying36 rfl HSZ.out ?_;go_wp2_with fail;refine HC.out.mono ?_;rintro e w1 ⟨rfl,hb1⟩;have HB1:=Hq (HB.out.trans (hb1.mono HB.out.size));clear hb1
    cases hh:((v.name.toList==name.toList)&&(v.num==num))with
    | true =>
     have HI:=Hq (show idxV l name num=(j:Int)from by unfold idxV;rw[findV_some HE.out hh HALL.out]);clear hh;go_wp2;go_ret;exact⟨by rw[HI.out];rfl,HB1.out⟩
    | false =>
     have HA2:=Hq (show ∀(i:Nat) u,i<j+1→l[i]? =some u→hitV name num u=false from fun i u hi hu=>by
      rcases Nat.lt_or_ge i j with a | a
      · exact HALL.out i u a hu
      · obtain rfl:i=j:=by omega
        rw[HE.out]at hu;cases hu
        exact hh)
     clear hh;go_wp2;go_roundw;case rel=>exact⟨j+1,by omega,by go_num,HA2.out,HB1.out⟩
     case measure=>simp[intOf];omega
  · obtain rfl:j=len:=by omega
    have HI:=Hq (show idxV l name num = -1 from by unfold idxV;rw[findV_none (fun i u hu=>HALL.out i u (by have:=(List.getElem?_eq_some_iff.1 hu).1;have:=HLEN.out;omega) hu)]);clear hlt hj;go_wp2;go_ret;exact⟨by rw[HI.out];rfl,HB.out⟩
theorem findV_any{l:List Ver}{name:ByteArray}{num:Int}:(findV l name num).isSome=l.any (hitV name num):=by
 unfold findV;rw[Bool.eq_iff_iff,List.find?_isSome,List.any_eq_true];constructor
 · rintro⟨i,hi,h⟩;have hl:=List.mem_range.1 hi;rw[List.getElem?_eq_getElem hl]at h;exact⟨_,List.getElem_mem hl,h⟩
 · rintro⟨x,hx,h⟩;obtain⟨i,hi⟩:=List.getElem?_of_mem hx;exact⟨i,List.mem_range.2 (List.getElem?_eq_some_iff.1 hi).1,by rw[hi];exact h⟩
theorem sl_ContainsA(l:List Ver)(A:Option Addr)(len cap:Nat)(name:ByteArray)(num:Int)(N:Nat)(w:World)(hs:SlV w A len cap l)(hlen:len≤4096)(hN:w.cell? ⟨N,0,none⟩=some (.string name))(hF:w.cell? ⟨N,1,none⟩=some (.int .i64 num)) :
 Calls Tryz.prog 16 #[.slice A len cap,.func (.func 17) #[] #[.pointer (some ⟨N,0,none⟩)]] w (Ret (.bool (l.any (hitV name num))) w):=by
 have HI:=Hq (sl_IndexFuncA l A len cap name num N w hs hlen hN hF);clear hs hN hF;have hc:decide (idxV l name num≥0)=l.any (hitV name num):=by
  rw[←findV_any];unfold idxV
  cases h:findV l name num with
  | none=>rfl
  | some k=>simp
 go_enter Tryz.func16,Tryz.ntmps16;go_wp2_with fail;refine HI.out.mono ?_;rintro e w1 ⟨rfl,hb⟩;go_wp2;go_ret;exact⟨by rw[←hc];rfl,hb⟩
theorem Ver.msg_ok{v:Ver}(h:v.msg.2=0):v.okN=true∧v.kn=v.name∧1≤v.num∧v.num≤4096∧0≤v.fr∧v.fr≤v.to∧v.to≤4096∧knameB v.name=true∧v.msg=encS v.it:=by
 unfold Ver.msg at h⊢;by_cases h1:v.okN=false
 · rw[if_pos h1]at h;cases h
 rw[if_neg h1]at h⊢;by_cases h2:(knameB v.name&&decide (v.kn=v.name))=false
 · rw[if_pos h2]at h;cases h
 rw[if_neg h2]at h⊢;by_cases h3:v.far
 · rw[if_pos h3]at h;cases h
 rw[if_neg h3];unfold Ver.far at h3;simp only[Bool.not_eq_false,Bool.and_eq_true,decide_eq_true_eq]at h1 h2;exact⟨h1,h2.2,by omega,by omega,by omega,by omega,by omega,h2.1,rfl⟩
set_option maxRecDepth 100000
set_option maxHeartbeats 4000000
def rtV(M O G Y X:ByteArray):Value:=.agg #[.string M,.string O,.string G,.string Y,.string X]
def fewR(M O G Y X:ByteArray):Bool:=decide ((M.size:Int)≤8)&&(decide ((O.size:Int)≤8)&&(decide ((G.size:Int)≤9)&&(decide ((Y.size:Int)≤9)&&decide ((X.size:Int)≤9))))
theorem law58_few(M O G Y X:ByteArray)(w:World):Calls Tryz.prog 4 #[rtV M O G Y X] w (Ret (.bool (fewR M O G Y X)) w):=by
 obtain⟨W0,hW0⟩:∃ W0,w.alloc (.cells #[.string M,.string O,.string G,.string Y,.string X] 28)=W0:=⟨_,rfl⟩;have HB0:=Hq (show Below w.heap.size w W0 from by rw[←hW0];exact(Below.refl _ _).alloc (Nat.le_refl _) _);have HX:=Hq (show BxC W0 w.heap.size #[.string M,.string O,.string G,.string Y,.string X] 28 from by rw[←hW0];exact BxC.new w _ _);have x0:W0.cell? ⟨w.heap.size,0,none⟩=some (.string M):=HX.out.cell 0;have x1:W0.cell? ⟨w.heap.size,1,none⟩=some (.string O):=HX.out.cell 1;have x2:W0.cell? ⟨w.heap.size,2,none⟩=some (.string G):=HX.out.cell 2;have x3:W0.cell? ⟨w.heap.size,3,none⟩=some (.string Y):=HX.out.cell 3;have x4:W0.cell? ⟨w.heap.size,4,none⟩=some (.string X):=HX.out.cell 4;unfold rtV;go_enter Tryz.func4,Tryz.ntmps4;go_upto_region 1 with fail
 try rw[hW0]
 clear hW0
 cases h0:decide ((M.size:Int)≤8)with
 | false =>
  go_wp2;go_ret;exact⟨by simp[fewR,h0],HB0.out⟩
 | true =>
 cases h1:decide ((O.size:Int)≤8)with
 | false =>
  go_wp2;go_ret;exact⟨by simp[fewR,h0,h1],HB0.out⟩
 | true =>
 cases h2:decide ((G.size:Int)≤9)with
 | false =>
  go_wp2;go_ret;exact⟨by simp[fewR,h0,h1,h2],HB0.out⟩
 | true =>
 cases h3:decide ((Y.size:Int)≤9)with
 | false =>
  go_wp2;go_ret;exact⟨by simp[fewR,h0,h1,h2,h3],HB0.out⟩
 | true =>
 cases h4:decide ((X.size:Int)≤9)with
 | false =>
  go_wp2;go_ret;exact⟨by simp[fewR,h0,h1,h2,h3,h4],HB0.out⟩
 | true =>
  go_wp2;go_ret;exact⟨by simp[fewR,h0,h1,h2,h3,h4],HB0.out⟩
def ckV(M O G Y:ByteArray)(v:Ver):Int:=if v.msg.2=0 then veK M O G Y v.sc v.sr v.msg.1 else v.msg.2
theorem encS_size(x:It):(encS x).1.size≤1000000:=by
 unfold encS;split
 · decide
 split
 · decide
 split
 · decide
 · rw[bstr_size];omega
theorem Ver.msg_size(v:Ver):v.msg.1.size≤1000000:=by
 unfold Ver.msg;split
 · decide
 split
 · decide
 split
 · decide
 · exact encS_size _
theorem ky_Check(M O G Y:ByteArray)(v:Ver)(A:Option Addr)(n c:Nat)(w:World)(hs:SlN w A n c v.kr)(hn:n≤100)(hz:SzL v.str)(hM:M.size≤8)(hO:O.size≤100)(hG:G.size≤1000)(hY:Y.size≤1000)(hc:v.sc.size≤1000)(hr:v.sr.size≤1000) :
 Calls Tryz.prog 15 #[kV M O G Y,.agg (v.arr (.slice A n c))] w (Ret (.int .i64 (ckV M O G Y v)) w):=by
 obtain⟨cs,hcs⟩:∃ cs,v.arr (.slice A n c)=cs:=⟨_,rfl⟩;rw[hcs];have HVA:=Hq hcs;have HCS:=Hq (show cs.size=18 from by rw[←hcs];rfl);obtain⟨W0,hW0⟩:∃ W0,(w.alloc (.cells #[.string M,.string O,.string G,.string Y] 26)).alloc (.cells cs 36)=W0:=⟨_,rfl⟩;have HK0:=Hq (show BxC W0 w.heap.size #[.string M,.string O,.string G,.string Y] 26 from by rw[←hW0];exact(BxC.new w _ _).next ((Below.refl _ _).alloc (Nat.le_refl _) _));have HX0:=Hq (show BxC W0 (w.heap.size+1) cs 36 from by rw[←hW0];exact BxC.new1 w _ _ _);have HB0:=Hq (show Below w.heap.size w W0 from by rw[←hW0];exact((Below.refl _ _).alloc (Nat.le_refl _) _).alloc (by simp) _);have HM:=Hq (show ∀ W,Below w.heap.size w W→Calls Tryz.prog 28 #[.agg cs] W (RetSE v.msg W)from fun W hb=>by rw[←hcs];exact ky_Message v A n c W (hs.kept hb (Nat.le_refl _)) hn hz);have HV:=Hq (fun W=>sc_Verify M O G Y v.sc v.sr v.msg.1 hM hO hG hY hc hr v.msg_size W);obtain⟨r1,r2,hr1⟩:∃ r1 r2,v.msg=(r1,r2):=⟨_,_,rfl⟩;have HCK:=Hq (show ckV M O G Y v=if r2=0 then veK M O G Y v.sc v.sr r1 else r2 from by unfold ckV;rw[hr1]);rw[hr1]at HM HV;unfold kV at HV⊢;clear hs hcs hr1;go_enter Tryz.func15,Tryz.ntmps15;go_upto_region 1 with fail
 try rw[hW0]
 clear hW0;refine wp_region_lit ?_;refine wpList_load_row rfl 36 _ rfl (w.heap.size+1) rfl 36 cs (0,0) _ HX0.out Tryz.underlying36 rfl (by rw[HCS.out];kernel_rfl) ?_;go_wp2_with fail;refine(HM.out W0 HB0.out).mono ?_;rintro e w1 ⟨rfl,hb1⟩;have HK1:=Hq (HK0.out.next hb1);have HX1:=Hq (HX0.out.next hb1);have HB1:=Hq (HB0.out.trans (hb1.mono HB0.out.size));clear hb1;by_cases hz2:r2=0
 · subst hz2;have HCK:=Hq (show ckV M O G Y v=veK M O G Y v.sc v.sr r1 from by rw[HCK.out,if_pos rfl]);have k0:w1.cell? ⟨w.heap.size,0,none⟩=some (.string M):=HK1.out.cell 0;have k1:w1.cell? ⟨w.heap.size,1,none⟩=some (.string O):=HK1.out.cell 1;have k2:w1.cell? ⟨w.heap.size,2,none⟩=some (.string G):=HK1.out.cell 2;have k3:w1.cell? ⟨w.heap.size,3,none⟩=some (.string Y):=HK1.out.cell 3;have x16:w1.cell? ⟨w.heap.size+1,16,none⟩=some (.string v.sc):=(HX1.out.cell 16).trans (by rw[←HVA.out];rfl);have x17:w1.cell? ⟨w.heap.size+1,17,none⟩=some (.string v.sr):=(HX1.out.cell 17).trans (by rw[←HVA.out];rfl);go_wp2_with fail;refine(HV.out w1).mono ?_;rintro e w2 ⟨rfl,hb2⟩;have HB2:=Hq (HB1.out.trans (hb2.mono HB1.out.size));clear hb2;go_wp2;go_ret;exact⟨by rw[HCK.out];rfl,HB2.out⟩
 · have hne:(r2 != 0)=true:=by simp[hz2]
   have HCK:=Hq (show ckV M O G Y v=r2 from by rw[HCK.out,if_neg hz2]);go_wp2;go_ret;exact⟨by rw[HCK.out];rfl,HB1.out⟩
end Go.Proofs.YtamhonjkgkmdbaaGreat
