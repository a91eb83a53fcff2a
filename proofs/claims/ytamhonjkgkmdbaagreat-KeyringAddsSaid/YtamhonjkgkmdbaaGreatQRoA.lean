import Derived.Test.YtamhonjkgkmdbaaGreatQKbD
import Derived.Test.YtamhonjkgkmdbaaGreatQRoC
import Derived.Test.YtamhonjkgkmdbaaGreatQScT
import Derived.Test.YtamhonjkgkmdbaaGreatQRoD
import Derived.Test.YtamhonjkgkmdbaaGreatQKyX
set_option linter.unusedVariables false
set_option linter.unusedSimpArgs false
namespace Go.Proofs.YtamhonjkgkmdbaaGreat
set_option maxRecDepth 100000
set_option maxHeartbeats 4000000
open Go.RowKit
theorem r58_Check(M O G Y:ByteArray)(v:Ver)(A:Option Addr)(n c:Nat)(w:World)(hs:SlN w A n c v.kr)(hn:n≤100)(hz:SzL v.str)(hM:M.size≤8)(hO:O.size≤100)(hG:G.size≤1000)(hY:Y.size≤1000)(hc:v.sc.size≤1000)(hr:v.sr.size≤1000) :
 Calls Tryz.prog 21 #[kV M O G Y,.agg (v.arr (.slice A n c))] w (Ret (.int .i64 (ckV M O G Y v)) w):=by
 obtain⟨cs,hcs⟩:∃ cs,v.arr (.slice A n c)=cs:=⟨_,rfl⟩;rw[hcs];have HVA:=Hq hcs;have HCS:=Hq (show cs.size=18 from by rw[←hcs];rfl);obtain⟨W0,hW0⟩:∃ W0,(w.alloc (.cells #[.string M,.string O,.string G,.string Y] 26)).alloc (.cells cs 36)=W0:=⟨_,rfl⟩;have HK0:=Hq (show BxC W0 w.heap.size #[.string M,.string O,.string G,.string Y] 26 from by rw[←hW0];exact(BxC.new w _ _).next ((Below.refl _ _).alloc (Nat.le_refl _) _));have HX0:=Hq (show BxC W0 (w.heap.size+1) cs 36 from by rw[←hW0];exact BxC.new1 w _ _ _);have HB0:=Hq (show Below w.heap.size w W0 from by rw[←hW0];exact((Below.refl _ _).alloc (Nat.le_refl _) _).alloc (by simp) _);have HM:=Hq (show ∀ W,Below w.heap.size w W→Calls Tryz.prog 31 #[.agg cs] W (RetSE v.msg W)from fun W hb=>by rw[←hcs];exact r58_Message v A n c W (hs.kept hb (Nat.le_refl _)) hn hz);have HV:=Hq (fun W=>r33_Verify M O G Y v.sc v.sr v.msg.1 hM hO hG hY hc hr v.msg_size W);obtain⟨r1,r2,hr1⟩:∃ r1 r2,v.msg=(r1,r2):=⟨_,_,rfl⟩;have HCK:=Hq (show ckV M O G Y v=if r2=0 then veK M O G Y v.sc v.sr r1 else r2 from by unfold ckV;rw[hr1]);rw[hr1]at HM HV;unfold kV at HV⊢;clear hs hcs hr1;go_enter Tryz.func21,Tryz.ntmps21;go_upto_region 1 with fail
 try rw[hW0]
 clear hW0;refine wp_region_lit ?_;refine wpList_load_row rfl 36 _ rfl (w.heap.size+1) rfl 36 cs (0,0) _ HX0.out Tryz.underlying36 rfl (by rw[HCS.out];kernel_rfl) ?_;go_wp2_with fail;refine(HM.out W0 HB0.out).mono ?_;rintro e w1 ⟨rfl,hb1⟩;have HK1:=Hq (HK0.out.next hb1);have HX1:=Hq (HX0.out.next hb1);have HB1:=Hq (HB0.out.trans (hb1.mono HB0.out.size));clear hb1;by_cases hz2:r2=0
 · subst hz2;have HCK:=Hq (show ckV M O G Y v=veK M O G Y v.sc v.sr r1 from by rw[HCK.out,if_pos rfl]);have k0:w1.cell? ⟨w.heap.size,0,none⟩=some (.string M):=HK1.out.cell 0;have k1:w1.cell? ⟨w.heap.size,1,none⟩=some (.string O):=HK1.out.cell 1;have k2:w1.cell? ⟨w.heap.size,2,none⟩=some (.string G):=HK1.out.cell 2;have k3:w1.cell? ⟨w.heap.size,3,none⟩=some (.string Y):=HK1.out.cell 3;have x16:w1.cell? ⟨w.heap.size+1,16,none⟩=some (.string v.sc):=(HX1.out.cell 16).trans (by rw[←HVA.out];rfl);have x17:w1.cell? ⟨w.heap.size+1,17,none⟩=some (.string v.sr):=(HX1.out.cell 17).trans (by rw[←HVA.out];rfl);go_wp2_with fail;refine(HV.out w1).mono ?_;rintro e w2 ⟨rfl,hb2⟩;have HB2:=Hq (HB1.out.trans (hb2.mono HB1.out.size));clear hb2;go_wp2;go_ret;exact⟨by rw[HCK.out];rfl,HB2.out⟩
 · have hne:(r2 != 0)=true:=by simp[hz2]
   have HCK:=Hq (show ckV M O G Y v=r2 from by rw[HCK.out,if_neg hz2]);go_wp2;go_ret;exact⟨by rw[HCK.out];rfl,HB1.out⟩
set_option maxRecDepth 100000
set_option maxHeartbeats 4000000
theorem wpList_append_empty{ops:Array Oper}{rest:List Oper}{o:Oper}{a:Act}{w:World}{Q:Exit→Act→World→Prop}(hg:o.guard=none)(s x:Operand)(hop:o.op=Op.call { callee:=Callee.builtin Builtin.append,args:=#[s,x],argTypes:=#[29,29] })
 (hs:a.eval s=.slice none 0 0) (A:Option Addr) (m:Nat) (hx:a.eval x=.slice A 0 m)
 (hK:wpList Tryz.prog ops Q rest (a.put o.dst (.slice none 0 0)) w):wpList Tryz.prog ops Q (o::rest) a w:=by
 obtain⟨i0,hi,iz0,iz1,iz2⟩:=info_parts ver_info;refine wpList_plain hg fun K hK'=>?_;have hrun:(Builtin.append_ #[29,29] o.type #[.slice none 0 0,.slice A 0 m]).run Tryz.prog w=.ok (.slice none 0 0) w:=by
  cases A with
  | none=>simp[Builtin.append_,run_underlying Tryz.underlying29,sizeOf,typeInfo,hi,storeCells,go_sem]
  | some ad =>
   have hlc:=run_loadCells_list (P:=Tryz.prog) w ad [] (by intro j v hj;simp at hj);simp[Builtin.append_,run_underlying Tryz.underlying29,sizeOf,typeInfo,hi,storeCells,go_sem,hlc]
 unfold Oper.wp;simp[execOp,hop,resolve,invoke,builtin,hs,hx,hrun,Result.andThen];exact hK' _ _ hK
theorem wpList_append_vers{ops:Array Oper}{rest:List Oper}{o:Oper}{a:Act}{w:World}{Q:Exit→Act→World→Prop}(hg:o.guard=none)(s x:Operand)(hop:o.op=Op.call { callee:=Callee.builtin Builtin.append,args:=#[s,x],argTypes:=#[29,29] })
 (hs:a.eval s=.slice none 0 0) (A:Option Addr) (len cap:Nat) (hx:a.eval x=.slice A len cap) (l:List Ver) (hl:SlV w A len cap l) (hlen:len≤100)
 (hK:∀ rv vs w',w'.ownsRow w.heap.size 36 18 rv len vs→VRowB w' w.heap.size vs l→Below w.heap.size w w'→wpList Tryz.prog ops Q rest (a.put o.dst rv) w'):wpList Tryz.prog ops Q (o::rest) a w:=by
 rcases Nat.eq_zero_or_pos len with h0 | h0
 · subst h0;have : l=[]:=List.length_eq_zero_iff.1 hl.1;subst this;exact wpList_append_empty hg s x hop hs A cap hx (hK _ [] w (World.ownsRow_nil _ _ _ _) rfl (Below.refl _ _))
 · obtain⟨b,p,rfl⟩:=hl.head h0;obtain⟨vs,hvb,hcl⟩:=hl.rowB;have hvl:vs.length=len * 18:=by rw[hvb.row.length,hl.1]
   obtain⟨i0,hi,iz0,iz1,iz2⟩:=info_parts ver_info;refine wpList_append_lies _ hg s x 29 hop w.heap.size 36 i0 _ 18 272 Tryz.underlying29 hi iz0 iz1 iz2 rfl (by decide) _ 0 [] hs (World.ownsRow_nil _ _ _ _) ⟨b,p,none⟩ len cap vs hx hvl (fun j u hj=>by
    have e:(⟨b,p,none⟩:Addr).add j=⟨b,p+j,none⟩:=by unfold Addr.add;split<;>simp_all
    rw[e]
    exact hcl b p rfl j u hj) hvb.row.one h0 (by unfold maxLen;omega) (by omega) (Nat.le_refl _) _ rfl ?_
   intro g cap7 w7 hown hgrow hat hlt;rw[Nat.zero_add,List.nil_append]at hown;rw[Nat.zero_add];have hb:Below w.heap.size w w7:=(Below.refl _ _).grown hgrow (Nat.le_refl _) (fun k e=>by cases e);exact hK _ vs w7 hown (hvb.kept hb (Nat.le_refl _)) hb
theorem VRowB.low{B:Nat}{w w':World}(hb:∀ b,b<B→w'.heap[b]? =w.heap[b]?):∀ {vs:List Value} {l:List Ver},VRowB w B vs l→VRowB w' B vs l
 | _,[],h=>h
 | _,_::_,⟨A,n,c,rest,h1,h2,h3⟩=>⟨A,n,c,rest,h1,⟨h2.1.of_blocks fun hn a e=>hb _ (h2.2 hn a e),h2.2⟩,h3.low hb⟩
theorem r58_Add(M O G Y:ByteArray)(l:List Ver)(A:Option Addr)(len cap:Nat)(v:Ver)(A1:Option Addr)(n1 c1:Nat)(w:World)(hs:SlV w A len cap l)(hlen:len≤100)(hz:SzV l)(hfw:FwV l)(hv:SlN w A1 n1 c1 v.kr)(hn1:n1≤100)(hvz:SzL v.str)(hnm:v.name.size≤maxLen)(hM:M.size≤8)(hO:O.size≤100)(hG:G.size≤1000)(hY:Y.size≤1000)(hc:v.sc.size≤1000)(hr:v.sr.size≤1000) :
 Calls Tryz.prog 8 #[kV M O G Y,.slice A len cap,.agg (v.arr (.slice A1 n1 c1))] w (RetAd (addR (ckV M O G Y v) l v) w):=by
 obtain⟨cs,hcs⟩:∃ cs,v.arr (.slice A1 n1 c1)=cs:=⟨_,rfl⟩;rw[hcs];have HVA:=Hq hcs;have HCS:=Hq (show cs.size=18 from by rw[←hcs];rfl);obtain⟨W0,hW0⟩:∃ W0,(w.alloc (.cells #[.string M,.string O,.string G,.string Y] 26)).alloc (.cells cs 36)=W0:=⟨_,rfl⟩;have HK0:=Hq (show BxC W0 w.heap.size #[.string M,.string O,.string G,.string Y] 26 from by rw[←hW0];exact(BxC.new w _ _).next ((Below.refl _ _).alloc (Nat.le_refl _) _));have HX0:=Hq (show BxC W0 (w.heap.size+1) cs 36 from by rw[←hW0];exact BxC.new1 w _ _ _);have HB0:=Hq (show Below w.heap.size w W0 from by rw[←hW0];exact((Below.refl _ _).alloc (Nat.le_refl _) _).alloc (by simp) _);have HSW:=Hq hs;have HSL:=Hq hv;have HZ:=Hq hz;have HFW:=Hq hfw;have HNM:=Hq hnm;have HLEN:=Hq hs.1;have hcap:=hs.2.1;have hcap2:=hs.2.2.1;have HCK:=Hq (show ∀ W,Below w.heap.size w W→Calls Tryz.prog 21 #[.agg #[.string M,.string O,.string G,.string Y],.agg cs] W (Ret (.int .i64 (ckV M O G Y v)) W)from fun W hb=>by
  rw[←hcs]
  exact r58_Check M O G Y v A1 n1 c1 W (hv.kept hb (Nat.le_refl _)) hn1 hvz hM hO hG hY hc hr)
 obtain⟨ck,hck⟩:∃ ck,ckV M O G Y v=ck:=⟨_,rfl⟩;rw[hck]at HCK⊢;have HCE:=Hq hck;unfold kV;clear hs hz hfw hnm hvz hcs hv hck hM hO hG hY hc hr;go_enter Tryz.func8,Tryz.ntmps8;go_upto_region 1 with fail
 try rw[hW0]
 clear hW0;refine wp_region_lit ?_;refine wpList_load_row rfl 26 _ rfl w.heap.size rfl 26 #[.string M,.string O,.string G,.string Y] (0,0) _ HK0.out Tryz.underlying26 rfl (by kernel_rfl) ?_;refine wpList_load_row rfl 36 _ rfl (w.heap.size+1) rfl 36 cs (0,0) _ HX0.out Tryz.underlying36 rfl (by rw[HCS.out];kernel_rfl) ?_;go_wp2_with fail;refine(HCK.out W0 HB0.out).mono ?_;rintro e w1 ⟨rfl,hb1⟩;have HX1:=Hq (HX0.out.next hb1);have HB1:=Hq (HB0.out.trans (hb1.mono HB0.out.size));clear hb1 HCK HK0 HX0 HB0;by_cases h0:ck=0
 · subst h0;obtain⟨-,-,m1,m2,m3,m4,m5,-⟩:=Ver.msg_ok (ck_msg HCE.out);have x0:w1.cell? ⟨w.heap.size+1,0,none⟩=some (.string v.name):=(HX1.out.cell 0).trans (by rw[←HVA.out];rfl);have x1:w1.cell? ⟨w.heap.size+1,1,none⟩=some (.int .i64 v.num):=(HX1.out.cell 1).trans (by rw[←HVA.out];rfl);have hl40:decide (((len:Nat):Int)≥4096)=false:=decide_eq_false (by omega);clear x0 x1;go_wp2;go_loopw [9] (fun k wr=>∃ j:Nat,j≤len∧k=.int .i64 j∧(∀(i:Nat) u,i<j→l[i]? =some u→hitV v.name v.num u=false)∧Below w1.heap.size w1 wr) (fun k _=>len - (intOf k).toNat);case atStart=>exact⟨0,Nat.zero_le _,rfl,fun i u h=>absurd h (Nat.not_lt_zero _),Below.refl _ _⟩
   case round =>
    obtain⟨j,hj,rfl,hall,hB⟩:=hrel;have HALL:=Hq hall;have HBW:=Hq hB;have HXR:=Hq (HX1.out.next hB);have HBR:=Hq (HB1.out.trans (hB.mono HB1.out.size));clear hall hB;by_cases hlt:j<len
    · obtain⟨b,o,rfl⟩:=HSW.out.head (by omega);obtain⟨u,he⟩:∃ u,l[j]? =some u:=⟨_,List.getElem?_eq_getElem (by rw[HLEN.out];exact hlt)⟩;obtain⟨A2,n2,c2,hvc,_⟩:=(HSW.out.kept HBR.out (Nat.le_refl _)).get? j he;have d0':=hvc.open.1;have d1':=hvc.open.2.1;have d0:wr.drew.cell? _=_:=d0';have d1:wr.drew.cell? _=_:=d1';have x0:wr.drew.cell? ⟨w.heap.size+1,0,none⟩=some (.string v.name):=(HXR.out.cell 0).trans (by rw[←HVA.out];rfl);have x1:wr.drew.cell? ⟨w.heap.size+1,1,none⟩=some (.int .i64 v.num):=(HXR.out.cell 1).trans (by rw[←HVA.out];rfl);have HE:=Hq he;clear hvc he d0' d1'
      cases hh:hitV v.name v.num u with
      | true =>
       have HR:=Hq (show addR 0 l v=([],8)from by
        unfold addR
        rw[if_neg (by simp),if_neg (by rw[HLEN.out];omega),if_pos (List.any_eq_true.2 ⟨u,List.mem_of_getElem? HE.out,hh⟩)])
       unfold hitV at hh;rw[Bool.and_eq_true]at hh;obtain⟨q1,q2⟩:=hh;go_wp2;go_region;go_wp2;go_ret2;exact⟨none,0,by rw[HR.out];rfl,by rw[HR.out];exact SlV.nil _ 0 (by omega) none,HBR.out.drew⟩
      | false =>
       have HA2:=Hq (show ∀(i:Nat) u,i<j+1→l[i]? =some u→hitV v.name v.num u=false from fun i x hi hu=>by
        rcases Nat.lt_or_ge i j with a | a
        · exact HALL.out i x a hu
        · obtain rfl:i=j:=by omega
          rw[HE.out]at hu;cases hu
          exact hh)
       unfold hitV at hh;have HBD:=Hq HBW.out.drew
       cases hq:(u.name.toList==v.name.toList)with
       | false =>
        clear hh;go_wp2;go_region;go_wp2;go_roundw;case rel=>exact⟨j+1,by omega,by go_num,HA2.out,HBD.out⟩
        case measure=>simp[intOf];omega
       | true =>
        rw[hq,Bool.true_and]at hh;go_wp2;go_region;go_wp2;go_roundw;case rel=>exact⟨j+1,by omega,by go_num,HA2.out,HBD.out⟩
        case measure=>simp[intOf];omega
    · obtain rfl:len=j:=by omega
      have hany:l.any (hitV v.name v.num)=false:=(by rw[List.any_eq_false];intro x hx;obtain⟨i,hi⟩:=List.getElem?_of_mem hx;rw[HALL.out i x (by have:=(List.getElem?_eq_some_iff.1 hi).1;have:=HLEN.out;omega) hi];simp);have HAD:=Hq (show addR 0 l v=addL l v from by unfold addR;rw[if_neg (by simp),if_neg (by rw[HLEN.out];omega),if_neg (by rw[hany];simp)]);have x0:wr.cell? ⟨w.heap.size+1,0,none⟩=some (.string v.name):=(HXR.out.cell 0).trans (by rw[←HVA.out];rfl);clear hlt hj hany HX1 HB1;go_upto_region 11 with fail
      go_wp2_with fail;refine(r58_Last l _ len cap v.name wr (HSW.out.kept HBR.out (Nat.le_refl _)) (by omega)).mono ?_;rintro e w2 ⟨rfl,hb⟩;have HX2:=Hq (HXR.out.next hb);have HB2:=Hq (HBR.out.trans (hb.mono HBR.out.size));clear hb x0 HXR HBR HBW HALL;have y1:w2.drew.cell? ⟨w.heap.size+1,1,none⟩=some (.int .i64 v.num):=(HX2.out.cell 1).trans (by rw[←HVA.out];rfl);have y4:w2.drew.drew.cell? ⟨w.heap.size+1,14,none⟩=some (.int .i64 v.fr):=(HX2.out.cell 14).trans (by rw[←HVA.out];rfl)
      cases hi:lastI l v.name with
      | none =>
       rw[show idxI none=(-1)from rfl];have HI:=Hq hi;clear hi;by_cases q1:v.num=1
       · have q1':(v.num != 1)=false:=by simp[q1]
         go_wp2;go_region;go_wp2;go_region;have HRA:=Hq (show addR 0 l v=(l++[v],0)from by rw[HAD.out];unfold addL;rw[HI.out];exact if_neg (by omega));obtain⟨wd,hwd⟩:∃ wd,w2.drew.drew=wd:=⟨_,rfl⟩;have hdd:Below w2.heap.size w2 wd:=by rw[←hwd];exact((Below.refl _ _).drew).drew
         have HXD:=Hq (HX2.out.next hdd);have HBD:=Hq (HB2.out.trans (hdd.mono HB2.out.size));have HSD:=Hq (HSW.out.kept HBD.out (Nat.le_refl _));clear hdd;go_upto_region 17 with fail
         rw[hwd];refine wp_region_lit ?_;iterate 6 go_step
         refine wpList_append_vers rfl (.tmp 94) (.tmp 95) rfl rfl _ len cap rfl l HSD.out hlen ?_;intro rv vs w6 hown hvb hb6;have HOW:=Hq hown;have HVB:=Hq hvb;have HX6:=Hq (HXD.out.next hb6);have HB6:=Hq (HBD.out.trans (hb6.mono HBD.out.size));have HDB:=Hq hb6;clear hown hvb hb6;go_upto_region 18 with fail
         refine wp_region_lit ?_;iterate 3 go_step
         refine wpList_load_row rfl 36 _ rfl (w.heap.size+1) rfl 36 cs (0,0) _ HX6.out Tryz.underlying36 rfl (by rw[HCS.out];kernel_rfl) ?_;refine wpList_build_ver rfl _ rfl v A1 n1 c1 (congrArg Value.agg HVA.out.symm) ?_;obtain⟨w7,hw7⟩:∃ w7,w6.alloc (.cells (v.arr (.slice A1 n1 c1)) 36)=w7:=⟨_,rfl⟩;have hb:=below_allocK hw7.symm;have HX7:=Hq (bxc_alloc hw7.symm);rw[hw7];have HO7:=Hq (owns_kept HOW.out hb (Nat.le_refl _));have HB7:=Hq (HB6.out.trans (hb.mono HB6.out.size));have HD7:=Hq (HDB.out.trans (hb.mono HDB.out.size));clear hb hw7;obtain⟨i0,hi,iz0,iz1,iz2⟩:=info_parts ver_info;refine wpList_append_lies _ rfl (.tmp 97) (.tmp 99) 29 rfl wd.heap.size 36 i0 _ 18 272 Tryz.underlying29 hi iz0 iz1 iz2 rfl (by decide) rv len vs rfl HO7.out ⟨w6.heap.size,0,none⟩ 1 1 (v.vals (.slice A1 n1 c1)) rfl rfl (World.news_of_block HX7.out) v.one (by decide) (by unfold maxLen;omega) (by omega) HD7.out.size _ rfl ?_;intro g cap7 w8 hown8 hgrow8 hat8 hlt8;have hb8:=HD7.out.grown hgrow8 HD7.out.size (fun k e=>(HO7.out.lt k e).1);have HB8:=Hq (HBD.out.trans (hb8.mono HBD.out.size));have HFIN:=Hq (show SlV w8 (some ⟨g,0,none⟩) (l++[v]).length cap7 (l++[v])from by
          have hrow:=(HVB.out.low (fun b h=>(hb8.block b h).trans (HDB.out.block b h).symm)).row;obtain⟨hl8,A8,c8,e8,hs8⟩:=SlV.of_owns hown8 (hrow.snoc (HSL.out.kept HB8.out (Nat.le_refl _)));cases e8;rw[hl8]
          exact hs8)
         clear hown8 hgrow8 hat8 hlt8 hi iz0 iz1 iz2 hb8;go_wp2;go_ret2;exact⟨some ⟨g,0,none⟩,cap7,by show Ending.returned (.tuple #[.slice (some ⟨g,0,none⟩) (len+1) cap7,.int .i64 0])=_;rw[HRA.out];simp[HLEN.out],by rw[HRA.out];exact HFIN.out,HB8.out⟩
       · have q1':(v.num != 1)=true:=by simp[q1]
         have HR:=Hq (show addR 0 l v=([],22)from by rw[HAD.out];unfold addL;rw[HI.out];exact if_pos q1);go_wp2;go_region;go_wp2;go_ret2;exact⟨none,0,by rw[HR.out];rfl,by rw[HR.out];exact SlV.nil _ 0 (by omega) none,HB2.out.drew⟩
      | some i =>
       obtain⟨hil,u,hu,_⟩:=bestI_lt hi;rw[show idxI (some i)=(i:Int)from rfl];have HI:=Hq hi;have HU:=Hq hu;have hll:i<len:=by rw[←HLEN.out];exact hil
       obtain⟨b,p,rfl⟩:=HSW.out.head (by omega);obtain⟨A2,n2,c2,hvc,_⟩:=(HSW.out.kept HB2.out (Nat.le_refl _)).get? i hu;have z1:w2.drew.cell? ⟨b,p+i * 18+1,none⟩=some (.int .i64 u.num):=hvc.open.2.1;have z14:w2.drew.drew.cell? ⟨b,p+i * 18+14,none⟩=some (.int .i64 u.fr):=hvc.open.2.2.2.2.2.2.2.2.2.2.2.2.2.2.1;have z15:w2.drew.drew.cell? ⟨b,p+i * 18+15,none⟩=some (.int .i64 u.to):=hvc.open.2.2.2.2.2.2.2.2.2.2.2.2.2.2.2.1;have HAU:=Hq (show addR 0 l v=if v.num - 1≠u.num then([],22)else if v.fr≤u.fr∨u.to<v.fr - 1 then([],21)else(l++[v],0)from by rw[HAD.out];unfold addL;rw[HI.out];simp only[HU.out]);have h40:decide ((i:Int)<0)=false:=decide_eq_false (by omega);have h41:decide ((i:Int)≥0)=true:=decide_eq_true (by omega);clear hi hu hvc hil;by_cases q1:v.num - 1=u.num
       · have q1':(v.num - 1 != u.num)=false:=by simp[q1]
         by_cases g1:v.fr≤u.fr
         · have HR:=Hq (show addR 0 l v=([],21)from by rw[HAU.out,if_neg (by simp[q1]),if_pos (.inl g1)]);have g1':decide (v.fr≤u.fr)=true:=decide_eq_true g1;clear g1 q1;go_wp2;go_region;go_wp2;go_region;go_wp2;go_ret2;exact⟨none,0,by rw[HR.out];rfl,by rw[HR.out];exact SlV.nil _ 0 (by omega) none,HB2.out.drew.drew⟩
         · by_cases g2:u.to<v.fr - 1
           · have HR:=Hq (show addR 0 l v=([],21)from by rw[HAU.out,if_neg (by simp[q1]),if_pos (.inr g2)]);have g1':decide (v.fr≤u.fr)=false:=decide_eq_false g1;have g2':decide (u.to<v.fr - 1)=true:=decide_eq_true g2;clear g1 g2 q1;go_wp2;go_region;go_wp2;go_region;go_wp2;go_ret2;exact⟨none,0,by rw[HR.out];rfl,by rw[HR.out];exact SlV.nil _ 0 (by omega) none,HB2.out.drew.drew⟩
           · have hq2:¬ (v.fr≤u.fr∨u.to<v.fr - 1):=fun h=>h.elim g1 g2;have hq1:¬ (v.num - 1≠u.num):=fun h=>h q1;have HQ1:=Hq hq1;have HQ2:=Hq hq2;have g1':decide (v.fr≤u.fr)=false:=decide_eq_false g1;have g2':decide (u.to<v.fr - 1)=false:=decide_eq_false g2;clear g1 g2 q1 hq1 hq2;go_wp2;go_region;go_wp2;go_region;have HRA:=Hq (show addR 0 l v=(l++[v],0)from by rw[HAU.out,if_neg HQ1.out,if_neg HQ2.out]);obtain⟨wd,hwd⟩:∃ wd,w2.drew.drew=wd:=⟨_,rfl⟩;have hdd:Below w2.heap.size w2 wd:=by rw[←hwd];exact((Below.refl _ _).drew).drew
             have HXD:=Hq (HX2.out.next hdd);have HBD:=Hq (HB2.out.trans (hdd.mono HB2.out.size));have HSD:=Hq (HSW.out.kept HBD.out (Nat.le_refl _));clear hdd;go_upto_region 17 with fail
             rw[hwd];refine wp_region_lit ?_;iterate 6 go_step
             refine wpList_append_vers rfl (.tmp 94) (.tmp 95) rfl rfl _ len cap rfl l HSD.out hlen ?_;intro rv vs w6 hown hvb hb6;have HOW:=Hq hown;have HVB:=Hq hvb;have HX6:=Hq (HXD.out.next hb6);have HB6:=Hq (HBD.out.trans (hb6.mono HBD.out.size));have HDB:=Hq hb6;clear hown hvb hb6;go_upto_region 18 with fail
             refine wp_region_lit ?_;iterate 3 go_step
             refine wpList_load_row rfl 36 _ rfl (w.heap.size+1) rfl 36 cs (0,0) _ HX6.out Tryz.underlying36 rfl (by rw[HCS.out];kernel_rfl) ?_;refine wpList_build_ver rfl _ rfl v A1 n1 c1 (congrArg Value.agg HVA.out.symm) ?_;obtain⟨w7,hw7⟩:∃ w7,w6.alloc (.cells (v.arr (.slice A1 n1 c1)) 36)=w7:=⟨_,rfl⟩;have hb:=below_allocK hw7.symm;have HX7:=Hq (bxc_alloc hw7.symm);rw[hw7];have HO7:=Hq (owns_kept HOW.out hb (Nat.le_refl _));have HB7:=Hq (HB6.out.trans (hb.mono HB6.out.size));have HD7:=Hq (HDB.out.trans (hb.mono HDB.out.size));clear hb hw7;obtain⟨i0,hi,iz0,iz1,iz2⟩:=info_parts ver_info;refine wpList_append_lies _ rfl (.tmp 97) (.tmp 99) 29 rfl wd.heap.size 36 i0 _ 18 272 Tryz.underlying29 hi iz0 iz1 iz2 rfl (by decide) rv len vs rfl HO7.out ⟨w6.heap.size,0,none⟩ 1 1 (v.vals (.slice A1 n1 c1)) rfl rfl (World.news_of_block HX7.out) v.one (by decide) (by unfold maxLen;omega) (by omega) HD7.out.size _ rfl ?_;intro g cap7 w8 hown8 hgrow8 hat8 hlt8;have hb8:=HD7.out.grown hgrow8 HD7.out.size (fun k e=>(HO7.out.lt k e).1);have HB8:=Hq (HBD.out.trans (hb8.mono HBD.out.size));have HFIN:=Hq (show SlV w8 (some ⟨g,0,none⟩) (l++[v]).length cap7 (l++[v])from by
              have hrow:=(HVB.out.low (fun b h=>(hb8.block b h).trans (HDB.out.block b h).symm)).row;obtain⟨hl8,A8,c8,e8,hs8⟩:=SlV.of_owns hown8 (hrow.snoc (HSL.out.kept HB8.out (Nat.le_refl _)));cases e8;rw[hl8]
              exact hs8)
             clear hown8 hgrow8 hat8 hlt8 hi iz0 iz1 iz2 hb8;go_wp2;go_ret2;exact⟨some ⟨g,0,none⟩,cap7,by show Ending.returned (.tuple #[.slice (some ⟨g,0,none⟩) (len+1) cap7,.int .i64 0])=_;rw[HRA.out];simp[HLEN.out],by rw[HRA.out];exact HFIN.out,HB8.out⟩
       · have q1':(v.num - 1 != u.num)=true:=by simp[q1]
         have HR:=Hq (show addR 0 l v=([],22)from by rw[HAU.out,if_pos q1]);clear q1;go_wp2;go_region;go_wp2;go_ret2;exact⟨none,0,by rw[HR.out];rfl,by rw[HR.out];exact SlV.nil _ 0 (by omega) none,HB2.out.drew⟩
 · have hne:(ck != 0)=true:=by simp[h0]
   have HR:=Hq (show addR ck l v=([],ck)from by unfold addR;rw[if_pos h0]);go_wp2;go_ret2;exact⟨none,0,by rw[HR.out];rfl,by rw[HR.out];exact SlV.nil _ 0 (by omega) none,HB1.out⟩
set_option maxRecDepth 100000
set_option maxHeartbeats 4000000
def Ver.tame(v:Ver):Prop:=¬ 1099511627776<v.fr∧¬ v.fr < -1099511627776∧¬ 1099511627776<v.to∧¬ v.to < -1099511627776∧¬ 1099511627776<v.num
instance (v:Ver):Decidable v.tame:=by unfold Ver.tame;exact inferInstance
theorem load_mid_run{P:Program}{op:Oper}{a:Act}{w:World}(ty:TypeId)(x:Operand)(ho:op.op=.load ty x)(b o:Nat)(hx:a.eval x=.pointer (some ⟨b,o,none⟩))(cs:List Value)(d:TypeDesc)(hc:w.rangeAt b o cs)
 (hu:P.underlying ty=some d) (hd:d.isRow=true) (hi:(P.info? ty).map (·.size)=some cs.length):(execOp a.eval op).run P w=.ok (.value (.agg cs.toArray)) w:=by
 unfold execOp;simp only[ho,hx,Instr.loadAt,Instr.sureAddr,Sem.run_bind,Sem.run_pure,Result.andThen_ok,run_loadVar_mid w b o ty cs d hc hu hd hi]
theorem r58_SameList(l:List Ver)(A A':Option Addr)(len cap len' cap':Nat)(w:World)(hs:SlV w A len cap l)(hs':SlV w A' len' cap' l)(hlen:len≤4096)(hf:FwV l):Calls Tryz.prog 9 #[.slice A len cap,.slice A' len' cap'] w (Ret (.bool true) w):=by
 obtain rfl:len=len':=hs.1.symm.trans hs'.1;have HS:=Hq hs;have HS':=Hq hs';have HLEN:=Hq hs.1;have HF:=Hq hf;have hcap:=hs.2.1;have hcap2:=hs.2.2.1;have hcap':=hs'.2.1;have hcap2':=hs'.2.2.1;clear hs hs' hf;go_enter Tryz.func9,Tryz.ntmps9;go_wp2;go_loopw [5] (fun i wr=>∃(j:Nat),j≤len∧i=.int .i64 j∧Below w.heap.size w wr) (fun i _=>len - (intOf i).toNat);case atStart=>exact⟨0,Nat.zero_le _,rfl,Below.refl _ _⟩
 case round =>
  obtain⟨j,hj,rfl,hbb⟩:=hrel;have HB:=Hq hbb;have HSR:=Hq (HS.out.kept hbb (Nat.le_refl _));have HSR':=Hq (HS'.out.kept hbb (Nat.le_refl _));clear hbb;by_cases hlt:j<len
  · obtain⟨b,o,rfl⟩:=HS.out.head (by omega);obtain⟨b',o',rfl⟩:=HS'.out.head (by omega);obtain⟨v,he⟩:∃ v,l[j]? =some v:=⟨_,List.getElem?_eq_getElem (by rw[HLEN.out];exact hlt)⟩;obtain⟨A1,n1,c1,hvc,hsl⟩:=HSR.out.get? j he;obtain⟨A2,n2,c2,hvc',hsl'⟩:=HSR'.out.get? j he;have hn1:n1≤1000000:=by rw[←hsl.1];exact HF.out j v he
    have HC:=Hq (fun(W:World) (hb:Below wr.heap.size wr W)=>r58_Same v A1 A2 n1 c1 n2 c2 W (hsl.kept hb (Nat.le_refl _)) (hsl'.kept hb (Nat.le_refl _)) hn1);have HRA:=Hq (show wr.drew.rangeAt b (o+j * 18) (v.vals (.slice A1 n1 c1))from hvc);have HRB:=Hq (show wr.drew.rangeAt b' (o'+j * 18) (v.vals (.slice A2 n2 c2))from hvc');clear hvc hvc' hsl hsl' he hn1;go_wp2;refine wp_region_K 10 (Below (wr.drew).heap.size (wr.drew)) (by kernel_rfl) ?_;intro hD;refine qP 0 9 rfl hD (Below.refl _ _) ?_;clear hD;intro hD;simp only[Act.put,sqA,sqB,sqC];refine qP 1 8 rfl hD (Below.refl _ _) ?_;clear hD;intro hD;simp only[Act.put,sqA,sqB,sqC];refine qP 2 7 rfl hD (Below.refl _ _) ?_;clear hD;intro hD;simp only[Act.put,sqA,sqB,sqC];refine wpAnyK_takeS (i:=3) (v:=(.agg (v.vals (.slice A1 n1 c1)).toArray)) (fuel:=6) rfl (by kernel_rfl) (by kernel_rfl) (fun _ _ _ h=>h) hD (Below.refl _ _) (.inl ⟨by kernel_rfl,?y6_3b1⟩) ?n6_3b1;case y6_3b1 =>
     intro w' hS';exact load_mid_run 36 _ rfl b (o+j * 18) rfl _ _ (fun k u hu=>cell_kept hS' (Nat.le_refl _) (HRA.out k u hu)) Tryz.underlying36 rfl (by kernel_rfl)
    clear hD;intro hD;simp only[Act.put,sqA,sqB,sqC];refine qP 4 5 rfl hD (Below.refl _ _) ?_;clear hD;intro hD;simp only[Act.put,sqA,sqB,sqC];refine qP 5 4 rfl hD (Below.refl _ _) ?_;clear hD;intro hD;simp only[Act.put,sqA,sqB,sqC];refine qP 6 3 rfl hD (Below.refl _ _) ?_;clear hD;intro hD;simp only[Act.put,sqA,sqB,sqC];refine wpAnyK_takeS (i:=7) (v:=(.agg (v.vals (.slice A2 n2 c2)).toArray)) (fuel:=2) rfl (by kernel_rfl) (by kernel_rfl) (fun _ _ _ h=>h) hD (Below.refl _ _) (.inl ⟨by kernel_rfl,?y6_7b1⟩) ?n6_7b1;case y6_7b1 =>
     intro w' hS';exact load_mid_run 36 _ rfl b' (o'+j * 18) rfl _ _ (fun k u hu=>cell_kept hS' (Nat.le_refl _) (HRB.out k u hu)) Tryz.underlying36 rfl (by kernel_rfl)
    clear hD;intro hD;simp only[Act.put,sqA,sqB,sqC];refine wpAnyK_one (i:=8) (fuel:=1) (by kernel_rfl) rfl hD ?_;clear hD;intro K8 hK8;go_wp2_with fail;refine(HC.out _ (Below.refl _ _).drew).mono ?_;rintro e w1 ⟨rfl,hb1⟩;have HB8:=Hq (show Below wr.drew.heap.size wr.drew w1 from hb1);clear hb1;go_wp2;refine hK8 _ _ (by exact HB8.out) ?_;clear hK8;intro hS_6_8 hD;have HL:=Hq hS_6_8;refine qP 9 0 rfl hD hS_6_8 ?_;clear hD;intro hD;simp only[Act.put,sqA,sqB,sqC];refine wpAnyK_done (by kernel_rfl) ?_ 0;clear hD;go_wp2;go_roundw;case rel=>exact⟨j+1,by omega,by go_num,HB.out.drew.trans (HL.out.mono HB.out.drew.size)⟩
    case measure=>simp[intOf];omega
  · obtain rfl:j=len:=by omega
    clear hlt hj;go_wp2;go_ret;exact⟨rfl,HB.out⟩
end Go.Proofs.YtamhonjkgkmdbaaGreat
