import Derived.Test.YtmahgbhpdfbbjaaGreatDoorQMrC
import Derived.Test.YtmahgbhpdfbbjaaGreatDoorQTvK
set_option linter.unusedVariables false
set_option linter.unusedSimpArgs false
namespace Go.Proofs.YtmahgbhpdfbbjaaGreatDoor
set_option maxRecDepth 100000
set_option maxHeartbeats 4000000
open Go.RowKit
theorem srt_flt(l:List ByteArray):minL l []=srtN l:=by
 have h:flt l []=l:=List.filter_eq_self.2 (fun x _=>rfl);unfold minL srtN;rw[h]
def RetN2(l:List ByteArray)(w:World)(e:Ending)(w':World):Prop:=∃ A c,e=.returned (.slice A l.length c)∧SlN w' A l.length c l∧Below w.heap.size w w'∧(0<l.length→∀ a,A=some a→w.heap.size≤a.block)
theorem top_sorted(a:List ByteArray)(A:Option Addr)(n c:Nat)(w:World)(h1:SlN w A n c a)(hn:n≤100000)(va:∀ x∈a,nvalid x=true) :
 Calls Tryz.prog 21 #[.slice A n c] w (RetN2 (srtN a) w):=by
 have H1:=Hq h1;have HLA:=Hq h1.1;have hc1:=h1.2.1;have hc2:=h1.2.2.1;have VA:=Hq va;have HFIN:=Hq (fun l (hs:SrtL l) (hp:l.Perm a)=>(minL_eq (b:=[]) va hs (by rw[show flt a []=a from List.filter_eq_self.2 (fun x _=>rfl)];exact hp)).trans (srt_flt a));obtain⟨R,hR⟩:=nm (srtN a);rw[hR];rw[hR]at HFIN;clear h1 va hR;go_enter Tryz.func21,Tryz.ntmps21;go_wp2;go_loopw [3,4] (fun v i wr=>∃(k:Nat) (L:List ByteArray),k≤n∧i=.int .i64 k∧wr.ownsRow w.heap.size 22 1 v L.length (L.map Value.string)∧(SrtL L∧L.Perm (a.take k))∧L.length≤k∧Below w.heap.size w wr) (fun _ i _=>n - (intOf i).toNat);case atStart=>exact⟨0,[],Nat.zero_le _,rfl,World.ownsRow_nil _ _ _ _,⟨List.Pairwise.nil,by rw[List.take_zero]⟩,Nat.zero_le _,Below.refl _ _⟩
 case round =>
  obtain⟨k,L,hk,rfl,hown,hsp,hlk,hbb⟩:=hrel;have HB:=Hq hbb;have HSP:=Hq hsp;have HOWN:=Hq hown;obtain⟨A5,c5,rfl,hs5,hf5⟩:=own_slnA hown;have HF5:=Hq hf5;have hc5:=hs5.2.1;have hc6:=hs5.2.2.1;clear hsp hown hf5;by_cases hlt:k<n
  · obtain⟨x,he⟩:∃ x,a[k]? =some x:=⟨_,List.getElem?_eq_getElem (by rw[HLA.out];exact hlt)⟩;obtain⟨bb,o,rfl⟩:=H1.out.head (by omega);have e0:=(H1.out.kept hbb nlr).get? k he;have HVX:=Hq (VA.out x (List.mem_of_getElem? he));have HFS:=Hq (show a.take (k+1)=a.take k++[x]from by rw[List.take_add_one,he,Option.toList_some]);have HE:=Hq he;clear he hbb hs5;have HPM:=Hq (show (L++[x]).Perm (a.take (k+1))from by rw[HFS.out];exact HSP.out.2.append_right _);go_wp2_with (at_builtin;go_must (refine wpList_append_sl w _ rfl (.tmp 14) (.tmp 19) rfl w.heap.size _ L.length L rfl (HOWN.out.alloc (.cells #[.string x] 22)) (some ⟨wr.heap.size,0,none⟩) 1 1 [x] rfl (SlN.new wr [x] 22 (by simp)) (by omega) (HB.out.alloc HB.out.size _) (by have:=HB.out.size;simp;omega) ?_));intro v2 w2 hown hb hsz;obtain⟨g,cap,rfl,hg,hgl⟩:=hown.form (by omega);have HO2:=Hq (show OwnN w2 w.heap.size g (L.length+1) cap (L++[x])from by unfold OwnN;rw[List.map_append];exact hown);have HB2:=Hq hb;have hcp:=HO2.out.parts.2.2.1;have hcp2:=HO2.out.parts.2.2.2.1;clear hown hb hsz e0 hg hgl;go_wp2;go_loopw [5] (fun kv wx=>∃(K:Nat) (M:List ByteArray),K≤L.length∧kv=.int .i64 K∧OwnN wx w.heap.size g (L.length+1) cap M∧Bub L x M K∧Below w.heap.size w wx) (fun kv _=>(intOf kv).toNat);case atStart=>exact⟨L.length,L++[x],Nat.le_refl _,rfl,HO2.out,bub_start _ _,HB2.out⟩
    case round =>
     obtain⟨K,M,hK,rfl,hom,hbu,hbx⟩:=hrel;have HOM:=Hq hom;have HBU:=Hq hbu;have HBX:=Hq hbx;have HML:=Hq (bub_len hbu);obtain⟨wd,hwd⟩:=nm (wr.drew);have hod:OwnN wd w.heap.size g (L.length+1) cap M:=by rw[←hwd];exact hom.drew
     have HOD:=Hq hod;have HBD:=Hq (show Below w.heap.size w wd from by rw[←hwd];exact hbx.drew);have m0:=hod.parts.2.2.2.2.2.2.1 K x HML.out.2.2.1;clear hom hbu hbx hod;rcases Nat.eq_zero_or_pos K with hz | hz
     · subst hz;have HSS:=Hq (bub_done HBU.out HSP.out.1 (.inl rfl));go_wp2;refine wp_region_K 15 (Below (wd).heap.size (wd)) (by kernel_rfl) ?_;rw[hwd];refine rPs 0 21 14 blr ?_;refine rPs 1 22 13 blr ?_;refine rPs 2 23 12 blr ?_;refine rUs 3 24 11 blr ?_;refine rUs 4 25 10 blr ?_;refine rUs 5 26 9 blr ?_;refine rUs 6 27 8 blr ?_;refine rUs 7 28 7 blr ?_;refine rUs 8 29 6 blr ?_;refine rUs 9 30 5 blr ?_;refine rUs 10 31 4 blr ?_;refine rUs 11 32 3 blr ?_;refine rUs 12 33 2 blr ?_;refine rUs 13 34 1 blr ?_;refine rPs 14 35 0 blr ?_;refine wDn ?_;clear m0;go_wp2;go_roundw;case rel=>exact⟨k+1,M,by omega,by go_num,by have h:=HOD.out;unfold OwnN at h;rw[HML.out.1];exact h,⟨HSS.out,HML.out.2.2.2.trans HPM.out⟩,by have:=HML.out.1;omega,HBD.out⟩
       case measure=>simp[intOf];omega
     · obtain⟨J,rfl⟩:∃ J,K=J+1:=⟨K - 1,by omega⟩;obtain⟨y,hy⟩:∃ y,M[J]? =some y:=⟨_,List.getElem?_eq_getElem (by have:=HML.out.1;omega)⟩;have m1:=HOD.out.parts.2.2.2.2.2.2.1 J y hy;have HY:=Hq hy;have hvy:nvalid y=true:=(by have h3:=(HML.out.2.2.2.trans HPM.out).mem_iff.1 (List.mem_of_getElem? hy);exact VA.out y (List.mem_of_mem_take h3));have HVY:=Hq hvy;have HC:=Hq (nat_Cmp x y (by have:=size_valid HVX.out;omega) (by have:=size_valid hvy;omega) wd);rw[ncmp_num HVX.out hvy]at HC;have hjj:((J+1:Nat):Int)=(J:Int)+1:=rfl;have hj1:(J:Int)+1 - 1=J:=by omega
       have hw1:IntKind.i64.wrap (J:Int)=J:=by rw[IntKind.wrap_i64];omega
       have hj0:(0:Int)<(J:Int)+1:=by omega
       have hj2:((J:Int)+1).toNat=J+1:=by omega
       have hj3:(J:Int)+1<(L.length:Int)+1:=by omega
       have hj4:(J:Int)<(L.length:Int)+1:=by omega
       have hj5:(0:Int)≤(J:Int)+1:=by omega
       rw[hjj];clear hy hvy;go_wp2;refine wp_region_K 15 (Below (wd).heap.size (wd)) (by kernel_rfl) ?_;rw[hwd];refine rPs 0 21 14 blr ?_;refine rPs 1 22 13 blr ?_;refine rPs 2 23 12 blr ?_;refine rPs 3 24 11 blr ?_;refine rPs 4 25 10 blr ?_;refine rPs 5 26 9 blr ?_;refine rTs 6 27 8 blr (k2 m0 m1) ?_;refine rPs 7 28 7 blr ?_;refine rPs 8 29 6 blr ?_;refine rPs 9 30 5 blr ?_;refine rPs 10 31 4 blr ?_;refine rTs 11 32 3 blr (k2 m0 m1) ?_;refine rO 12 2 ?_;intro K12 hK12;go_wp2_with fail;refine(show Calls _ _ _ _ _ from HC.out).mono ?_;rintro ev w8 ⟨rfl,hw8⟩;have HB12:=Hq (show Below wd.heap.size wd w8 from by rw[hw8];exact Below.refl _ _);clear hw8;go_wp2;refine hK12 _ _ (by exact HB12.out) ?_;clear hK12;intro hS_7_12;refine rPs 13 34 1 hS_7_12 ?_;refine rPs 14 35 0 hS_7_12 ?_;refine wDn ?_;clear m0 m1;have HO8:=Hq (HOD.out.kept HB12.out nlr);have HB8:=bTr HBD HB12.out;by_cases hl:num x<num y
       · have h0:cmpI (num x) (num y)<0:=cmpI_neg.2 hl;obtain⟨cc,hcc⟩:=nm (cmpI (num x) (num y));rw[hcc]at h0⊢;have HBS:=Hq (bub_step HBU.out HY.out hl);clear hcc hl;obtain⟨we,hwe⟩:=nm (w8.drew);have hoe:OwnN we w.heap.size g (L.length+1) cap M:=by rw[←hwe];exact HO8.out.drew
         have HOE:=Hq hoe;have HBE:=Hq (show Below w.heap.size w we from by rw[←hwe];exact HB8.out.drew);have m0:=hoe.parts.2.2.2.2.2.2.1 (J+1) x HML.out.2.2.1;have m1:=hoe.parts.2.2.2.2.2.2.1 J y HY.out;have f0:=hoe.parts.2.2.2.2.2.2.2 (J+1);have HO9:=Hq ((hoe.set (J+1) y).set J x);have f1:=(hoe.set (J+1) y).parts.2.2.2.2.2.2.2 J;have HB9:=Hq ((HBE.out.setCell (p:=⟨g,J+1,none⟩) hoe.parts.2.1 (.string y)).setCell (p:=⟨g,J,none⟩) hoe.parts.2.1 (.string x));clear hoe;go_wp2;refine wp_region_K 15 (Eq we) (by kernel_rfl) ?_;rw[hwe];refine qPDs 0 36 17 rfl ?_;refine qPDs 1 37 16 rfl ?_;refine qPDs 2 38 15 rfl ?_;refine qPDs 3 39 14 rfl ?_;refine qPDs 4 40 13 rfl ?_;refine qPDs 5 41 12 rfl ?_;refine qPDs 6 42 11 rfl ?_;refine qPDs 7 43 10 rfl ?_;refine qPDs 8 44 9 rfl ?_;refine qTDs 9 45 8 rfl (fun w' hS'=>(And.intro ((hS'▸m0)) ((hS'▸m1)))) ?_;refine qPDs 10 46 7 rfl ?_;refine qPDs 11 47 6 rfl ?_;refine qPDs 12 48 5 rfl ?_;refine qTDs 13 49 4 rfl (fun w' hS'=>(And.intro ((hS'▸m0)) ((hS'▸m1)))) ?_;refine qPDs 14 50 3 rfl ?_;refine oT 15 2 ?_;intro K15 hK15;go_wp2;refine hK15 _ _ ?_;clear hK15;intro hD;refine wpAnyK_pureTD (i:=16) (d:=some 51) (v:=?v8_16b3) (fuel:=1) rfl (by kernel_rfl) (by kernel_rfl) (by kernel_rfl) (fun _ _ _ h=>h) hD (.inl ⟨by kernel_rfl,?y8_16b3⟩) ?n8_16b3
         case y8_16b3=>intro w' _;go_simp;with_reducible rfl
         simp only[Act.put,sqA,sqB,sqC];refine oT 17 0 ?_;intro K17 hK17;go_wp2;refine hK17 _ _ ?_;clear hK17;refine wDn ?_;clear m0 m1 f0 f1;go_wp2;go_roundw;case rel=>exact⟨J,_,by omega,(by first | rfl | go_num),HO9.out,HBS.out,HB9.out⟩
         case measure=>simp[intOf]<;>omega
       · have h0:¬ (cmpI (num x) (num y)<0):=fun h=>hl (cmpI_neg.1 h);obtain⟨cc,hcc⟩:=nm (cmpI (num x) (num y));rw[hcc]at h0⊢;have HSS:=Hq (bub_done HBU.out HSP.out.1 (.inr ⟨y,HY.out,by omega⟩));clear hcc hl;go_wp2;go_roundw;case rel=>exact⟨k+1,M,by omega,by go_num,by have h:=HO8.out;unfold OwnN at h;rw[HML.out.1];exact h,⟨HSS.out,HML.out.2.2.2.trans HPM.out⟩,by have:=HML.out.1;omega,HB8.out⟩
         case measure=>simp[intOf];omega
  · obtain rfl:k=n:=by omega
    have HRR:=Hq (HFIN.out L HSP.out.1 (by have:=HSP.out.2;rwa[List.take_of_length_le (by have:=HLA.out;omega)]at this));have HSL:=Hq hs5;go_wp2;go_ret;exact⟨A5,c5,by rw[←HRR.out];rfl,by rw[←HRR.out];exact HSL.out,HB.out,by rw[←HRR.out];exact fun h0 a ha=>(HF5.out h0 a ha).1⟩
structure Two (w:World) (base:Nat) (v:Value) (l:List ByteArray) (v2:Value) (m:List ByteArray):Prop where
 a:w.ownsRow base 22 1 v l.length (l.map Value.string)
 b:w.ownsRow base 22 1 v2 m.length (m.map Value.string)
 ne:v2.ownBlock=none∨v2.ownBlock≠v.ownBlock
theorem Two.nil(w:World)(base:Nat):Two w base (.slice none 0 0) [] (.slice none 0 0) []:=⟨World.ownsRow_nil _ _ _ _,World.ownsRow_nil _ _ _ _,.inl rfl⟩
theorem Two.swap{w:World}{base:Nat}{v v2:Value}{l m:List ByteArray}(h:Two w base v l v2 m):Two w base v2 m v l:=by
 refine⟨h.b,h.a,?_⟩;rcases h.ne with e | e
 · cases hv:v.ownBlock with
   | none=>exact .inl rfl
   | some k=>exact .inr (by rw[e];simp)
 · exact .inr (fun c=>e c.symm)
theorem Two.alloc{w:World}{base:Nat}{v v2:Value}{l m:List ByteArray}(h:Two w base v l v2 m)(o:Obj):Two (w.alloc o) base v l v2 m:=⟨h.a.alloc o,h.b.alloc o,h.ne⟩
theorem Two.kept{w w':World}{B base:Nat}{v v2:Value}{l m:List ByteArray}(h:Two w base v l v2 m)(hb:Below B w w')(hB:w.heap.size≤B):Two w' base v l v2 m:=⟨owns_kept h.a hb hB,owns_kept h.b hb hB,h.ne⟩
theorem wpList_push2(w0 w:World){ops:Array Oper}{rest:List Oper}{o:Oper}{a:Act}{Q:Exit→Act→World→Prop}(hg:o.guard=none)(s x:Operand)(hop:o.op=Op.call { callee:=Callee.builtin Builtin.append,args:=#[s,x],argTypes:=#[25,25] })
 (base:Nat) (v v2:Value) (l m:List ByteArray) (hs:a.eval s=v) (hT:Two w base v l v2 m) (y:ByteArray) (b:Nat) (hx:a.eval x=.slice (some ⟨b,0,none⟩) 1 1) (hc:w.cell? ⟨b,0,none⟩=some (.string y)) (hn:l.length≤4000000) (hb:Below base w0 w) (hbase:base≤w.heap.size)
 (hK:∀ v' w',Two w' base v' (l++[y]) v2 m→Below base w0 w'→base≤w'.heap.size→wpList Tryz.prog ops Q rest (a.put o.dst v') w'):wpList Tryz.prog ops Q (o::rest) a w:=by
 obtain⟨i0,hi,iz0,iz1,iz2⟩:=info_parts nat_info;refine wpList_append_own_at w hg s x 25 hop base 22 i0 _ 1 16 Tryz.underlying25 hi iz0 iz1 iz2 rfl (by decide) v l.length (l.map Value.string) hs hT.a ⟨b,0,none⟩ 1 1 [.string y] hx rfl ?_ (strs_one [y]) (by unfold maxLen;omega) (by omega) hbase ?_
 · intro j u hj
   match j,hj with
   | 0,hj=>cases hj;exact hc
 · intro v' w' hown' hgrow _ hat;refine hK v' w' ⟨by rw[List.length_append,List.map_append];exact hown',hT.b.kept hgrow hT.ne,?_⟩ (hb.grown hgrow hbase (fun k hk=>(hT.a.lt k hk).1)) (Nat.le_trans hbase hgrow.size);rcases hat with e | e
   · rw[e];exact hT.ne
   · cases hv:v2.ownBlock with
     | none=>exact .inl rfl
     | some k =>
      have:=(hT.b.lt k hv).2;exact .inr (by rw[e];simp;omega)
structure Thr (w:World) (base:Nat) (v:Value) (l:List ByteArray) (v2:Value) (m:List ByteArray) (v3:Value) (r:List ByteArray):Prop where
 x:Two w base v l v2 m
 y:Two w base v l v3 r
 z:Two w base v2 m v3 r
theorem Thr.alloc{w:World}{base:Nat}{v v2 v3:Value}{l m r:List ByteArray}(h:Thr w base v l v2 m v3 r)(o:Obj):Thr (w.alloc o) base v l v2 m v3 r:=⟨h.x.alloc o,h.y.alloc o,h.z.alloc o⟩
theorem Thr.kept{w w':World}{B base:Nat}{v v2 v3:Value}{l m r:List ByteArray}(h:Thr w base v l v2 m v3 r)(hb:Below B w w')(hB:w.heap.size≤B):Thr w' base v l v2 m v3 r:=⟨h.x.kept hb hB,h.y.kept hb hB,h.z.kept hb hB⟩
theorem Thr.swap{w:World}{base:Nat}{v v2 v3:Value}{l m r:List ByteArray}(h:Thr w base v l v2 m v3 r):Thr w base v2 m v l v3 r:=⟨h.x.swap,h.z,h.y⟩
theorem Thr.of{w:World}{base:Nat}{v v3:Value}{l r:List ByteArray}(h:Two w base v l v3 r):Thr w base v l (.slice none 0 0) [] v3 r:=
 ⟨⟨h.a,World.ownsRow_nil _ _ _ _,.inl rfl⟩,h,(Two.mk h.b (World.ownsRow_nil _ _ _ _) (.inl rfl)).swap⟩
theorem owns_low{w:World}{base C k n:Nat}{e:TypeId}{v:Value}{l:List Value}(h:w.ownsRow base e 1 v n l)(hC:C<base)(u:Value):(w.setCell ⟨C,k,none⟩ u).ownsRow base e 1 v n l:=by
 refine⟨h.1,?_⟩;rcases h.2 with hn | ⟨g,cap,cur,rfl,hb,hgg,rest⟩
 · exact .inl hn
 · exact .inr ⟨g,cap,cur,rfl,hb,(heap_setCell_other _ _ _ _ (by show g≠C;omega)).trans hgg,rest⟩
theorem Two.low{w:World}{base C k:Nat}{v v2:Value}{l m:List ByteArray}(h:Two w base v l v2 m)(hC:C<base)(u:Value):Two (w.setCell ⟨C,k,none⟩ u) base v l v2 m:=⟨owns_low h.a hC u,owns_low h.b hC u,h.ne⟩
theorem Thr.low{w:World}{base C k:Nat}{v v2 v3:Value}{l m r:List ByteArray}(h:Thr w base v l v2 m v3 r)(hC:C<base)(u:Value):Thr (w.setCell ⟨C,k,none⟩ u) base v l v2 m v3 r:=⟨h.x.low hC u,h.y.low hC u,h.z.low hC u⟩
theorem wpList_push3(w0 w:World){ops:Array Oper}{rest:List Oper}{o:Oper}{a:Act}{Q:Exit→Act→World→Prop}(hg:o.guard=none)(s x:Operand)(hop:o.op=Op.call { callee:=Callee.builtin Builtin.append,args:=#[s,x],argTypes:=#[25,25] })
 (base:Nat) (v v2 v3:Value) (l m r:List ByteArray) (hs:a.eval s=v) (hT:Thr w base v l v2 m v3 r) (y:ByteArray) (b:Nat) (hx:a.eval x=.slice (some ⟨b,0,none⟩) 1 1) (hc:w.cell? ⟨b,0,none⟩=some (.string y)) (hn:l.length≤4000000) (hb:Below base w0 w) (hbase:base≤w.heap.size)
 (hK:∀ v' w',Thr w' base v' (l++[y]) v2 m v3 r→Below base w0 w'→base≤w'.heap.size→wpList Tryz.prog ops Q rest (a.put o.dst v') w'):wpList Tryz.prog ops Q (o::rest) a w:=by
 obtain⟨i0,hi,iz0,iz1,iz2⟩:=info_parts nat_info;refine wpList_append_own_at w hg s x 25 hop base 22 i0 _ 1 16 Tryz.underlying25 hi iz0 iz1 iz2 rfl (by decide) v l.length (l.map Value.string) hs hT.x.a ⟨b,0,none⟩ 1 1 [.string y] hx rfl ?_ (strs_one [y]) (by unfold maxLen;omega) (by omega) hbase ?_
 · intro j u hj
   match j,hj with
   | 0,hj=>cases hj;exact hc
 · intro v' w' hown' hgrow _ hat;have ho:w'.ownsRow base 22 1 v' (l++[y]).length ((l++[y]).map Value.string):=by rw[List.length_append,List.map_append];exact hown'
   have hne:∀(u:Value) (n:List ByteArray),Two w base v l u n→u.ownBlock=none∨u.ownBlock≠v'.ownBlock:=by
    intro u n h;rcases hat with e | e
    · rw[e];exact h.ne
    · cases hv:u.ownBlock with
      | none=>exact .inl rfl
      | some k =>
       have:=(h.b.lt k hv).2;exact .inr (by rw[e];simp;omega)
   have k2:=hT.x.b.kept hgrow hT.x.ne;have k3:=hT.y.b.kept hgrow hT.y.ne;exact hK v' w' ⟨⟨ho,k2,hne _ _ hT.x⟩,⟨ho,k3,hne _ _ hT.y⟩,⟨k2,k3,hT.z.ne⟩⟩ (hb.grown hgrow hbase (fun k hk=>(hT.x.a.lt k hk).1)) (Nat.le_trans hbase hgrow.size)
end Go.Proofs.YtmahgbhpdfbbjaaGreatDoor
