import Derived.Test.YtfbmbledklbfgaaGreatQEncF
set_option linter.unusedVariables false
set_option linter.unusedSimpArgs false
namespace Go.Proofs.YtfbmbledklbfgaaGreat
set_option maxRecDepth 100000
set_option maxHeartbeats 4000000
open Go.RowKit
theorem r08_Write(N:Nat):∀(x:It) (v:Value) (w:World) (ok:Nat→Prop),x.nodes≤N→x.weight≤1000000000→ItAt w ok v x→Calls Tryz.prog 117 #[v] w (Ret (.string (bstr x.bytes)) w):=by
 induction N with
 | zero=>intro x v w ok h;have:=x.nodes_pos;omega
 | succ N ih =>
  intro x v w ok hN hM ⟨A,len,cap,hv,hs⟩;subst hv;have IH:=Hq ih;clear ih
  cases x with
  | mk q n t l =>
   simp only[It.kind,It.nat,It.text,It.list]at *;simp only[It.nodes,It.weight]at hN hM;have hlen:=hs.1;have hcap:=hs.2.2.1;have hlc:=hs.2.1;have hs0:=hs.bound;have HS0:=Hq hs0;have HLEN:=Hq hlen;have HN:=Hq hN;have HM:=Hq hM;obtain⟨pre,hpre⟩:∃ pre,n.data.toList++t.data.toList=pre:=⟨_,rfl⟩;have hpl:pre.length=n.size+t.size:=by rw[←hpre,List.length_append,data_len,data_len]
   have hadd0:∀ w,(Op.stringOp .add n t).run Tryz.prog w=.ok (.string (bstr pre)) w:=fun w=>by
    rw[run_string_add_sum w _ _ (by omega),←bstr_of n,←bstr_of t,bstr_append,hpre]
   have HPRE:=Hq hpre;have HPL:=Hq hpl;clear hs hs0 hlen hN hM hpre hpl;obtain⟨W0,hW0⟩:∃ W0,w.alloc (.cells #[.int .i64 q,.string n,.string t,.slice A len cap] 106)=W0:=⟨_,rfl⟩;have hbox:W0.heap[w.heap.size]? =some (.cells #[.int .i64 q,.string n,.string t,.slice A len cap] 106 (0,0)):=by rw[←hW0];exact heap_alloc_new _ _
   have hbl:Below w.heap.size w W0:=by rw[←hW0];exact(blr).alloc nlr _
   have HBOX:=Hq hbox;have HBL:=Hq hbl;have HW0:=Hq hW0;clear hbox hbl hW0;go_enter Tryz.func117,Tryz.ntmps117;go_wp2;clear hadd0;rw[HW0.out];go_loopw [3,4] (fun s i wr=>∃ k:Nat,k≤len∧i=.int .i64 k∧s=.string (bstr (pre++Its.bytes (l.take k)))∧Below (w.heap.size+1) W0 wr) (fun _ i _=>len - (intOf i).toNat);case atStart=>exact⟨0,Nat.zero_le _,rfl,by simp[Its.bytes],Below.refl _ _⟩
   case round =>
    obtain⟨k,hk,rfl,rfl,hB⟩:=hrel;have hbox1:wr.heap[w.heap.size]? =_:=(hB.block _ (by omega)).trans HBOX.out;obtain⟨b0,b1,b2,b3⟩:=four_cells hbox1;have hz1:w.heap.size+1≤wr.heap.size:=block_lt hbox1;have hs1:=HS0.out.keep (fun b hb _=>(hB.block b (by omega)).trans (HBL.out.block b hb.2));have HB:=Hq hB;clear hB hbox1;by_cases hlt:k<len
    · obtain⟨b,o,rfl⟩:=hs1.head (by omega);obtain⟨y,hy⟩:∃ y,l[k]? =some y:=⟨_,List.getElem?_eq_getElem (by rw[HLEN.out];exact hlt)⟩;obtain⟨A1,len1,cap1,c0,c1,c2,c3,hs2⟩:=(hs1.get? k hy).open;have hyN:y.nodes≤N:=by have:=Its.mem_nodes (List.mem_of_getElem? hy);have:=HN.out;omega
      have hyM:y.weight≤1000000000:=by have:=Its.mem_weight (List.mem_of_getElem? hy);have:=HM.out;omega
      have hadd:∀ w,(Op.stringOp .add (bstr (pre++Its.bytes (l.take k))) (bstr y.bytes)).run Tryz.prog w=.ok (.string (bstr (pre++Its.bytes (l.take (k+1))))) w:=fun w=>by
       have h1:=bytes_take_le l (k+1);rw[bytes_take_step hy,List.length_append]at h1;have h2:=HPL.out;have h3:=HM.out;rw[run_string_add_sum w _ _ (by rw[bstr_size,bstr_size,List.length_append];omega),bstr_append,List.append_assoc,←bytes_take_step hy]
      have HS2:=Hq hs2;have HY:=Hq hy;clear hs1 hs2 hy;go_wp2_with fail;refine(IH.out y _ _ _ hyN hyM ⟨A1,len1,cap1,rfl,HS2.out⟩).mono ?_;rintro e w3 ⟨rfl,hb3⟩;have HB3:=Hq hb3;clear hb3;go_wp2;go_roundw;case rel=>exact⟨k+1,by omega,by go_num,rfl,HB.out.trans (HB3.out.mono (by omega))⟩
      case measure=>simp[intOf];omega
    · obtain rfl:k=len:=by omega
      rw[List.take_of_length_le (by have:=HLEN.out;omega)];obtain⟨body,hbody⟩:∃ body,pre++Its.bytes l=body:=⟨_,rfl⟩;rw[hbody];have hbl:body.length≤1000000000:=by
       rw[←hbody,List.length_append];have h1:=Its.bytes_le l;have h2:=HPL.out;have h3:=HM.out;omega
      have HBODY:=Hq hbody;clear hs1 hbody;go_wp2;obtain⟨wd,hwd⟩:∃ wd,wr.drew=wd:=⟨_,rfl⟩;have d0:wd.cell? ⟨w.heap.size,0,none⟩=some (.int .i64 q):=by rw[←hwd];exact b0
      have HBD:=Hq (show Below w.heap.size w wd from by rw[←hwd];exact((HBL.out.trans (HB.out.mono (by omega))).drew));have hzd:w.heap.size+1≤wd.heap.size:=by rw[←hwd];exact hz1
      obtain⟨cb,hcb⟩:∃ cb:UInt8,UInt8.ofNat (q%256).toNat=cb:=⟨_,rfl⟩;have hq:q%256=(cb.toNat:Int):=by rw[←hcb,toNat_small (by omega)];omega
      have hlb:=lenF_length 10 body.length;have hbs:=bstr_size body;have hadd1:∀ w,(Op.stringOp .add (bstr [cb]) (bstr (lenB body.length))).run Tryz.prog w=.ok (.string (bstr (cb::lenB body.length))) w:=fun w=>by
       rw[run_string_add_sum w _ _ (by rw[bstr_size,bstr_size];unfold lenB;simp;omega),bstr_append];rfl
      have hadd2:∀ w,(Op.stringOp .add (bstr (cb::lenB body.length)) (bstr body)).run Tryz.prog w=.ok (.string (bstr (cb::(lenB body.length++body)))) w:=fun w=>by
       rw[run_string_add_sum w _ _ (by rw[bstr_size,bstr_size];unfold lenB;simp;omega),bstr_append];rfl
      have hfin:=Hq (show (It.mk q n t l).bytes=cb::(lenB body.length++body)from by
       simp only[It.bytes];have e:n.data.toList++(t.data.toList++Its.bytes l)=body:=by rw[←List.append_assoc,HPRE.out,HBODY.out]
       rw[e,hcb])
      have HQ:=Hq hq;have HCB:=Hq hcb;have HWD:=Hq hwd;clear hq hcb hlb b0 b1 b2 b3;refine wp_region_K 12 (KeepB (w.heap.size+1) wd) (by kernel_rfl) ?_;intro hD;rw[hwd];refine qP 0 11 rfl hD (KeepB.refl (w.heap.size+1) wd) ?_;clear hD;intro hD;refine qS 1 10 rfl hD (KeepB.refl (w.heap.size+1) wd) (by intro w' hS';have e0:=hS'.cells _ _ d0;go_simp;with_reducible rfl) ?_;clear hD;intro hD;refine qP 2 9 rfl hD (KeepB.refl (w.heap.size+1) wd) ?_;clear hD;intro hD;refine qP 5 8 rfl hD (KeepB.refl (w.heap.size+1) wd) ?_;clear hD;intro hD;refine qP 6 7 rfl hD (KeepB.refl (w.heap.size+1) wd) ?_;clear hD;intro hD;refine qP 9 6 rfl hD (KeepB.refl (w.heap.size+1) wd) ?_;clear hD;intro hD;simp only[Act.put,sqA,sqB,sqC];refine wpAnyK_two (i:=3) (i':=7) (fuel:=5) (by kernel_rfl) rfl rfl hD ?_ ?_ 
      · unfold StepK;clear hD;intro K3 hK3;go_wp2;refine hK3 _ _ (by exact KeepB.alloc (KeepB.refl (w.heap.size+1) wd) (Nat.le_trans hzd ((KeepB.refl (w.heap.size+1) wd)).below.size) _) ?_;clear hK3;intro hS_6_3 hD;have hG:=keep_new hS_6_3;refine wpAnyK_two (i:=4) (i':=7) (fuel:=4) (by kernel_rfl) rfl rfl hD ?_ ?_ 
        · unfold StepK;clear hD;intro K4 hK4;have hcv:=conv_cell hG HQ.out;go_wp2;refine hK4 _ _ (by exact hS_6_3) ?_;clear hK4;intro hS_6_4_3 hD;refine rO 7 3 rfl hD ?_;clear hD;intro K7 hK7;go_wp2_with fail;refine(r08_Length body.length _ (by omega)).mono ?_;rintro e w6 ⟨rfl,hb6⟩;have HB6:=Hq hb6;clear hb6;try (replace hG:=kc HB6.out hG)
          go_wp2;refine hK7 _ _ (by exact(hS_6_4_3).trans (KeepB.of HB6.out nlr (Nat.le_trans hzd (hS_6_4_3).below.size))) ?_;clear hK7;intro hS_6_7_3_4 hD;refine qP 8 2 rfl hD hS_6_7_3_4 ?_;clear hD;intro hD;refine qP 10 1 rfl hD hS_6_7_3_4 ?_;clear hD;intro hD;simp only[Act.put,sqA,sqB,sqC];refine rO 11 0 rfl hD ?_;clear hD;intro K11 hK11;go_wp2;refine hK11 _ _ (by exact hS_6_7_3_4) ?_;clear hK11;intro hS_6_11_3_4 hD;refine wpAnyK_done (by kernel_rfl) ?_ 0;go_wp2;go_ret;exact⟨by rw[hfin.out];rfl,HBD.out.trans ((hS_6_11_3_4).below.mono (by omega))⟩
        · unfold StepK;clear hD;intro K7 hK7;go_wp2_with fail;refine(r08_Length body.length _ (by omega)).mono ?_;rintro e w6 ⟨rfl,hb6⟩;have HB6:=Hq hb6;clear hb6;try (replace hG:=kc HB6.out hG)
          go_wp2;refine hK7 _ _ (by exact(hS_6_3).trans (KeepB.of HB6.out nlr (Nat.le_trans hzd (hS_6_3).below.size))) ?_;clear hK7;intro hS_6_7_3 hD;refine rO 4 3 rfl hD ?_;clear hD;intro K4 hK4;have hcv:=conv_cell hG HQ.out;go_wp2;refine hK4 _ _ (by exact hS_6_7_3) ?_;clear hK4;intro hS_6_4_3_7 hD;refine qP 8 2 rfl hD hS_6_4_3_7 ?_;clear hD;intro hD;refine qP 10 1 rfl hD hS_6_4_3_7 ?_;clear hD;intro hD;simp only[Act.put,sqA,sqB,sqC];refine rO 11 0 rfl hD ?_;clear hD;intro K11 hK11;go_wp2;refine hK11 _ _ (by exact hS_6_4_3_7) ?_;clear hK11;intro hS_6_11_3_7 hD;refine wpAnyK_done (by kernel_rfl) ?_ 0;go_wp2;go_ret;exact⟨by rw[hfin.out];rfl,HBD.out.trans ((hS_6_11_3_7).below.mono (by omega))⟩
      · unfold StepK;clear hD;intro K7 hK7;go_wp2_with fail;refine(r08_Length body.length _ (by omega)).mono ?_;rintro e w6 ⟨rfl,hb6⟩;have HB6:=Hq hb6;clear hb6;try (replace hG:=kc HB6.out hG)
        go_wp2;refine hK7 _ _ (by exact((KeepB.refl (w.heap.size+1) wd)).trans (KeepB.of HB6.out nlr (Nat.le_trans hzd ((KeepB.refl (w.heap.size+1) wd)).below.size))) ?_;clear hK7;intro hS_6_7 hD;refine rO 3 4 rfl hD ?_;clear hD;intro K3 hK3;go_wp2;refine hK3 _ _ (by exact KeepB.alloc hS_6_7 (Nat.le_trans hzd (hS_6_7).below.size) _) ?_;clear hK3;intro hS_6_3_7 hD;have hG:=keep_new hS_6_3_7;refine rO 4 3 rfl hD ?_;clear hD;intro K4 hK4;have hcv:=conv_cell hG HQ.out;go_wp2;refine hK4 _ _ (by exact hS_6_3_7) ?_;clear hK4;intro hS_6_4_7 hD;refine qP 8 2 rfl hD hS_6_4_7 ?_;clear hD;intro hD;refine qP 10 1 rfl hD hS_6_4_7 ?_;clear hD;intro hD;simp only[Act.put,sqA,sqB,sqC];refine rO 11 0 rfl hD ?_;clear hD;intro K11 hK11;go_wp2;refine hK11 _ _ (by exact hS_6_4_7) ?_;clear hK11;intro hS_6_11_7 hD;refine wpAnyK_done (by kernel_rfl) ?_ 0;go_wp2;go_ret;exact⟨by rw[hfin.out];rfl,HBD.out.trans ((hS_6_11_7).below.mono (by omega))⟩
def encS(x:It):ByteArray×Int:=
 if x.valid=false then(⟨#[]⟩,3)else if 32<x.depth then(⟨#[]⟩,7)else if 65536<x.bytes.length then(⟨#[]⟩,5)else(bstr x.bytes,0)
def RetSE(r:ByteArray×Int)(w:World)(e:Ending)(w':World):Prop:=e=.returned (.tuple #[.string r.1,.int .i64 r.2])∧Below w.heap.size w w'
theorem enc_Encode(x:It)(v:Value)(w:World)(ok:Nat→Prop)(hM:x.weight≤1000000000)(hx:ItAt w ok v x):Calls Tryz.prog 49 #[v] w (RetSE (encS x) w):=by
 obtain⟨A,len,cap,rfl,hs⟩:=hx;have hbd:=x.bytes_le;have hdd:=Nat.le_trans x.depth_le x.nodes_le;obtain⟨w1,hw1⟩:∃ w1,w.alloc (.cells #[.int .i64 x.kind,.string x.nat,.string x.text,.slice A len cap] 106)=w1:=⟨_,rfl⟩;have hbox:w1.heap[w.heap.size]? =some (.cells #[.int .i64 x.kind,.string x.nat,.string x.text,.slice A len cap] 106 (0,0)):=by rw[←hw1];exact heap_alloc_new _ _
 have hb1:Below w.heap.size w w1:=by rw[←hw1];exact(blr).alloc nlr _
 have hi1:ItAt w1 (fun b=>ok b∧b<w.heap.size) (.agg #[.int .i64 x.kind,.string x.nat,.string x.text,.slice A len cap]) x:=⟨A,len,cap,rfl,hs.bound.below hb1 nlr⟩;have HI1:=Hq hi1;have HB1:=Hq hb1;have HBOX:=Hq hbox;have HW1:=Hq hw1;obtain⟨b0,b1,b2,b3⟩:=four_cells hbox;clear hi1 hb1 hbox hw1 hs;have hz1:w.heap.size+1≤w1.heap.size:=block_lt HBOX.out
 cases hv:x.valid with
 | false =>
  have hr:encS x=(⟨#[]⟩,3):=by simp[encS,hv]
  rw[hr];have HV:=Hq hv;clear hr hv;go_enter Tryz.func49,Tryz.ntmps49;go_wp2_with fail;rw[HW1.out];refine(enc_valid _ x _ _ _ nlr (by omega) HI1.out).mono ?_;rintro e w2 ⟨rfl,hb2⟩;rw[HV.out];go_wp2;go_ret2;exact⟨rfl,HB1.out.trans (hb2.mono (by omega))⟩
 | true =>
  have HV:=Hq hv;by_cases hd:32<x.depth
  · have hr:encS x=(⟨#[]⟩,7):=by simp[encS,hv,hd]
    rw[hr];clear hr hv;go_enter Tryz.func49,Tryz.ntmps49;go_wp2_with fail;rw[HW1.out];refine(enc_valid _ x _ _ _ nlr (by omega) HI1.out).mono ?_;rintro e w2 ⟨rfl,hb2⟩;rw[HV.out];have HB2:=Hq hb2;obtain⟨q0,q1,q2,q3⟩:=four_cells (block_kept hb2 nlr HBOX.out);have hz2:=hb2.size;clear hb2 b0 b1 b2 b3;go_wp2_with fail;refine(enc_depth _ x _ _ _ nlr (by omega) (HI1.out.below HB2.out nlr)).mono ?_;rintro e w3 ⟨rfl,hb3⟩;have HB3:=Hq hb3;clear hb3;go_wp2;go_ret2;exact⟨rfl,(HB1.out.trans (HB2.out.mono (by omega))).trans (HB3.out.mono (by omega))⟩
  · by_cases hl:65536<x.bytes.length;all_goals
     first
     | (have hr : encS x = (⟨#[]⟩, 5) := by simp [encS, hv, hd, hl]
        rw[hr])
     | (have hr : encS x = (bstr x.bytes, 0) := by simp [encS, hv, hd, hl]
        rw[hr])
     clear hr hv;have hbs:=bstr_size x.bytes;rw[←hbs]at hl;have HBS:=Hq hbs;clear hbs;go_enter Tryz.func49,Tryz.ntmps49;go_wp2_with fail;rw[HW1.out];refine(enc_valid _ x _ _ _ nlr (by omega) HI1.out).mono ?_;rintro e w2 ⟨rfl,hb2⟩;rw[HV.out];have HB2:=Hq hb2;obtain⟨q0,q1,q2,q3⟩:=four_cells (block_kept hb2 nlr HBOX.out);have HBOX2:=Hq (block_kept hb2 nlr HBOX.out);have hz2:=hb2.size;clear hb2 b0 b1 b2 b3;go_wp2_with fail;refine(enc_depth _ x _ _ _ nlr (by omega) (HI1.out.below HB2.out nlr)).mono ?_;rintro e w3 ⟨rfl,hb3⟩;have HB3:=Hq hb3;obtain⟨p0,p1,p2,p3⟩:=four_cells (block_kept hb3 nlr HBOX2.out);have hz3:=hb3.size;clear hb3 q0 q1 q2 q3;go_wp2_with fail;refine(enc_write _ x _ _ _ nlr (by omega) ((HI1.out.below HB2.out nlr).below HB3.out nlr)).mono ?_;rintro e w4 ⟨rfl,hb4⟩;have HB4:=Hq hb4;clear hb4;go_wp2;go_ret2;exact⟨rfl,((HB1.out.trans (HB2.out.mono (by omega))).trans (HB3.out.mono (by omega))).trans (HB4.out.mono (by omega))⟩
theorem r08_Encode(x:It)(v:Value)(w:World)(ok:Nat→Prop)(hM:x.weight≤1000000000)(hx:ItAt w ok v x):Calls Tryz.prog 63 #[v] w (RetSE (encS x) w):=by
 obtain⟨A,len,cap,rfl,hs⟩:=hx;have hbd:=x.bytes_le;have hdd:=Nat.le_trans x.depth_le x.nodes_le;obtain⟨w1,hw1⟩:∃ w1,w.alloc (.cells #[.int .i64 x.kind,.string x.nat,.string x.text,.slice A len cap] 106)=w1:=⟨_,rfl⟩;have hbox:w1.heap[w.heap.size]? =some (.cells #[.int .i64 x.kind,.string x.nat,.string x.text,.slice A len cap] 106 (0,0)):=by rw[←hw1];exact heap_alloc_new _ _
 have hb1:Below w.heap.size w w1:=by rw[←hw1];exact(blr).alloc nlr _
 have hi1:ItAt w1 (fun b=>ok b∧b<w.heap.size) (.agg #[.int .i64 x.kind,.string x.nat,.string x.text,.slice A len cap]) x:=⟨A,len,cap,rfl,hs.bound.below hb1 nlr⟩;have HI1:=Hq hi1;have HB1:=Hq hb1;have HBOX:=Hq hbox;have HW1:=Hq hw1;obtain⟨b0,b1,b2,b3⟩:=four_cells hbox;clear hi1 hb1 hbox hw1 hs;have hz1:w.heap.size+1≤w1.heap.size:=block_lt HBOX.out
 cases hv:x.valid with
 | false =>
  have hr:encS x=(⟨#[]⟩,3):=by simp[encS,hv]
  rw[hr];have HV:=Hq hv;clear hr hv;go_enter Tryz.func63,Tryz.ntmps63;go_wp2_with fail;rw[HW1.out];refine(r08_Valid _ x _ _ _ nlr (by omega) HI1.out).mono ?_;rintro e w2 ⟨rfl,hb2⟩;rw[HV.out];go_wp2;go_ret2;exact⟨rfl,HB1.out.trans (hb2.mono (by omega))⟩
 | true =>
  have HV:=Hq hv;by_cases hd:32<x.depth
  · have hr:encS x=(⟨#[]⟩,7):=by simp[encS,hv,hd]
    rw[hr];clear hr hv;go_enter Tryz.func63,Tryz.ntmps63;go_wp2_with fail;rw[HW1.out];refine(r08_Valid _ x _ _ _ nlr (by omega) HI1.out).mono ?_;rintro e w2 ⟨rfl,hb2⟩;rw[HV.out];have HB2:=Hq hb2;obtain⟨q0,q1,q2,q3⟩:=four_cells (block_kept hb2 nlr HBOX.out);have hz2:=hb2.size;clear hb2 b0 b1 b2 b3;go_wp2_with fail;refine(r08_Depth _ x _ _ _ nlr (by omega) (HI1.out.below HB2.out nlr)).mono ?_;rintro e w3 ⟨rfl,hb3⟩;have HB3:=Hq hb3;clear hb3;go_wp2;go_ret2;exact⟨rfl,(HB1.out.trans (HB2.out.mono (by omega))).trans (HB3.out.mono (by omega))⟩
  · by_cases hl:65536<x.bytes.length;all_goals
     first
     | (have hr : encS x = (⟨#[]⟩, 5) := by simp [encS, hv, hd, hl]
        rw[hr])
     | (have hr : encS x = (bstr x.bytes, 0) := by simp [encS, hv, hd, hl]
        rw[hr])
     clear hr hv;have hbs:=bstr_size x.bytes;rw[←hbs]at hl;have HBS:=Hq hbs;clear hbs;go_enter Tryz.func63,Tryz.ntmps63;go_wp2_with fail;rw[HW1.out];refine(r08_Valid _ x _ _ _ nlr (by omega) HI1.out).mono ?_;rintro e w2 ⟨rfl,hb2⟩;rw[HV.out];have HB2:=Hq hb2;obtain⟨q0,q1,q2,q3⟩:=four_cells (block_kept hb2 nlr HBOX.out);have HBOX2:=Hq (block_kept hb2 nlr HBOX.out);have hz2:=hb2.size;clear hb2 b0 b1 b2 b3;go_wp2_with fail;refine(r08_Depth _ x _ _ _ nlr (by omega) (HI1.out.below HB2.out nlr)).mono ?_;rintro e w3 ⟨rfl,hb3⟩;have HB3:=Hq hb3;obtain⟨p0,p1,p2,p3⟩:=four_cells (block_kept hb3 nlr HBOX2.out);have hz3:=hb3.size;clear hb3 q0 q1 q2 q3;go_wp2_with fail;refine(r08_Write _ x _ _ _ nlr (by omega) ((HI1.out.below HB2.out nlr).below HB3.out nlr)).mono ?_;rintro e w4 ⟨rfl,hb4⟩;have HB4:=Hq hb4;clear hb4;go_wp2;go_ret2;exact⟨rfl,((HB1.out.trans (HB2.out.mono (by omega))).trans (HB3.out.mono (by omega))).trans (HB4.out.mono (by omega))⟩
set_option maxRecDepth 100000
set_option maxHeartbeats 4000000
def letterB(c:Int):Bool:=decide (97≤c)&&decide (c≤122)||decide (65≤c)&&decide (c≤90)
def digitB(c:Int):Bool:=decide (48≤c)&&decide (c≤57)
def nchB(c:Int):Bool:=letterB c||(c==95||digitB c)
def kws:List (List UInt8):=[[112,111,108,105,99,121],[117,115,101,115],[114,101,118,101,97,108],[112,114,111,118,101],[115,99,111,112,101],[108,105,109,105,116],[101,115,99,114,111,119],
 [101,110,100],[97,108,108],[97,110,121],[97,116,108,101,97,115,116],[110,111,116],[116,114,117,101],[102,97,108,115,101],[98,101,116,119,101,101,110],[97,110,100],[105,110]]
def kwB(s:ByteArray):Bool:=kws.contains s.data.toList
def nameB(s:ByteArray):Bool:=(decide (s.size≠0)&&decide (s.size≤32))&&(letterB (byteI s.data.toList 0)&&(!kwB s&&(List.range s.size).all fun i=>nchB (byteI s.data.toList i)))
theorem letter_cases(c:Int):(c<65∧letterB c=false)∨(65≤c∧c≤90∧letterB c=true)∨(90<c∧c<97∧letterB c=false)∨(97≤c∧c≤122∧letterB c=true)∨(122<c∧letterB c=false):=by
 by_cases h1:c<65
 · exact .inl ⟨h1,by simp[letterB];omega⟩
 · by_cases h2:c≤90
   · exact .inr (.inl ⟨by omega,h2,by simp[letterB];omega⟩)
   · by_cases h3:c<97
     · exact .inr (.inr (.inl ⟨by omega,h3,by simp[letterB];omega⟩))
     · by_cases h4:c≤122
       · exact .inr (.inr (.inr (.inl ⟨by omega,h4,by simp[letterB];omega⟩)))
       · exact .inr (.inr (.inr (.inr ⟨by omega,by simp[letterB];omega⟩)))
theorem led_letter(c:Int)(w:World):Calls Tryz.prog 168 #[.int .u8 c] w (RetQ (.bool (letterB c)) w):=by
 rcases letter_cases c with⟨h1,h⟩ | ⟨h1,h2,h⟩ | ⟨h1,h2,h⟩ | ⟨h1,h2,h⟩ | ⟨h1,h⟩<;>
 · rw[h];clear h;go_enter Tryz.func168,Tryz.ntmps168;go_wp2;go_ret;exact⟨by first | rfl | (simp;omega),rfl⟩
theorem lex_Keyword(s:ByteArray)(w:World):Calls Tryz.prog 169 #[.string s] w (RetQ (.bool (kwB s)) w):=by
 rw[←bstr_of s];by_cases h:s.data.toList∈kws
 · have hk:kwB (bstr s.data.toList)=true:=by simp[kwB,bstr_data,h]
   rw[hk];clear hk;simp only[kws,List.mem_cons,List.mem_nil_iff,or_false]at h;rcases h with h | h | h | h | h | h | h | h | h | h | h | h | h | h | h | h | h<;>
   · rw[h];clear h;unfold bstr;go_enter Tryz.func169,Tryz.ntmps169;go_wp2;go_ret;exact⟨rfl,rfl⟩
 · have hk:kwB (bstr s.data.toList)=false:=by simp[kwB,bstr_data,h]
   rw[hk,bstr_of s];clear hk;simp only[kws,List.mem_cons,List.mem_nil_iff,or_false,not_or,←ByteArray.toList_eq]at h;obtain⟨h1,h2,h3,h4,h5,h6,h7,h8,h9,h10,h11,h12,h13,h14,h15,h16,h17⟩:=h;have e1:=beq_eq_false_iff_ne.2 h1;have e2:=beq_eq_false_iff_ne.2 h2;have e3:=beq_eq_false_iff_ne.2 h3;have e4:=beq_eq_false_iff_ne.2 h4;have e5:=beq_eq_false_iff_ne.2 h5;have e6:=beq_eq_false_iff_ne.2 h6;have e7:=beq_eq_false_iff_ne.2 h7;have e8:=beq_eq_false_iff_ne.2 h8;have e9:=beq_eq_false_iff_ne.2 h9;have e10:=beq_eq_false_iff_ne.2 h10;have e11:=beq_eq_false_iff_ne.2 h11;have e12:=beq_eq_false_iff_ne.2 h12;have e13:=beq_eq_false_iff_ne.2 h13;have e14:=beq_eq_false_iff_ne.2 h14;have e15:=beq_eq_false_iff_ne.2 h15;have e16:=beq_eq_false_iff_ne.2 h16;have e17:=beq_eq_false_iff_ne.2 h17;clear h1 h2 h3 h4 h5 h6 h7 h8 h9 h10 h11 h12 h13 h14 h15 h16 h17;go_enter Tryz.func169,Tryz.ntmps169;go_wp2;go_ret;exact⟨rfl,rfl⟩
theorem toList_inj{a b:ByteArray}(h:a.toList=b.toList):a=b:=by
 rw[ByteArray.toList_eq,ByteArray.toList_eq]at h;rw[←bstr_of a,←bstr_of b,h]
theorem byteI_get(s:ByteArray)(k:Nat)(h:k<s.size):byteI s.data.toList k=(s[k].toNat:Int):=by unfold byteI;rw[data_getD s k h]
theorem bne_false{a b:Int}(h:a=b):(a != b)=false:=by rw[h];simp
theorem nch_cases(c:Int)(h:letterB c=false):(c=95∧nchB c=true)∨(c≠95∧c<48∧nchB c=false)∨(c≠95∧57<c∧nchB c=false)∨(c≠95∧48≤c∧c≤57∧nchB c=true):=by
 by_cases h1:c=95
 · exact .inl ⟨h1,by simp[nchB,h1]⟩
 · have e1:(c==95)=false:=beq_eq_false_iff_ne.2 h1;by_cases h2:c<48
   · exact .inr (.inl ⟨h1,h2,by simp[nchB,h,e1,digitB];omega⟩)
   · by_cases h3:57<c
     · exact .inr (.inr (.inl ⟨h1,h3,by simp[nchB,h,e1,digitB];omega⟩))
     · exact .inr (.inr (.inr ⟨h1,by omega,by omega,by simp[nchB,h,e1,digitB];omega⟩))
theorem nameB_nil{s:ByteArray}(h:s.size=0):nameB s=false:=by simp[nameB,h]
theorem nameB_long{s:ByteArray}(h:32<s.size):nameB s=false:=by simp[nameB];omega
theorem nameB_first{s:ByteArray}(h:letterB (byteI s.data.toList 0)=false):nameB s=false:=by simp[nameB,h]
theorem nameB_kw{s:ByteArray}(h:kwB s=true):nameB s=false:=by simp[nameB,h]
theorem nameB_at{s:ByteArray}{k:Nat}(hk:k<s.size)(h:nchB (byteI s.data.toList k)=false):nameB s=false:=by
 have : ((List.range s.size).all fun i=>nchB (byteI s.data.toList i))=false:=(by rw[List.all_eq_false];exact⟨k,List.mem_range.2 hk,by simp[h]⟩);simp[nameB,this]
theorem nameB_yes{s:ByteArray}(h0:0<s.size)(h1:s.size≤32)(h2:letterB (byteI s.data.toList 0)=true)(h3:kwB s=false)(h4:∀ j,j<s.size→nchB (byteI s.data.toList j)=true):nameB s=true:=by
 have : ((List.range s.size).all fun i=>nchB (byteI s.data.toList i))=true:=(by rw[List.all_eq_true];intro i hi;exact h4 i (List.mem_range.1 hi));unfold nameB;rw[this,h2,h3,decide_eq_true (show s.size≠0 by omega),decide_eq_true h1];rfl
theorem led_name(s:ByteArray)(w:World)(hs:s.size≤9223372036854775807):Calls Tryz.prog 120 #[.string s] w (RetQ (.bool (nameB s)) w):=by
 by_cases h0:s.size=0
 · rw[nameB_nil h0];have e0:=sempty_true h0;go_enter Tryz.func120,Tryz.ntmps120;go_wp2;go_ret;exact⟨rfl,rfl⟩
 · have hp:0<s.size:=by omega
   have e0:=sempty_false hp;by_cases h1:32<s.size
   · rw[nameB_long h1];go_enter Tryz.func120,Tryz.ntmps120;go_wp2;go_ret;exact⟨rfl,rfl⟩
   · have hl:=byteI_get s 0 hp
     cases h2:letterB (byteI s.data.toList 0)with
     | false =>
      rw[nameB_first h2];rw[hl]at h2;have H2:=Hq h2;clear h2 hl;go_enter Tryz.func120,Tryz.ntmps120;go_wp2_with fail;refine(led_letter _ _).mono ?_;rintro e w1 ⟨rfl,rfl⟩;rw[H2.out];go_wp2;go_ret;exact⟨rfl,rfl⟩
     | true =>
      have H2':=Hq h2;rw[hl]at h2;have H2:=Hq h2;clear h2 hl
      cases h3:kwB s with
      | true =>
       rw[nameB_kw h3];have H3:=Hq h3;clear h3;go_enter Tryz.func120,Tryz.ntmps120;go_wp2_with fail;refine(led_letter _ _).mono ?_;rintro e w1 ⟨rfl,rfl⟩;rw[H2.out];go_wp2_with fail;refine(lex_Keyword _ _).mono ?_;rintro e w1 ⟨rfl,rfl⟩;rw[H3.out];go_wp2;go_ret;exact⟨rfl,rfl⟩
      | false =>
       have H3:=Hq h3;clear h3;go_enter Tryz.func120,Tryz.ntmps120;go_wp2_with fail;refine(led_letter _ _).mono ?_;rintro e w1 ⟨rfl,rfl⟩;rw[H2.out];go_wp2_with fail;refine(lex_Keyword _ _).mono ?_;rintro e w1 ⟨rfl,rfl⟩;rw[H3.out];go_wp2
       go_loop [24] (fun i=>∃ k:Nat,k≤s.size∧i=.int .i64 k∧∀ j,j<k→nchB (byteI s.data.toList j)=true) (fun i=>s.size - (intOf i).toNat)
       case atStart=>exact⟨0,Nat.zero_le _,rfl,fun j hj=>absurd hj (by omega)⟩
       case round =>
        obtain⟨k,hk,rfl,hall⟩:=hrel;have HALL:=Hq hall;clear hall;by_cases hlt:k<s.size
        · have hl:=byteI_get s k hlt
          cases hc:letterB (byteI s.data.toList k)with
          | true =>
           have hn:nchB (byteI s.data.toList k)=true:=by simp[nchB,hc]
           rw[hl]at hc;have HC:=Hq hc;have HN:=Hq hn;clear hc hn hl;go_wp2_with fail;refine(led_letter _ _).mono ?_;rintro e w1 ⟨rfl,rfl⟩;rw[HC.out];go_wp2;go_round;case rel=>exact⟨k+1,by omega,by go_num,fun j hj=>(by rcases Nat.lt_succ_iff_lt_or_eq.1 hj with h | h;exact HALL.out j h;subst h;exact HN.out)⟩
           case measure=>simp[intOf];omega
          | false =>
           rcases nch_cases _ hc with⟨h1,hn⟩ | ⟨h1,h2,hn⟩ | ⟨h1,h2,hn⟩ | ⟨h1,h2,h3,hn⟩
           all_goals
                  first
                  | (have hres := nameB_at hlt hn
                     have HRES:=Hq hres
                     clear hres)
                  | skip
                  rw[hl]at hc h1;try rw[hl]at h2
                  try rw[hl]at h3
                  have HC:=Hq hc;have HN:=Hq hn;first
                  | (have e1 := bne_false h1
                     clear h1)
                  | (have e1 := bne_iff_ne.2 h1
                     clear h1)
                  clear hc hn hl;go_wp2_with fail;refine(led_letter _ _).mono ?_;rintro e w1 ⟨rfl,rfl⟩;rw[HC.out];go_wp2;first
                  | (go_ret
                     exact⟨by rw[HRES.out];rfl,rfl⟩)
                  | (go_round
                     case rel=>exact⟨k+1,by omega,by go_num,fun j hj=>(by rcases Nat.lt_succ_iff_lt_or_eq.1 hj with h | h;exact HALL.out j h;subst h;exact HN.out)⟩
                     case measure=>simp[intOf];omega)
        · obtain rfl:k=s.size:=by omega
          have hr:=nameB_yes hp (by omega) H2'.out H3.out HALL.out;have HR:=Hq hr;clear hr;go_wp2;go_ret;exact⟨by rw[HR.out];rfl,rfl⟩
set_option maxHeartbeats 800000
theorem enc_NatV(a:ByteArray)(w:World):Calls Tryz.prog 95 #[.string a] w (Ret (.agg #[.int .i64 0,.string a,.string ⟨#[]⟩,.slice none 0 0]) w):=by
 go_enter Tryz.func95,Tryz.ntmps95;go_wp2;exact bodyPost_ret (v:=.agg #[.int .i64 0,.string a,.string ⟨#[]⟩,.slice none 0 0]) (by simp[results,Tryz.results95,go_sem]) rfl ⟨rfl,(blr).alloc nlr _⟩
theorem enc_TextV(a:ByteArray)(w:World):Calls Tryz.prog 51 #[.string a] w (Ret (.agg #[.int .i64 1,.string ⟨#[]⟩,.string a,.slice none 0 0]) w):=by
 go_enter Tryz.func51,Tryz.ntmps51;go_wp2;exact bodyPost_ret (v:=.agg #[.int .i64 1,.string ⟨#[]⟩,.string a,.slice none 0 0]) (by simp[results,Tryz.results51,go_sem]) rfl ⟨rfl,(blr).alloc nlr _⟩
theorem r08_NatV(a:ByteArray)(w:World):Calls Tryz.prog 118 #[.string a] w (Ret (.agg #[.int .i64 0,.string a,.string ⟨#[]⟩,.slice none 0 0]) w):=by
 go_enter Tryz.func118,Tryz.ntmps118;go_wp2;exact bodyPost_ret (v:=.agg #[.int .i64 0,.string a,.string ⟨#[]⟩,.slice none 0 0]) (by simp[results,Tryz.results118,go_sem]) rfl ⟨rfl,(blr).alloc nlr _⟩
theorem r08_TextV(a:ByteArray)(w:World):Calls Tryz.prog 65 #[.string a] w (Ret (.agg #[.int .i64 1,.string ⟨#[]⟩,.string a,.slice none 0 0]) w):=by
 go_enter Tryz.func65,Tryz.ntmps65;go_wp2;exact bodyPost_ret (v:=.agg #[.int .i64 1,.string ⟨#[]⟩,.string a,.slice none 0 0]) (by simp[results,Tryz.results65,go_sem]) rfl ⟨rfl,(blr).alloc nlr _⟩
theorem led_number(n:Nat)(w:World)(h:n<9223372036854775808):Calls Tryz.prog 52 #[.int .i64 n] w (Ret (.agg #[.int .i64 0,.string (bstr (encN n)),.string ⟨#[]⟩,.slice none 0 0]) w):=by
 have h1:(n:Int)%18446744073709551616=n:=by omega
 have H:=Hq h;clear h;obtain⟨W0,hW0⟩:∃ W0,w.alloc (.cells #[.int .i64 0,.string ⟨#[]⟩,.string ⟨#[]⟩,.slice none 0 0] 106)=W0:=⟨_,rfl⟩;have hres0:W0.heap[w.heap.size]? =some (.cells #[.int .i64 0,.string ⟨#[]⟩,.string ⟨#[]⟩,.slice none 0 0] 106 (0,0)):=by rw[←hW0];exact heap_alloc_new _ _
 have hb0:Below w.heap.size w W0:=by rw[←hW0];exact(blr).alloc nlr _
 have HW0:=Hq hW0;have HR0:=Hq hres0;have HB0:=Hq hb0;clear hW0 hres0 hb0;go_enter Tryz.func52,Tryz.ntmps52;go_wp2_with fail;rw[HW0.out];refine(nat_Of n (by have:=H.out;omega) _).mono ?_;rintro e w1 ⟨rfl,hb1⟩;have HR1:=Hq (block_kept hb1 nlr HR0.out);have HB1:=Hq (HB0.out.trans (hb1.mono HB0.out.size));clear hb1;go_wp2_with fail;refine(enc_NatV _ _).mono ?_;rintro e w2 ⟨rfl,hb2⟩;have hres:=block_kept hb2 nlr HR1.out;have HB2:=Hq (HB1.out.trans (hb2.mono HB1.out.size));obtain⟨rc0,rc1,rc2,rc3⟩:=four_cells hres;obtain⟨rf0,rf1,rf2,rf3⟩:=four_free hres;have HRES:=Hq hres;clear hb2 hres;go_wp2;have HE:=Hq (four_cells (set4_block HRES.out (.int .i64 0) (.string (bstr (encN n))) (.string ⟨#[]⟩) (.slice none 0 0)));have HBE:=Hq (set4_below HB2.out (b:=w.heap.size) nlr (.int .i64 0) (.string (bstr (encN n))) (.string ⟨#[]⟩) (.slice none 0 0));unfold set4 at HE HBE;obtain⟨wf,hwf⟩:∃ wf,(((w2.setCell ⟨w.heap.size,0,none⟩ (.int .i64 0)).setCell ⟨w.heap.size,1,none⟩ (.string (bstr (encN n)))).setCell ⟨w.heap.size,2,none⟩ (.string ⟨#[]⟩)).setCell ⟨w.heap.size,3,none⟩ (.slice none 0 0)=wf:=⟨_,rfl⟩;rw[hwf]at HE HBE⊢;obtain⟨q0,q1,q2,q3⟩:=HE.out;exact bodyPost_ret (v:=.agg #[.int .i64 0,.string (bstr (encN n)),.string ⟨#[]⟩,.slice none 0 0]) (by simp[results,Tryz.results52,go_sem,q0,q1,q2,q3]) rfl ⟨rfl,HBE.out⟩
theorem r57_nat(n:Nat)(w:World)(h:n<9223372036854775808):Calls Tryz.prog 66 #[.int .i64 n] w (Ret (.agg #[.int .i64 0,.string (bstr (encN n)),.string ⟨#[]⟩,.slice none 0 0]) w):=by
 have h1:(n:Int)%18446744073709551616=n:=by omega
 have H:=Hq h;clear h;obtain⟨W0,hW0⟩:∃ W0,w.alloc (.cells #[.int .i64 0,.string ⟨#[]⟩,.string ⟨#[]⟩,.slice none 0 0] 106)=W0:=⟨_,rfl⟩;have hres0:W0.heap[w.heap.size]? =some (.cells #[.int .i64 0,.string ⟨#[]⟩,.string ⟨#[]⟩,.slice none 0 0] 106 (0,0)):=by rw[←hW0];exact heap_alloc_new _ _
 have hb0:Below w.heap.size w W0:=by rw[←hW0];exact(blr).alloc nlr _
 have HW0:=Hq hW0;have HR0:=Hq hres0;have HB0:=Hq hb0;clear hW0 hres0 hb0;go_enter Tryz.func66,Tryz.ntmps66;go_wp2_with fail;rw[HW0.out];refine(r01_Of n (by have:=H.out;omega) _).mono ?_;rintro e w1 ⟨rfl,hb1⟩;have HR1:=Hq (block_kept hb1 nlr HR0.out);have HB1:=Hq (HB0.out.trans (hb1.mono HB0.out.size));clear hb1;go_wp2_with fail;refine(r08_NatV _ _).mono ?_;rintro e w2 ⟨rfl,hb2⟩;have hres:=block_kept hb2 nlr HR1.out;have HB2:=Hq (HB1.out.trans (hb2.mono HB1.out.size));obtain⟨rc0,rc1,rc2,rc3⟩:=four_cells hres;obtain⟨rf0,rf1,rf2,rf3⟩:=four_free hres;have HRES:=Hq hres;clear hb2 hres;go_wp2;have HE:=Hq (four_cells (set4_block HRES.out (.int .i64 0) (.string (bstr (encN n))) (.string ⟨#[]⟩) (.slice none 0 0)));have HBE:=Hq (set4_below HB2.out (b:=w.heap.size) nlr (.int .i64 0) (.string (bstr (encN n))) (.string ⟨#[]⟩) (.slice none 0 0));unfold set4 at HE HBE;obtain⟨wf,hwf⟩:∃ wf,(((w2.setCell ⟨w.heap.size,0,none⟩ (.int .i64 0)).setCell ⟨w.heap.size,1,none⟩ (.string (bstr (encN n)))).setCell ⟨w.heap.size,2,none⟩ (.string ⟨#[]⟩)).setCell ⟨w.heap.size,3,none⟩ (.slice none 0 0)=wf:=⟨_,rfl⟩;rw[hwf]at HE HBE⊢;obtain⟨q0,q1,q2,q3⟩:=HE.out;exact bodyPost_ret (v:=.agg #[.int .i64 0,.string (bstr (encN n)),.string ⟨#[]⟩,.slice none 0 0]) (by simp[results,Tryz.results66,go_sem,q0,q1,q2,q3]) rfl ⟨rfl,HBE.out⟩
structure En where
 kind:Int
 handle:ByteArray
 schema:ByteArray
 epoch:Int
def En.val(e:En):Value:=.agg #[.int .i64 e.kind,.string e.handle,.string e.schema,.int .i64 e.epoch]
def lowB(h:ByteArray):Bool:=decide (ordB h ⟨#[3]⟩<0)
def formB(e:En):Bool:=nvalid e.handle&&(if e.kind=0 then !lowB e.handle&&nameB e.schema else if e.kind=1 then !lowB e.handle&&e.schema.size==0 else if e.kind=2 then e.handle.size==0&&e.schema.size==0 else false)
abbrev itsE(q:Nat)(h s:ByteArray)(p:Nat):List It:=[.mk 1 ⟨#[]⟩ ⟨#[101,110,116,114,121]⟩ [],.mk 0 (bstr (encN q)) ⟨#[]⟩ [],.mk 0 h ⟨#[]⟩ [],.mk 1 ⟨#[]⟩ s [],.mk 0 (bstr (encN p)) ⟨#[]⟩ []]
def itE(q:Nat)(h s:ByteArray)(p:Nat):It:=.mk 2 ⟨#[]⟩ ⟨#[]⟩ (itsE q h s p)
def msgS(e:En):ByteArray×Int:=if formB e=false then(⟨#[]⟩,3)else if e.epoch<0∨4096<e.epoch then(⟨#[]⟩,2)else encS (itE e.kind.toNat e.handle e.schema e.epoch.toNat)
theorem itE_weight{q p:Nat}{h s:ByteArray}(hq:q≤2)(hp:p≤4096)(hh:h.size≤128)(hs:s.size≤32):(itE q h s p).weight≤1000000000:=by
 have h1:(encN q).length≤8:=encN_length_le.2 (by omega);have h2:(encN p).length≤8:=encN_length_le.2 (by omega);simp only[itE,It.weight,Its.weight,bstr_size];have e1:(⟨#[]⟩:ByteArray).size=0:=rfl;have e2:(⟨#[101,110,116,114,121]⟩:ByteArray).size=5:=rfl;omega
theorem three:bstr (encN 3)=⟨#[3]⟩:=rfl
theorem low_no{h:ByteArray}(hv:nvalid h=true)(hl:lowB h=false):∃ c:Int,ncmp h ⟨#[3]⟩=c∧0≤c:=by
 have h3:nvalid ⟨#[3]⟩=true:=rfl;refine⟨_,rfl,?_⟩;simp only[ncmp,hv,h3,Bool.and_self,if_true];have:=of_decide_eq_false hl;omega
theorem low_yes{h:ByteArray}(hv:nvalid h=true)(hl:lowB h=true):∃ c:Int,ncmp h ⟨#[3]⟩=c∧¬ 0≤c:=by
 have h3:nvalid ⟨#[3]⟩=true:=rfl;refine⟨_,rfl,?_⟩;simp only[ncmp,hv,h3,Bool.and_self,if_true];have:=of_decide_eq_true hl;omega
theorem row5{w:World}{T:TypeId}{fr:Nat×Nat}{b:Nat}{k0 k1 k2 k3 k4:Int}{n0 n1 n2 n3 n4 t0 t1 t2 t3 t4:ByteArray}
 (hb:w.heap[b]? =some (.cells #[.int .i64 k0,.string n0,.string t0,.slice none 0 0,.int .i64 k1,.string n1,.string t1,.slice none 0 0,.int .i64 k2,.string n2,.string t2,.slice none 0 0,.int .i64 k3,.string n3,.string t3,.slice none 0 0,.int .i64 k4,.string n4,.string t4,.slice none 0 0] T fr)) :
 SlAt w (fun _=>True) (some ⟨b,0,none⟩) 5 5 [.mk k0 n0 t0 [],.mk k1 n1 t1 [],.mk k2 n2 t2 [],.mk k3 n3 t3 [],.mk k4 n4 t4 []]:=by
 have hc:=fun k=>Lib.cell_of_heap hb (j:=k);refine⟨rfl,Nat.le_refl _,by omega,b,0,fun _=>⟨rfl,trivial⟩,?_⟩;refine⟨CellsAt.mk' (hc 0) (hc 1) (hc 2) (hc 3) (SlAt.nil _ _),CellsAt.mk' (hc 4) (hc 5) (hc 6) (hc 7) (SlAt.nil _ _),CellsAt.mk' (hc 8) (hc 9) (hc 10) (hc 11) (SlAt.nil _ _),CellsAt.mk' (hc 12) (hc 13) (hc 14) (hc 15) (SlAt.nil _ _),CellsAt.mk' (hc 16) (hc 17) (hc 18) (hc 19) (SlAt.nil _ _),trivial⟩
theorem en_box(w:World)(q p:Int)(h s:ByteArray)(T:TypeId):∃ W0,Hid (w.alloc (.cells #[.int .i64 q,.string h,.string s,.int .i64 p] T)=W0)∧Hid (Below w.heap.size w W0)∧w.heap.size+1≤W0.heap.size∧W0.cell? ⟨w.heap.size,0,none⟩=some (.int .i64 q)∧W0.cell? ⟨w.heap.size,1,none⟩=some (.string h)∧W0.cell? ⟨w.heap.size,2,none⟩=some (.string s)∧W0.cell? ⟨w.heap.size,3,none⟩=some (.int .i64 p):=by
 obtain⟨W0,hW0⟩:∃ W0,w.alloc (.cells #[.int .i64 q,.string h,.string s,.int .i64 p] T)=W0:=⟨_,rfl⟩;have hbox:W0.heap[w.heap.size]? =some (.cells #[.int .i64 q,.string h,.string s,.int .i64 p] T (0,0)):=by rw[←hW0];exact heap_alloc_new _ _
 have hb0:Below w.heap.size w W0:=by rw[←hW0];exact(blr).alloc nlr _
 exact⟨W0,Hq hW0,Hq hb0,block_lt hbox,four_cells hbox⟩
end Go.Proofs.YtfbmbledklbfgaaGreat
