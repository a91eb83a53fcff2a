import Derived.Test.YtopmeciihijgiaaGreatDoorQFolB
set_option linter.unusedVariables false
set_option linter.unusedSimpArgs false
namespace Go.Proofs.YtopmeciihijgiaaGreatDoor
open Go.RowKit
theorem st_follows(sb n m bi br:Nat)(I R:ByteArray→Bool)(e:En)(w:World)(hst:StAt w sb n m bi br I R)(hh:e.handle.size≤maxLen)(hsc:e.schema.size≤9223372036854775807)(hmm:m≤4611686018427387903):Calls Tryz.prog 43 #[.pointer (some ⟨sb,0,none⟩),e.val] w (Ret (.int .i64 (folF (msgS e).2 n m (I e.handle) (R e.handle) e.kind e.epoch)) w):=by
 obtain⟨q,h,s,p⟩:=e;have hk:=msg_kind (e:=⟨q,h,s,p⟩);obtain⟨ms,f,hm⟩:∃ ms f,msgS ⟨q,h,s,p⟩=(ms,f):=⟨_,_,rfl⟩;simp only[hm]at hk⊢;by_cases hf:f=0
 · by_cases hn:4096≤n
   · rw[hf,folF_n hn];exact st_follows_n sb n m bi br I R q p h s w hst hh hsc ms f hm hf hn
   · have hn':n<4096:=by omega
     rw[hf];by_cases hp:p=(m:Int)+(if q=2 then 1 else 0)
     · rw[folF_s hn' hp];rcases hk hf with k | k | k
       · have k':q=0:=k;have hp':p=(m:Int):=by rw[hp,if_neg (by omega)];omega
         cases h0:I h with
         | true=>rw[if_pos ⟨k',rfl⟩];exact st_follows_0t sb n m bi br I R q p h s w hst hh hsc ms f hm hf hn' hmm (neI (by omega)) (eqI k') (neI (by omega)) (bne_false hp') h0
         | false=>rw[if_neg (by simp),if_neg (by omega),if_neg (by omega)];exact st_follows_0ok sb n m bi br I R q p h s w hst hh hsc ms f hm hf hn' hmm (neI (by omega)) (eqI k') (neI (by omega)) (bne_false hp') h0
       · have k':q=1:=k;have hp':p=(m:Int):=by rw[hp,if_neg (by omega)];omega
         rw[if_neg (by omega)]
         cases h0:I h with
         | false=>rw[if_pos ⟨k',rfl⟩];exact st_follows_1n sb n m bi br I R q p h s w hst hh hsc ms f hm hf hn' hmm (neI (by omega)) (neI (by omega)) (eqI k') (bne_false hp') h0
         | true =>
          rw[if_neg (by simp)]
          cases h1:R h with
          | true=>rw[if_pos ⟨k',rfl⟩];exact st_follows_1r sb n m bi br I R q p h s w hst hh hsc ms f hm hf hn' hmm (neI (by omega)) (neI (by omega)) (eqI k') (bne_false hp') h0 h1
          | false=>rw[if_neg (by simp)];exact st_follows_1ok sb n m bi br I R q p h s w hst hh hsc ms f hm hf hn' hmm (neI (by omega)) (neI (by omega)) (eqI k') (bne_false hp') h0 h1
       · have k':q=2:=k;have hp':p=(m:Int)+1:=by rw[hp,if_pos k']
         rw[if_neg (by omega),if_neg (by omega),if_neg (by omega)];exact st_follows_2ok sb n m bi br I R q p h s w hst hh hsc ms f hm hf hn' hmm (eqI k') (neI (by omega)) (neI (by omega)) (bne_false hp')
     · rw[folF_p hn' hp];rcases hk hf with k | k | k
       · have k':q=0:=k;rw[if_neg (by omega)]at hp;exact st_follows_0p sb n m bi br I R q p h s w hst hh hsc ms f hm hf hn' hmm (neI (by omega)) (eqI k') (neI (by omega)) (bnT (by omega))
       · have k':q=1:=k;rw[if_neg (by omega)]at hp;exact st_follows_1p sb n m bi br I R q p h s w hst hh hsc ms f hm hf hn' hmm (neI (by omega)) (neI (by omega)) (eqI k') (bnT (by omega))
       · have k':q=2:=k;rw[if_pos k']at hp;exact st_follows_2p sb n m bi br I R q p h s w hst hh hsc ms f hm hf hn' hmm (eqI k') (neI (by omega)) (neI (by omega)) (bnT (by omega))
 · rw[folF_f hf];exact st_follows_f sb n m bi br I R q p h s w hst hh hsc ms f hm (bnT hf)
set_option maxRecDepth 100000
set_option maxHeartbeats 2000000
def appS(l:List En)(e:En):List En×Int:=if followsS l e=0 then(l++[e],0)else([],followsS l e)
def SzE(l:List En):Prop:=∀(k:Nat) (e:En),l[k]? =some e→e.handle.size≤maxLen
theorem led_Append_no(l:List En)(A:Option Addr)(len cap:Nat)(e:En)(w:World)(hs:SlE w A len cap l)(hlb:len≤1000000000)(hsz:SzE l)(hh:e.handle.size≤maxLen)(hsc:e.schema.size≤9223372036854775807)(f:Int)(hf:followsS l e=f)(hne:(f != 0)=true)(hll:l.length≤1000000000) :
 Calls Tryz.prog 17 #[.slice A len cap,e.val] w (RetEs [] .i64 f w):=by
 obtain⟨q,h,s,p⟩:=e;show Calls Tryz.prog _ #[.slice A len cap,.agg #[.int .i64 q,.string h,.string s,.int .i64 p]] w _;obtain⟨W0,hW0⟩:∃ W0,w.alloc (.cells #[.int .i64 q,.string h,.string s,.int .i64 p] 47)=W0:=⟨_,rfl⟩;have hb0:Below w.heap.size w W0:=by rw[←hW0];exact(blr).alloc nlr _
 have hbox:W0.heap[w.heap.size]? =some (.cells #[.int .i64 q,.string h,.string s,.int .i64 p] 47 (0,0)):=by rw[←hW0];exact heap_alloc_new _ _
 obtain⟨c0,c1,c2,c3⟩:=four_cells hbox;have hz0:=block_lt hbox;have HS0:=Hq (hs.kept hb0 nlr);have HB0:=Hq hb0;have HW0:=Hq hW0;have HF:=Hq hf;have HSZ:=Hq hsz;clear hb0 hW0 hf hsz hs hbox;go_enter Tryz.func17,Tryz.ntmps17;go_wp2;rw[HW0.out];refine wp_region_K 3 (Below (W0.drew).heap.size (W0.drew)) (by kernel_rfl) ?_;intro hD;refine qP 0 4 rfl hD blr ?_;clear hD;intro hD;refine qT 2 3 rfl hD blr (by intro w' hS';have e0:=kc hS' c0;have e1:=kc hS' c1;have e2:=kc hS' c2;have e3:=kc hS' c3;go_simp;with_reducible rfl) ?_;clear hD;intro hD;simp only[Act.put,sqA,sqB,sqC];refine rO 1 2 rfl hD ?_;clear hD;intro K1 hK1;go_wp2_with fail;refine(led_stateOf l A len cap _ (HS0.out.kept (blr).drew nlr) (by omega) HSZ.out).mono ?_;rintro e1 w1 ⟨sb,bi,br,rfl,hst,hB1,hB2,hB3,hb1⟩;have HB1:=Hq hb1;have HST:=Hq hst;clear hst hB1 hB2 hB3 hb1;go_wp2;refine hK1 _ _ (by exact HB1.out) ?_;clear hK1;intro hS_1_1 hD;refine wpAnyK_oneT (i:=3) (fuel:=1) (by kernel_rfl) rfl hD (by kernel_rfl) ?_;clear hD;intro K3 hK3;go_wp2_with fail;refine(st_follows sb _ _ bi br _ _ ⟨q,h,s,p⟩ _ HST.out hh hsc (by have:=epochN_le l;omega)).mono ?_;rintro e2 w2 ⟨rfl,hb2⟩;have HB3:=Hq hb2;clear hb2;rw[show folF (msgS ⟨q,h,s,p⟩).2 l.length (epochN l) (hasB l 0 (En.mk q h s p).handle) (hasB l 1 (En.mk q h s p).handle) (En.mk q h s p).kind (En.mk q h s p).epoch=followsS l ⟨q,h,s,p⟩from rfl,HF.out];go_wp2;refine hK3 _ _ ?_;clear hK3;intro hD;refine wpAnyK_oneT (i:=4) (fuel:=0) (by kernel_rfl) rfl hD (by kernel_rfl) ?_;clear hD;intro K4 hK4;go_wp2;refine hK4 _ _ ?_;clear hK4;intro hD;refine wpD ?_;clear hD;have HX:=Hq (Below.trans hS_1_1 (Below.mono HB3.out (Below.size hS_1_1)));go_wp2;go_ret2;exact⟨none,0,rfl,SlE.nil _ _ (by omega) _,HB0.out.drew.trans (HX.out.mono (by simp;omega))⟩
theorem led_Append_yes(l:List En)(A:Option Addr)(len cap:Nat)(e:En)(w:World)(hs:SlE w A len cap l)(hlb:len≤1000000000)(hsz:SzE l)(hh:e.handle.size≤maxLen)(hsc:e.schema.size≤9223372036854775807)(hf:followsS l e=0)(hll:l.length≤1000000000) :
 Calls Tryz.prog 17 #[.slice A len cap,e.val] w (RetEs (l++[e]) .i64 0 w):=by
 obtain⟨i0,hi,iz0,iz1,iz2⟩:=info_parts en_info;obtain⟨q,h,s,p⟩:=e;show Calls Tryz.prog _ #[.slice A len cap,.agg #[.int .i64 q,.string h,.string s,.int .i64 p]] w _;obtain⟨W0,hW0⟩:∃ W0,w.alloc (.cells #[.int .i64 q,.string h,.string s,.int .i64 p] 47)=W0:=⟨_,rfl⟩;have hb0:Below w.heap.size w W0:=by rw[←hW0];exact(blr).alloc nlr _
 have hbox:W0.heap[w.heap.size]? =some (.cells #[.int .i64 q,.string h,.string s,.int .i64 p] 47 (0,0)):=by rw[←hW0];exact heap_alloc_new _ _
 obtain⟨c0,c1,c2,c3⟩:=four_cells hbox;have hz0:=block_lt hbox;have HS0:=Hq (hs.kept hb0 nlr);have HB0:=Hq hb0;have HW0:=Hq hW0;have HF:=Hq hf;have HSZ:=Hq hsz;clear hb0 hW0 hf hsz hs hbox;go_enter Tryz.func17,Tryz.ntmps17;go_wp2;rw[HW0.out];refine wp_region_K 3 (Below (W0.drew).heap.size (W0.drew)) (by kernel_rfl) ?_;intro hD;refine qP 0 4 rfl hD blr ?_;clear hD;intro hD;refine qT 2 3 rfl hD blr (by intro w' hS';have e0:=kc hS' c0;have e1:=kc hS' c1;have e2:=kc hS' c2;have e3:=kc hS' c3;go_simp;with_reducible rfl) ?_;clear hD;intro hD;simp only[Act.put,sqA,sqB,sqC];refine rO 1 2 rfl hD ?_;clear hD;intro K1 hK1;go_wp2_with fail;refine(led_stateOf l A len cap _ (HS0.out.kept (blr).drew nlr) (by omega) HSZ.out).mono ?_;rintro e1 w1 ⟨sb,bi,br,rfl,hst,hB1,hB2,hB3,hb1⟩;have HB1:=Hq hb1;have HST:=Hq hst;clear hst hB1 hB2 hB3 hb1;go_wp2;refine hK1 _ _ (by exact HB1.out) ?_;clear hK1;intro hS_1_1 hD;refine wpAnyK_oneT (i:=3) (fuel:=1) (by kernel_rfl) rfl hD (by kernel_rfl) ?_;clear hD;intro K3 hK3;go_wp2_with fail;refine(st_follows sb _ _ bi br _ _ ⟨q,h,s,p⟩ _ HST.out hh hsc (by have:=epochN_le l;omega)).mono ?_;rintro e2 w2 ⟨rfl,hb2⟩;have HB3:=Hq hb2;clear hb2;rw[show folF (msgS ⟨q,h,s,p⟩).2 l.length (epochN l) (hasB l 0 (En.mk q h s p).handle) (hasB l 1 (En.mk q h s p).handle) (En.mk q h s p).kind (En.mk q h s p).epoch=followsS l ⟨q,h,s,p⟩from rfl,HF.out];go_wp2;refine hK3 _ _ ?_;clear hK3;intro hD;refine wpAnyK_oneT (i:=4) (fuel:=0) (by kernel_rfl) rfl hD (by kernel_rfl) ?_;clear hD;intro K4 hK4;go_wp2;refine hK4 _ _ ?_;clear hK4;intro hD;refine wpD ?_;clear hD;have HX:=Hq (Below.trans hS_1_1 (Below.mono HB3.out (Below.size hS_1_1)));have d0:=kc HX.out c0;have d1:=kc HX.out c1;have d2:=kc HX.out c2;have d3:=kc HX.out c3;have HS2:=Hq (SlE.kept (w:=W0.drew) HX.out nlr (HS0.out.kept (blr).drew nlr));have HB2:=Hq (HB0.out.drew.trans (HX.out.mono (by simp;omega)));have hz2':w.heap.size<w2.heap.size:=Nat.lt_of_lt_of_le hz0 HX.out.size;clear c0 c1 c2 c3 HS0 HX HW0 HB3 HB1 HST;go_wp2;refine wp_region_K 7 (Below (w2.drew).heap.size (w2.drew)) (by kernel_rfl) ?_;intro hD;refine qP 0 6 rfl hD blr ?_;clear hD;intro hD;refine qS 2 5 rfl hD blr (by intro w' hS';have e0:=kc hS' d0;have e1:=kc hS' d1;have e2:=kc hS' d2;have e3:=kc hS' d3;go_simp;with_reducible rfl) ?_;clear hD;intro hD;simp only[Act.put,sqA,sqB,sqC];refine wpAnyK_two (i:=1) (i':=3) (fuel:=4) (by kernel_rfl) rfl rfl hD ?_ ?_ 
 · unfold StepK;clear hD;intro K1 hK1;go_wp2_with fail;first
   | (refine(cl_entries l A len cap w2.drew (HS2.out.kept (blr).drew nlr) (by omega)).mono ?_)
   | (refine(cl_entries l A len cap (w2.drew.alloc _) ((HS2.out.kept (blr).drew nlr).kept ((blr).alloc nlr _) nlr) (by omega)).mono ?_)
   rintro e1 w3 ⟨v3,rfl,hown1,hb1⟩;have HB1:=Hq hb1;have HOWN1:=Hq hown1;clear hown1 hb1;go_wp2;refine hK1 _ _ (by exact HB1.out) ?_;clear hK1;intro hS_4_1 hD;refine rO 3 3 rfl hD ?_;clear hD;intro K3 hK3;go_wp2;refine hK3 _ _ (by exact Below.alloc hS_4_1 (Below.size hS_4_1) _) ?_;clear hK3;intro hS_4_3_1 hD;refine rO 4 2 rfl hD ?_;clear hD;intro K4 hK4;first
   | have hown:(w3.alloc (.cells #[.int .i64 q,.string h,.string s,.int .i64 p] 47)).ownsRow w2.drew.heap.size 47 4 v3 len (enVals l):=HOWN1.out.alloc _
     refine(wpList_append_lies _ rfl (.tmp 15) (.tmp 17) 27 rfl _ 47 i0 _ 4 48 Tryz.underlying27 hi iz0 iz1 iz2 rfl (by decide) v3 len (enVals l) rfl hown ⟨w3.heap.size,0,none⟩ 1 1 (En.cells ⟨q,h,s,p⟩) rfl rfl (World.news_of_block (heap_alloc_new _ _)) (fun u hu=>enVals_one [⟨q,h,s,p⟩] u (by simpa[enVals]using hu)) (by decide) (by unfold maxLen;omega) (by omega) (by have:=HB1.out.size;simp at this⊢;omega) _ rfl ?_);intro g cap7 w7 hown7 hgrow7 hat7 hlt7;have HLT:=Hq (fun k (e:v3.ownBlock=some k)=>(hown.lt k e).1);have HOWN7:=Hq hown7;have HG4:=Hq hgrow7;clear hown7 hgrow7 hat7 hlt7 hown
   | have hown:w3.ownsRow (w2.drew.alloc (.cells #[.int .i64 q,.string h,.string s,.int .i64 p] 47)).heap.size 47 4 v3 len (enVals l):=HOWN1.out
     refine(wpList_append_lies _ rfl (.tmp 15) (.tmp 17) 27 rfl _ 47 i0 _ 4 48 Tryz.underlying27 hi iz0 iz1 iz2 rfl (by decide) v3 len (enVals l) rfl hown ⟨w2.heap.size,0,none⟩ 1 1 (En.cells ⟨q,h,s,p⟩) rfl rfl (World.news_of_block (block_kept HB1.out nlr (heap_alloc_new w2.drew _))) (fun u hu=>enVals_one [⟨q,h,s,p⟩] u (by simpa[enVals]using hu)) (by decide) (by unfold maxLen;omega) (by omega) HB1.out.size _ rfl ?_);intro g cap7 w7 hown7 hgrow7 hat7 hlt7;have HLT:=Hq (fun k (e:v3.ownBlock=some k)=>(hown.lt k e).1);have HOWN7:=Hq hown7;have HG4:=Hq hgrow7;clear hown7 hgrow7 hat7 hlt7 hown
   go_wp2;refine hK4 _ _ (by exact Below.grown hS_4_3_1 HG4.out (Below.size hS_4_3_1) (fun k e=>by have:=HLT.out k e;simp at this⊢;omega)) ?_;clear hK4;intro hS_4_4_1 hD;refine rO 5 1 rfl hD ?_;clear hD;intro K5 hK5;go_wp2;refine hK5 _ _ (by exact hS_4_4_1) ?_;clear hK5;intro hS_4_5_1 hD;refine rO 6 0 rfl hD ?_;clear hD;intro K6 hK6;go_wp2;refine hK6 _ _ (by exact hS_4_5_1) ?_;clear hK6;intro hS_4_6_1 hD;refine wpD ?_;clear hD;have HX:=Hq hS_4_6_1;go_wp2;go_ret2;exact RetEs.mk' (by have:=HOWN7.out;rw[enVals_snoc]at this;exact this) (HB2.out.drew.trans (HX.out.mono (by simp;omega)))
 · unfold StepK;clear hD;intro K3 hK3;go_wp2;refine hK3 _ _ (by exact(blr).alloc nlr _) ?_;clear hK3;intro hS_4_3 hD;refine rO 1 3 rfl hD ?_;clear hD;intro K1 hK1;go_wp2_with fail;first
   | (refine(cl_entries l A len cap w2.drew (HS2.out.kept (blr).drew nlr) (by omega)).mono ?_)
   | (refine(cl_entries l A len cap (w2.drew.alloc _) ((HS2.out.kept (blr).drew nlr).kept ((blr).alloc nlr _) nlr) (by omega)).mono ?_)
   rintro e1 w3 ⟨v3,rfl,hown1,hb1⟩;have HB1:=Hq hb1;have HOWN1:=Hq hown1;clear hown1 hb1;go_wp2;refine hK1 _ _ (by exact Below.trans hS_4_3 (Below.mono HB1.out (Below.size hS_4_3))) ?_;clear hK1;intro hS_4_1_3 hD;refine rO 4 2 rfl hD ?_;clear hD;intro K4 hK4;first
   | have hown:(w3.alloc (.cells #[.int .i64 q,.string h,.string s,.int .i64 p] 47)).ownsRow w2.drew.heap.size 47 4 v3 len (enVals l):=HOWN1.out.alloc _
     refine(wpList_append_lies _ rfl (.tmp 15) (.tmp 17) 27 rfl _ 47 i0 _ 4 48 Tryz.underlying27 hi iz0 iz1 iz2 rfl (by decide) v3 len (enVals l) rfl hown ⟨w3.heap.size,0,none⟩ 1 1 (En.cells ⟨q,h,s,p⟩) rfl rfl (World.news_of_block (heap_alloc_new _ _)) (fun u hu=>enVals_one [⟨q,h,s,p⟩] u (by simpa[enVals]using hu)) (by decide) (by unfold maxLen;omega) (by omega) (by have:=HB1.out.size;simp at this⊢;omega) _ rfl ?_);intro g cap7 w7 hown7 hgrow7 hat7 hlt7;have HLT:=Hq (fun k (e:v3.ownBlock=some k)=>(hown.lt k e).1);have HOWN7:=Hq hown7;have HG4:=Hq hgrow7;clear hown7 hgrow7 hat7 hlt7 hown
   | have hown:w3.ownsRow (w2.drew.alloc (.cells #[.int .i64 q,.string h,.string s,.int .i64 p] 47)).heap.size 47 4 v3 len (enVals l):=HOWN1.out
     refine(wpList_append_lies _ rfl (.tmp 15) (.tmp 17) 27 rfl _ 47 i0 _ 4 48 Tryz.underlying27 hi iz0 iz1 iz2 rfl (by decide) v3 len (enVals l) rfl hown ⟨w2.heap.size,0,none⟩ 1 1 (En.cells ⟨q,h,s,p⟩) rfl rfl (World.news_of_block (block_kept HB1.out nlr (heap_alloc_new w2.drew _))) (fun u hu=>enVals_one [⟨q,h,s,p⟩] u (by simpa[enVals]using hu)) (by decide) (by unfold maxLen;omega) (by omega) HB1.out.size _ rfl ?_);intro g cap7 w7 hown7 hgrow7 hat7 hlt7;have HLT:=Hq (fun k (e:v3.ownBlock=some k)=>(hown.lt k e).1);have HOWN7:=Hq hown7;have HG4:=Hq hgrow7;clear hown7 hgrow7 hat7 hlt7 hown
   go_wp2;refine hK4 _ _ (by exact Below.grown hS_4_1_3 HG4.out (Below.size hS_4_1_3) (fun k e=>by have:=HLT.out k e;simp at this⊢;omega)) ?_;clear hK4;intro hS_4_4_3 hD;refine rO 5 1 rfl hD ?_;clear hD;intro K5 hK5;go_wp2;refine hK5 _ _ (by exact hS_4_4_3) ?_;clear hK5;intro hS_4_5_3 hD;refine rO 6 0 rfl hD ?_;clear hD;intro K6 hK6;go_wp2;refine hK6 _ _ (by exact hS_4_5_3) ?_;clear hK6;intro hS_4_6_3 hD;refine wpD ?_;clear hD;have HX:=Hq hS_4_6_3;go_wp2;go_ret2;exact RetEs.mk' (by have:=HOWN7.out;rw[enVals_snoc]at this;exact this) (HB2.out.drew.trans (HX.out.mono (by simp;omega)))
theorem led_Append(l:List En)(A:Option Addr)(len cap:Nat)(e:En)(w:World)(hs:SlE w A len cap l)(hlb:len≤1000000000)(hsz:SzE l)(hh:e.handle.size≤maxLen)(hsc:e.schema.size≤9223372036854775807) :
 Calls Tryz.prog 17 #[.slice A len cap,e.val] w (RetEs (appS l e).1 .i64 (appS l e).2 w):=by
 have hll:l.length≤1000000000:=by rw[hs.1];exact hlb
 unfold appS;by_cases h:followsS l e=0
 · rw[if_pos h];exact led_Append_yes l A len cap e w hs hlb hsz hh hsc h hll
 · rw[if_neg h];exact led_Append_no l A len cap e w hs hlb hsz hh hsc _ rfl (bnT h) hll
set_option maxRecDepth 100000
set_option maxHeartbeats 4000000
def endN:List En→Nat→Nat
 | [],_=>0
 | _::_,0=>0
 | e::l,n+1=>endN l (if e.kind=2 then n else n+1)+1
theorem endN_zero(l:List En):endN l 0=0:=by cases l<;>rfl
theorem endN_step{l:List En}{k c P:Nat}{e:En}(h:l[k]? =some e)(hc:c<P)(hi:k+endN (l.drop k) (P - c)=endN l P) :
 k+1+endN (l.drop (k+1)) (P - (c+if e.kind=2 then 1 else 0))=endN l P:=by
 have hk:=(List.getElem?_eq_some_iff.1 h).1;have hx:=(List.getElem?_eq_some_iff.1 h).2;rw[List.drop_eq_getElem_cons hk,hx,show P - c=(P - c - 1)+1 from by omega,endN]at hi;rw[←hi];by_cases h2:e.kind=2
 · rw[if_pos h2,if_pos h2,show P - (c+1)=P - c - 1 from by omega];omega
 · rw[if_neg h2,if_neg h2,show P - (c+0)=P - c - 1+1 from by omega];omega
theorem epochN_take_le(l:List En)(k:Nat):epochN (l.take k)≤epochN l:=by
 unfold epochN;exact List.Sublist.countP_le (List.take_sublist _ _)
def memF(R:ByteArray→Bool)(l:List En):List ByteArray:=(l.filter fun e=>e.kind==0 && !R e.handle).map (·.handle)
def memH(l:List En):List ByteArray:=memF (hasB l 1) l
def memS(l:List En)(p:Int):List ByteArray×Int:=if p<0∨(epochN l:Int)<p then([],2)else(memH (l.take (endN l p.toNat)),0)
theorem memF_snoc{R:ByteArray→Bool}{l:List En}{k:Nat}{e:En}(h:l[k]? =some e):memF R (l.take (k+1))=memF R (l.take k)++(if e.kind=0∧R e.handle=false then [e.handle]else []):=by
 unfold memF;rw[take_snoc h,List.filter_append,List.map_append];congr 1;by_cases h1:e.kind=0<;>cases h2:R e.handle<;>simp[List.filter_cons,h1,h2]
def EndRel(l:List En)(len P:Nat)(end' n:Value):Prop:=∃ k c:Nat,k≤len∧end'=.int .i64 k∧n=.int .i64 c∧epochN (l.take k)=c∧c≤P∧k+endN (l.drop k) (P - c)=endN l P
theorem led_Members_neg(A:Option Addr)(len cap:Nat)(p:Int)(hp:p<0)(w:World) :
 Calls Tryz.prog 18 #[.slice A len cap,.int .i64 p] w (RetNs [] .i64 2 w):=by
 go_enter Tryz.func18,Tryz.ntmps18;go_wp2;go_ret2;exact⟨none,0,rfl,SlN.nil _ _ (by omega) _,Below.refl _ _⟩
def MemRel(R:ByteArray→Bool)(t:List En)(B:Nat)(W:World)(out i:Value)(wr:World):Prop:=
 ∃(j m:Nat),j≤t.length∧m≤j∧i=.int .i64 j∧wr.ownsRow B 22 1 out m ((memF R (t.take j)).map Value.string)∧Below B W wr
theorem led_Members_pos(l:List En)(A:Option Addr)(len cap:Nat)(P:Nat)(w:World)(hs:SlE w A len cap l)(hlb:len≤1000000000)(hsz:SzE l)(hP:P≤9223372036854775807)(r:List ByteArray×Int)(hr:memS l P=r) :
 Calls Tryz.prog 18 #[.slice A len cap,.int .i64 P] w (RetNs r.1 .i64 r.2 w):=by
 have hlen:=hs.1;have hlc:=hs.2.1;have HS:=Hq hs;have HLEN:=Hq hlen;have HR:=Hq hr;have HSZ:=Hq hsz;have hP0:¬ ((P:Int)<0):=by omega
 clear hs hlen hr hsz;go_enter Tryz.func18,Tryz.ntmps18;go_wp2
 go_loop [6,7] (fun e n=>EndRel l len P e n) (fun e _=>len - (intOf e).toNat)
 case atStart=>exact⟨0,0,Nat.zero_le _,rfl,rfl,rfl,Nat.zero_le _,by simp⟩
 case round =>
  obtain⟨k,c,hk,rfl,rfl,hc,hcP,hi⟩:=hrel;have HC:=Hq hc;have HI:=Hq hi;clear hc hi;by_cases hlt:c<P
  · by_cases hkl:k<len
    · obtain⟨b,o,rfl⟩:=HS.out.head (by omega);obtain⟨e,he⟩:∃ e,l[k]? =some e:=⟨_,List.getElem?_eq_getElem (by rw[HLEN.out];exact hkl)⟩;obtain⟨c0,c1,c2,c3⟩:=HS.out.get? k he;have hne:((k:Int)==(len:Int))=false:=neI (by omega);have HE:=Hq he;clear he;by_cases h2:e.kind=2
      · have e2:=eqI h2;have H2:=Hq h2;clear h2;go_wp2;go_round;case rel =>
         have h1:=epochN_snoc HE.out;have h3:=endN_step HE.out hlt HI.out;rw[if_pos H2.out]at h1 h3;exact⟨k+1,c+1,by omega,by go_num,by go_num,by rw[h1,HC.out],by omega,h3⟩
        case measure=>simp[intOf];omega
      · have e2:=neI h2;have H2:=Hq h2;clear h2;go_wp2;go_round;case rel =>
         have h1:=epochN_snoc HE.out;have h3:=endN_step HE.out hlt HI.out;rw[if_neg H2.out]at h1 h3;exact⟨k+1,c,by omega,by go_num,rfl,by rw[h1,HC.out,Nat.add_zero],by omega,h3⟩
        case measure=>simp[intOf];omega
    · obtain rfl:k=len:=by omega
      have hne:((k:Int)==(k:Int))=true:=eqI rfl;have hr:=HR.out;unfold memS at hr;have hcc:=HC.out;rw[List.take_of_length_le (by have:=HLEN.out;omega)]at hcc;rw[if_pos (.inr (by omega))]at hr;clear hcc;have HR2:=Hq hr;clear hr;go_wp2;go_ret2;rw[←HR2.out];exact⟨none,0,rfl,SlN.nil _ _ (by omega) _,Below.refl _ _⟩
  · obtain rfl:c=P:=by omega
    have hi:=HI.out;rw[Nat.sub_self,endN_zero,Nat.add_zero]at hi;have hcc:=HC.out;have hle:=epochN_take_le l k;have hr:=HR.out;unfold memS at hr;rw[if_neg (by omega),Int.toNat_natCast,←hi]at hr;have HR2:=Hq hr;have hst:=HS.out.take k hk;have hszt:SzE (l.take k):=fun j e he=>HSZ.out j e (by rw[List.getElem?_take]at he;split at he;exact he;cases he);obtain⟨t,ht⟩:∃ t,l.take k=t:=⟨_,rfl⟩;rw[ht]at hst hszt;have HT:=Hq ht;have HST:=Hq hst;have HSZT:=Hq hszt;have hkc:k≤cap:=by omega
    clear hi hcc hle hr hst hszt HI HC HR HS HSZ ht;go_wp2_with fail;refine(led_stateOf t A k cap _ HST.out (by omega) HSZT.out).mono ?_;rintro e1 w1 ⟨sb,bi,br,rfl,hst1,hB1,hB2,hB3,hb1⟩;obtain⟨s0,s1,s2,s3⟩:=four_cells hst1.1;have HSET:=Hq hst1.2.2.1;have HB1:=Hq hb1;clear hst1 hB1 hB2 hB3 hb1;go_wp2;clear s0 s1 s2 s3;go_loopw [9,44] (fun out i wr=>MemRel (hasB t 1) t w1.heap.size w1 out i wr) (fun _ i _=>k - (intOf i).toNat);case atStart=>exact⟨0,0,Nat.zero_le _,Nat.le_refl _,rfl,World.ownsRow_nil _ _ _ _,Below.refl _ _⟩
    case round =>
     obtain⟨j,m,hj,hm,rfl,hown,hB⟩:=hrel;have htl:t.length=k:=HST.out.1;rw[htl]at hj;have HTL:=Hq htl;clear htl;have HOWN:=Hq hown;have HB:=Hq hB;clear hown hB;by_cases hjk:j<k
     · obtain⟨b,o,rfl⟩:=HST.out.head (by omega);obtain⟨e,he⟩:∃ e,t[j]? =some e:=⟨_,List.getElem?_eq_getElem (by rw[HTL.out];exact hjk)⟩;obtain⟨c0,c1,c2,c3⟩:=((HST.out.kept HB1.out nlr).kept HB.out nlr).get? j he;have hh:e.handle.size≤maxLen:=HSZT.out j e he;have hl:=SetM.look ((HSET.out.kept HB.out nlr).kept ((Below.refl wr.heap.size wr).alloc nlr (.cells #[.int .i64 e.kind,.string e.handle,.string e.schema,.int .i64 e.epoch] 47)) nlr) hh;have HE:=Hq he;have HH:=Hq hh;clear he hh;have hms:=memF_snoc (R:=hasB t 1) HE.out;obtain⟨g,hg⟩:∃ g,hasB t 1 e.handle=g:=⟨_,rfl⟩;rw[hg]at hl hms;by_cases h0:e.kind=0
       · have e0:=eqI h0
         cases g with
         | true =>
          rw[if_neg (by simp),List.append_nil]at hms;have HMS:=Hq hms;clear h0 hms hg;go_wp2;go_roundw;case rel=>exact⟨j+1,m,by rw[HTL.out];omega,by omega,by go_num,by rw[HMS.out];exact(HOWN.out.alloc _).alloc _,(HB.out.alloc HB.out.size _).alloc (by have:=HB.out.size;simp;omega) _⟩
          case measure=>simp[intOf];omega
         | false =>
          rw[if_pos ⟨h0,rfl⟩]at hms;have HMS:=Hq hms;clear h0 hms hg;obtain⟨i0,hi,iz0,iz1,iz2⟩:=info_parts nat_info;go_wp2_with (at_builtin;refine(wpList_append_lies _ rfl (.tmp 62) (.tmp 65) 28 rfl w1.heap.size 22 i0 _ 1 16 Tryz.underlying28 hi iz0 iz1 iz2 rfl (by decide) _ m ((memF (hasB t 1) (t.take j)).map Value.string) rfl ?n0 ⟨wr.heap.size+1+1,0,none⟩ 1 1 [.string e.handle] rfl rfl ?n1 ?n2 (by decide) ?n3 ?n4 ?n5 _ rfl ?_));case n0=>exact((HOWN.out.alloc _).alloc _).alloc _
          case n1=>rw[show wr.heap.size+1+1=((wr.alloc (.cells #[.int .i64 e.kind,.string e.handle,.string e.schema,.int .i64 e.epoch] 47)).alloc (.cells #[] 100)).heap.size from by simp];exact World.news_of_block (heap_alloc_new _ _)
          case n2=>intro u hu;simp only[List.mem_cons,List.mem_nil_iff,or_false]at hu;subst hu;rfl
          case n3=>unfold maxLen;omega
          case n4=>omega
          case n5=>have:=HB.out.size;simp;omega
          intro g' cap7 w7 hown7 hgrow7 hat7 hlt7;have hlt6:=HOWN.out.lt;have HB7:=Hq ((((HB.out.alloc HB.out.size (.cells #[.int .i64 e.kind,.string e.handle,.string e.schema,.int .i64 e.epoch] 47)).alloc (by have:=HB.out.size;simp;omega) (.cells #[] 100)).alloc (by have:=HB.out.size;simp;omega) _).grown hgrow7 (by have:=HB.out.size;simp;omega) (fun k e=>(hlt6 k e).1));have HOWN7:=Hq hown7;clear hown7 hgrow7 hat7 hlt7 hlt6;go_wp2;go_roundw;case rel=>exact⟨j+1,m+1,by rw[HTL.out];omega,by omega,by go_num,by rw[HMS.out,List.map_append];exact HOWN7.out,HB7.out⟩
          case measure=>simp[intOf];omega
       · have e0:=neI h0;rw[if_neg (by simp[h0]),List.append_nil]at hms;have HMS:=Hq hms;clear h0 hms hg;go_wp2;go_roundw;case rel=>exact⟨j+1,m,by rw[HTL.out];omega,by omega,by go_num,by rw[HMS.out];exact(HOWN.out.alloc _).alloc _,(HB.out.alloc HB.out.size _).alloc (by have:=HB.out.size;simp;omega) _⟩
         case measure=>simp[intOf];omega
     · obtain rfl:j=k:=by omega
       have hown:=HOWN.out;rw[List.take_of_length_le (by have:=HTL.out;omega)]at hown;have HOWN2:=Hq hown;clear hown;go_wp2;go_ret2;rw[←HR2.out,HT.out];exact RetNs.mk' HOWN2.out (HB1.out.trans (HB.out.mono HB1.out.size))
theorem led_Members(l:List En)(A:Option Addr)(len cap:Nat)(p:Int)(w:World)(hs:SlE w A len cap l)(hlb:len≤1000000000)(hsz:SzE l)(hp:p≤9223372036854775807) :
 Calls Tryz.prog 18 #[.slice A len cap,.int .i64 p] w (RetNs (memS l p).1 .i64 (memS l p).2 w):=by
 by_cases h:p<0
 · have:=led_Members_neg A len cap p h w;unfold memS;rw[if_pos (.inl h)];exact this
 · obtain⟨P,rfl⟩:=Int.eq_ofNat_of_zero_le (Int.not_lt.1 h);exact led_Members_pos l A len cap P w hs hlb hsz (by omega) _ rfl
end Go.Proofs.YtopmeciihijgiaaGreatDoor
