import Derived.Test.YtppbcopnfankcaaGreatQLxB
set_option linter.unusedVariables false
set_option linter.unusedSimpArgs false
namespace Go.Proofs.YtppbcopnfankcaaGreat
set_option maxRecDepth 100000
set_option maxHeartbeats 4000000
open Go.RowKit Go.Lib
theorem zil(M O G Y r a b:ByteArray)(n:Int)(hM:M.size≤8)(hO:O.size≤100)(hG:G.size≤1000)(hY:Y.size≤1000)(ha:a.size≤1000)(hbz:b.size≤1000)(hr:r.size≤100)(w:World) :
 Calls Tryz.prog 28 #[kV M O G Y,.agg #[.int .i64 n,.string r,.string a,.string b]] w (Ret (.int .i64 (ckH M O G Y n r a b)) w):=by
 have hx0:=KHd.new w M O G Y n r a b;obtain⟨W0,hW0⟩:=nm (((w.alloc (.cells #[.string M,.string O,.string G,.string Y] 29)).alloc (.cells #[.int .i64 n,.string r,.string a,.string b] 35)));rw[hW0]at hx0;have HX0:=Hq hx0;obtain⟨c0,c1,c2,c3⟩:=hx0.1.cells;obtain⟨d0,d1,d2,d3⟩:=hx0.2.1.cells;clear hx0;by_cases h0:n<0
 · have HR:=Hq (show ckH M O G Y n r a b=2 from by unfold ckH;rw[if_pos (Or.inl h0)]);unfold kV at *;go_enter Tryz.func28,Tryz.ntmps28;go_wp2;go_ret;exact⟨by rw[HR.out];rfl,by first | exact HX0.out.2.2 | (rw[←hW0]at HX0;exact HX0.out.2.2)⟩
 · by_cases h1:n > 4096
   · have HR:=Hq (show ckH M O G Y n r a b=2 from by unfold ckH;rw[if_pos (Or.inr h1)]);have h1:4096<n:=h1;unfold kV at *;go_enter Tryz.func28,Tryz.ntmps28;go_wp2;go_ret;exact⟨by rw[HR.out];rfl,by first | exact HX0.out.2.2 | (rw[←hW0]at HX0;exact HX0.out.2.2)⟩
   · have h1:¬ 4096<n:=h1;by_cases h2:r.size=32
     · have HR:=Hq (show ckH M O G Y n r a b=veK M O G Y a b (hdS n.toNat r)from by unfold ckH;rw[if_neg (by omega),if_neg (by omega)]);obtain⟨k,rfl⟩:∃ k:Nat,n=k:=⟨n.toNat,by omega⟩;rw[Int.toNat_natCast]at HR;have h3:((r.size:Int) != 32)=false:=by rw[h2];rfl
       have HH:=Hq (zew k r a b (by omega) hr);have HV:=Hq (zhh M O G Y a b (hdS k r) hM hO hG hY ha hbz (zny k r));unfold kV at *;clear h2 hr;obtain⟨wd,hwd⟩:=nm (W0.drew);have HXD:=Hq (HX0.out.next (show Below W0.heap.size W0 wd from by rw[←hwd];exact(blr).drew));go_enter Tryz.func28,Tryz.ntmps28;go_wp2;try rw[hW0]
       clear hW0 c0 c1 c2 c3 d0 d1 d2 d3;obtain⟨c0,c1,c2,c3⟩:=HXD.out.1.cells;obtain⟨d0,d1,d2,d3⟩:=HXD.out.2.1.cells;refine za 7 (Below (wd).heap.size (wd)) (by kernel_rfl) ?_;rw[hwd];have KK1:=Hq (fun w' (hS':(Below (wd).heap.size (wd)) w')=>And.intro (kC hS' c0) (And.intro (kC hS' c1) (And.intro (kC hS' c2) (And.intro (kC hS' c3) (And.intro (kC hS' d0) (And.intro (kC hS' d1) (And.intro (kC hS' d2) (kC hS' d3))))))));refine rTs 0 17 6 blr KK1.out ?_;refine rTs 1 18 5 blr KK1.out ?_;refine rPs 3 20 4 blr ?_;refine rTs 4 21 3 blr KK1.out ?_;refine rO 2 2 ?_;intro K2 hK2;go_wp2_with fail;refine(HH.out _).mono ?_;rintro ev w1 ⟨rfl,hb⟩;have HB2:=Hq hb;clear hb;go_wp2;refine hK2 _ _ (by exact HB2.out) ?_;clear hK2;intro hS_5_2;refine rO 5 1 ?_;intro K5 hK5;go_wp2_with fail;refine(HV.out _).mono ?_;rintro ev w2 ⟨rfl,hb⟩;have HB5:=Hq hb;clear hb;go_wp2;refine hK5 _ _ (by exact Below.trans hS_5_2 (Below.mono HB5.out (Below.size hS_5_2))) ?_;clear hK5;intro hS_5_5;refine rO 6 0 ?_;intro K6 hK6;go_wp2;refine hK6 _ _ (by exact hS_5_5) ?_;clear hK6;intro hS_5_6;refine wDn ?_;have HL:=Hq hS_5_6;go_wp2;go_ret;exact⟨by rw[HR.out];rfl,(HXD.out.next HL.out).2.2⟩
     · have HR:=Hq (show ckH M O G Y n r a b=3 from by unfold ckH;rw[if_neg (by omega),if_pos h2]);have h3:((r.size:Int) != 32)=true:=by rw[bne_iff_ne];omega
       unfold kV at *;go_enter Tryz.func28,Tryz.ntmps28;go_wp2;go_ret;exact⟨by rw[HR.out];rfl,by first | exact HX0.out.2.2 | (rw[←hW0]at HX0;exact HX0.out.2.2)⟩
end Go.Proofs.YtppbcopnfankcaaGreat
