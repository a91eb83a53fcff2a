import Derived.Test.YtdhnkmbjogmmkaaGreatDoorQGlo
import Derived.Test.YtdhnkmbjogmmkaaGreatDoorQPri
set_option linter.unusedVariables false
set_option linter.unusedSimpArgs false
namespace Go.Proofs.YtdhnkmbjogmmkaaGreatDoor
set_option maxRecDepth 100000
open Go.RowKit Go.Shelf
attribute [local go_sem] Oper.semAt_some
theorem law_small(w:World):Calls Tryz.prog 8 #[] w (Ret (gV ⟨#[23]⟩ ⟨#[11]⟩) w):=by
 go_enter Tryz.func8,Tryz.ntmps8;go_wp2;refine bodyPost_ret (v:=gV ⟨#[23]⟩ ⟨#[11]⟩) ?_ rfl ⟨rfl,(blr).alloc nlr _⟩;simp[results,Tryz.results8,go_sem,gV]
theorem ex_h6:hasG ⟨#[23]⟩ ⟨#[11]⟩ ⟨#[6]⟩=true:=by decide +kernel
theorem ex_h12:hasG ⟨#[23]⟩ ⟨#[11]⟩ ⟨#[12]⟩=true:=by decide +kernel
theorem ex_h4:hasG ⟨#[23]⟩ ⟨#[11]⟩ ⟨#[4]⟩=true:=by decide +kernel
theorem ex_h2:hasG ⟨#[23]⟩ ⟨#[11]⟩ ⟨#[2]⟩=true:=by decide +kernel
theorem ex_h5:hasG ⟨#[23]⟩ ⟨#[11]⟩ ⟨#[5]⟩=false:=by decide +kernel
theorem ex_g4:genG ⟨#[23]⟩ ⟨#[11]⟩ ⟨#[4]⟩=true:=by decide +kernel
theorem ex_mul:mulR ⟨#[23]⟩ ⟨#[11]⟩ ⟨#[6]⟩ ⟨#[12]⟩=.tuple #[.string ⟨#[3]⟩,.int .i64 0]:=by
 rw[mulR_in (by decide +kernel) ⟨ex_h6,ex_h12⟩,show nS (num ⟨#[6]⟩ * num ⟨#[12]⟩%num ⟨#[23]⟩)=⟨#[3]⟩from by decide +kernel]
theorem ex_pow:powR ⟨#[23]⟩ ⟨#[11]⟩ ⟨#[4]⟩ true ⟨#[1]⟩=.tuple #[.string ⟨#[6]⟩,.int .i64 0]:=by
 rw[powR_in (by decide +kernel) ex_h4,show nS (num ⟨#[4]⟩ ^ (sg true (num ⟨#[1]⟩)%(num ⟨#[11]⟩:Int)).toNat%num ⟨#[23]⟩)=⟨#[6]⟩from by decide +kernel]
theorem ex_log:logR ⟨#[23]⟩ ⟨#[11]⟩ ⟨#[4]⟩ ⟨#[2]⟩ 10=.tuple #[.int .i64 6,.bool true]:=by
 rw[logR_hit (k:=6) ⟨ex_h4,ex_h2⟩ (by decide +kernel) (fun j hj=>by
  have e:j=0∨j=1∨j=2∨j=3∨j=4∨j=5:=by omega
  rcases e with rfl | rfl | rfl | rfl | rfl | rfl<;>decide +kernel) (by decide +kernel)]
 rfl
theorem ex_elem:(elemG ⟨#[23]⟩ ⟨#[11]⟩ ⟨#[4]⟩).length=11:=by
 rw[elemG_in ex_h4,pwL_length];have h1:=elemN_hit (m:=num ⟨#[23]⟩) (g:=num ⟨#[4]⟩) (k:=11) (by omega) (by decide +kernel);have h2:=elemN_gt (m:=num ⟨#[23]⟩) (g:=num ⟨#[4]⟩) (k:=10) (by omega) (fun j a b=>by
  have e:j=1∨j=2∨j=3∨j=4∨j=5∨j=6∨j=7∨j=8∨j=9∨j=10:=by omega
  rcases e with rfl | rfl | rfl | rfl | rfl | rfl | rfl | rfl | rfl | rfl<;>decide +kernel)
 omega
theorem ex_is23(w:World):Calls Tryz.prog 47 #[.int .u64 23] w (Ret (.bool true) w):=
 prime_is_small 23 8 (by omega) (by omega) (by omega) (by decide) (fun j hj=>by
  have e:j=0∨j=1∨j=2∨j=3∨j=4∨j=5∨j=6∨j=7:=by omega
  rcases e with rfl | rfl | rfl | rfl | rfl | rfl | rfl | rfl<;>decide) w
theorem ex_is11(w:World):Calls Tryz.prog 47 #[.int .u64 11] w (Ret (.bool true) w):=
 prime_is_small 11 4 (by omega) (by omega) (by omega) (by decide) (fun j hj=>by
  have e:j=0∨j=1∨j=2∨j=3:=by omega
  rcases e with rfl | rfl | rfl | rfl<;>decide) w
theorem ex_is21(w:World):Calls Tryz.prog 47 #[.int .u64 21] w (Ret (.bool false) w):=
 prime_is_small 21 1 (by omega) (by omega) (by omega) (by decide) (fun j hj=>by
  have e:j=0:=by omega
  rcases e with rfl<;>decide) w
theorem ex_is5(w:World):Calls Tryz.prog 47 #[.int .u64 5] w (Ret (.bool true) w):=
 prime_is_small 5 2 (by omega) (by omega) (by omega) (by decide) (fun j hj=>by
  have e:j=0∨j=1:=by omega
  rcases e with rfl | rfl<;>decide) w
theorem ex_check(w:World):Calls Tryz.prog 13 #[gV ⟨#[23]⟩ ⟨#[11]⟩] w (Ret (.int .i64 0) w):=
 pg_Check_n 23 11 true true (by omega) (by omega) ex_is23 ex_is11 (fun _=>by omega) (fun _=>by omega) w
theorem ex_check2(w:World):Calls Tryz.prog 13 #[gV ⟨#[21]⟩ ⟨#[5]⟩] w (Ret (.int .i64 12) w):=
 pg_Check_n 21 5 false true (by omega) (by omega) ex_is21 ex_is5 (fun _=>by omega) (fun _=>by omega) w
theorem ex_Mul(w:World):Calls Tryz.prog 9 #[gV ⟨#[23]⟩ ⟨#[11]⟩,.string ⟨#[6]⟩,.string ⟨#[12]⟩] w (Ret (.tuple #[.string ⟨#[3]⟩,.int .i64 0]) w):=by
 have:=pg_Mul ⟨#[23]⟩ ⟨#[11]⟩ ⟨#[6]⟩ ⟨#[12]⟩ (by decide) (by decide) (by decide) (by decide) w;rw[ex_mul]at this;exact this
theorem ex_Pow(w:World):Calls Tryz.prog 10 #[gV ⟨#[23]⟩ ⟨#[11]⟩,.string ⟨#[4]⟩,zV true ⟨#[1]⟩] w (Ret (.tuple #[.string ⟨#[6]⟩,.int .i64 0]) w):=by
 have:=pg_Power ⟨#[23]⟩ ⟨#[11]⟩ ⟨#[4]⟩ true ⟨#[1]⟩ (by decide) (by decide) (by decide) (by decide) w;rw[ex_pow]at this;exact this
theorem ex_Log(w:World):Calls Tryz.prog 11 #[gV ⟨#[23]⟩ ⟨#[11]⟩,.string ⟨#[4]⟩,.string ⟨#[2]⟩,.int .i64 10] w (Ret (.tuple #[.int .i64 6,.bool true]) w):=by
 have:=pg_Log ⟨#[23]⟩ ⟨#[11]⟩ ⟨#[4]⟩ ⟨#[2]⟩ 10 (by decide) (by decide) (by decide) (by decide) w;rw[ex_log]at this;exact this
theorem ex_Gen(w:World):Calls Tryz.prog 14 #[gV ⟨#[23]⟩ ⟨#[11]⟩,.string ⟨#[4]⟩] w (Ret (.bool true) w):=by
 have:=pg_IsGen ⟨#[23]⟩ ⟨#[11]⟩ ⟨#[4]⟩ (by decide) (by decide) (by decide) w;rw[ex_g4]at this;exact this
theorem ex_Has(w:World):Calls Tryz.prog 15 #[gV ⟨#[23]⟩ ⟨#[11]⟩,.string ⟨#[5]⟩] w (Ret (.bool false) w):=by
 have:=pg_Has ⟨#[23]⟩ ⟨#[11]⟩ ⟨#[5]⟩ (by decide) (by decide) (by decide) w;rw[ex_h5]at this;exact this
end Go.Proofs.YtdhnkmbjogmmkaaGreatDoor
