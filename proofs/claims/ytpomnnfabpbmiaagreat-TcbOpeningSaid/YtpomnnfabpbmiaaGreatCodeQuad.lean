import Derived.Test.YtpomnnfabpbmiaaGreatFns1
namespace Go.Proofs.YtpomnnfabpbmiaaGreat
open Go.RowKit
set_option linter.unusedVariables false

set_option maxHeartbeats 400000 in
theorem code_spec (e : Int) (w : World) : Calls Tryz.prog 8 #[.int .i64 e] w fun e' w' => e' = .returned (.int .i64 e) ∧ w = w' := by
  go_enter Tryz.func8, Tryz.ntmps8
  go_wp2
  go_ret
  exact ⟨rfl, rfl⟩

set_option maxRecDepth 100000 in
set_option maxHeartbeats 1000000 in
theorem quad_spec (w : World) : Calls Tryz.prog 7 #[.int .i64 0] w fun e w' => e = .returned (.agg #[.int .u32 1, .int .u16 1000, .int .u32 2, .int .u16 80]) ∧ Mod [] w w' := by
  go_enter Tryz.func7, Tryz.ntmps7
  go_wp2
  refine bodyPost_ret (v := .agg #[.int .u32 1, .int .u16 1000, .int .u32 2, .int .u16 80]) (by simp [results, Tryz.results7, go_sem]) rfl ⟨rfl, ?_⟩
  repeat (first | (with_reducible exact Mod.refl _ _) | (with_reducible refine Mod.drew ?_) | (with_reducible refine Mod.alloc ?_ _))

end Go.Proofs.YtpomnnfabpbmiaaGreat
