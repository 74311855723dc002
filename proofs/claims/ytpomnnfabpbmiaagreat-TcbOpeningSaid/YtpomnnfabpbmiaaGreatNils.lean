import Derived.Test.YtpomnnfabpbmiaaGreatFns1
namespace Go.Proofs.YtpomnnfabpbmiaaGreat
open Go.RowKit
set_option linter.unusedVariables false

/-! a connection that is nil -/
section
variable (w : World)
set_option maxHeartbeats 400000
theorem nil_tick (now : Int) : Calls Tryz.prog 19 #[.pointer none, .int .i64 now] w fun e w' => e = .returned (.tuple #[]) ∧ w = w' := by
  go_enter Tryz.func19, Tryz.ntmps19
  go_wp2
  first | go_end0 | refine bodyPost_ret (results_none rfl _ _ _) rfl ?_
  exact ⟨rfl, rfl⟩
theorem nil_leave (now : Int) : Calls Tryz.prog 20 #[.pointer none, .int .i64 now] w fun e w' => e = .returned (.tuple #[]) ∧ w = w' := by
  go_enter Tryz.func20, Tryz.ntmps20
  go_wp2
  first | go_end0 | refine bodyPost_ret (results_none rfl _ _ _) rfl ?_
  exact ⟨rfl, rfl⟩
theorem nil_abort (now : Int) : Calls Tryz.prog 21 #[.pointer none, .int .i64 now] w fun e w' => e = .returned (.tuple #[]) ∧ w = w' := by
  go_enter Tryz.func21, Tryz.ntmps21
  go_wp2
  first | go_end0 | refine bodyPost_ret (results_none rfl _ _ _) rfl ?_
  exact ⟨rfl, rfl⟩
theorem nil_input (now src dst seq ack fl win mss scale : Int) (a : Option Addr) (n cap : Nat) : Calls Tryz.prog 11 #[.pointer none, .int .i64 now, .agg #[.int .u16 src, .int .u16 dst, .int .u32 seq, .int .u32 ack, .int .u8 fl, .int .u16 win, .int .i64 mss, .int .i64 scale, .slice a n cap]] w
    fun e w' => e = .returned (.tuple #[]) ∧ Mod [] w w' := by
  go_enter Tryz.func11, Tryz.ntmps11
  go_wp2
  first | go_end0 | refine bodyPost_ret (results_none rfl _ _ _) rfl ?_
  exact ⟨rfl, (Mod.refl _ _).alloc _⟩
theorem nil_send (now : Int) (v : Value) : Calls Tryz.prog 22 #[.pointer none, .int .i64 now, v] w fun e w' => e = .returned (.tuple #[.int .i64 0, .int .i64 7]) ∧ w = w' := by
  go_enter Tryz.func22, Tryz.ntmps22
  go_wp2
  go_ret2
  exact ⟨rfl, rfl⟩
theorem nil_recv (now n : Int) : Calls Tryz.prog 23 #[.pointer none, .int .i64 now, .int .i64 n] w fun e w' => e = .returned (.tuple #[.slice none 0 0, .bool false, .int .i64 7]) ∧ w = w' := by
  go_enter Tryz.func23, Tryz.ntmps23
  go_wp2
  go_ret3
  exact ⟨rfl, rfl⟩
theorem nil_next : Calls Tryz.prog 24 #[.pointer none] w fun e w' => e = .returned (.tuple #[.int .i64 0, .bool false]) ∧ w = w' := by
  go_enter Tryz.func24, Tryz.ntmps24
  go_wp2
  go_ret2
  exact ⟨rfl, rfl⟩
theorem nil_out : Calls Tryz.prog 10 #[.pointer none] w fun e w' => e = .returned (.slice none 0 0) ∧ w = w' := by
  go_enter Tryz.func10, Tryz.ntmps10
  go_wp2
  go_ret
  exact ⟨rfl, rfl⟩
theorem nil_state : Calls Tryz.prog 13 #[.pointer none] w fun e w' => e = .returned (.int .i64 0) ∧ w = w' := by
  go_enter Tryz.func13, Tryz.ntmps13
  go_wp2
  go_ret
  exact ⟨rfl, rfl⟩
theorem nil_shut (now : Int) : Calls Tryz.prog 25 #[.pointer none, .int .i64 now] w fun e w' => e = .returned (.int .i64 7) ∧ w = w' := by
  go_enter Tryz.func25, Tryz.ntmps25
  go_wp2
  go_ret
  exact ⟨rfl, rfl⟩
theorem nil_fault : Calls Tryz.prog 14 #[.pointer none] w fun e w' => e = .returned (.int .i64 7) ∧ w = w' := by
  go_enter Tryz.func14, Tryz.ntmps14
  go_wp2
  go_ret
  exact ⟨rfl, rfl⟩
theorem nil_take : Calls Tryz.prog 27 #[.pointer none] w fun e w' => e = .returned (.int .i64 7) ∧ w = w' := by
  go_enter Tryz.func27, Tryz.ntmps27
  go_wp2_with (go_at_call 14; refine (nil_fault _).mono ?_; rintro e w' ⟨rfl, rfl⟩)
  go_ret
  exact ⟨rfl, rfl⟩
theorem nil_quad : Calls Tryz.prog 26 #[.pointer none] w fun e w' => e = .returned (.agg #[.int .u32 0, .int .u16 0, .int .u32 0, .int .u16 0]) ∧ Mod [] w w' := by
  go_enter Tryz.func26, Tryz.ntmps26
  go_wp2
  refine bodyPost_ret (v := .agg #[.int .u32 0, .int .u16 0, .int .u32 0, .int .u16 0]) (by simp [results, Tryz.results26, go_sem]) rfl ⟨rfl, ?_⟩
  repeat (first | (with_reducible exact Mod.refl _ _) | (with_reducible refine Mod.drew ?_) | (with_reducible refine Mod.alloc ?_ _))
set_option maxRecDepth 100000
theorem nil_vars : Calls Tryz.prog 16 #[.pointer none] w fun e w' => e = .returned (.agg #[.int .u32 0, .int .u32 0, .int .u32 0, .int .u32 0, .int .u32 0, .int .u32 0, .int .i64 0, .int .i64 0, .int .i64 0, .int .i64 0]) ∧ Mod [] w w' := by
  go_enter Tryz.func16, Tryz.ntmps16
  go_wp2
  refine bodyPost_ret (v := .agg #[.int .u32 0, .int .u32 0, .int .u32 0, .int .u32 0, .int .u32 0, .int .u32 0, .int .i64 0, .int .i64 0, .int .i64 0, .int .i64 0]) (by simp [results, Tryz.results16, go_sem]) rfl ⟨rfl, ?_⟩
  repeat (first | (with_reducible exact Mod.refl _ _) | (with_reducible refine Mod.drew ?_) | (with_reducible refine Mod.alloc ?_ _))
end

end Go.Proofs.YtpomnnfabpbmiaaGreat
