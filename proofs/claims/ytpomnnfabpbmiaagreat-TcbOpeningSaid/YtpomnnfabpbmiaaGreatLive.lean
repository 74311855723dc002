import Derived.Test.YtpomnnfabpbmiaaGreatFns1
import Derived.Deep.RegionWith
import Derived.Laws.BytesArg
namespace Go.Proofs.YtpomnnfabpbmiaaGreat
open Go.RowKit
set_option linter.unusedVariables false

set_option maxRecDepth 100000 in
set_option maxHeartbeats 2000000 in
/-- seg.Len of a SYN without data -/
theorem len_syn (src dst seq ack win mss scale : Int) (w : World) :
    Calls Tryz.prog 47 #[.agg #[.int .u16 src, .int .u16 dst, .int .u32 seq, .int .u32 ack, .int .u8 2, .int .u16 win, .int .i64 mss, .int .i64 scale, .slice none 0 0]] w fun e w' => e = .returned (.int .i64 1) ∧
      (w.alloc (.cells #[.int .u16 src, .int .u16 dst, .int .u32 seq, .int .u32 ack, .int .u8 2, .int .u16 win, .int .i64 mss, .int .i64 scale, .slice none 0 0] 28)).alloc (.cells #[.int .u8 2, .int .u8 1] 5) = w' := by
  have b1 : (bits BinOp.and .u8 2 2 != 0) = true := by decide
  have b2 : (bits BinOp.and .u8 2 1 != 0) = false := by decide
  go_enter Tryz.func47, Tryz.ntmps47
  go_wp2
  refine wp_loop_rounds 3 ?_
  rw [rounds_succ]
  go_wp2
  rw [rounds_succ]
  go_wp2
  rw [rounds_succ]
  go_wp2
  go_ret
  exact ⟨rfl, rfl⟩

set_option maxRecDepth 100000 in
set_option maxHeartbeats 2000000 in
/-- two that are the same, without data -/
theorem same_refl (src dst seq ack fl win mss scale : Int) (w : World) :
    Calls Tryz.prog 28 #[.agg #[.int .u16 src, .int .u16 dst, .int .u32 seq, .int .u32 ack, .int .u8 fl, .int .u16 win, .int .i64 mss, .int .i64 scale, .slice none 0 0],
      .agg #[.int .u16 src, .int .u16 dst, .int .u32 seq, .int .u32 ack, .int .u8 fl, .int .u16 win, .int .i64 mss, .int .i64 scale, .slice none 0 0]] w fun e w' => e = .returned (.bool true) ∧ Mod [] w w' := by
  have kn := fun W : World => run_convert_bytes_nil (P := Tryz.prog) W 26 5 Tryz.underlying26 Tryz.underlying5 0 0 9 Tryz.underlying9
  go_enter Tryz.func28, Tryz.ntmps28
  go_wp2
  go_ret
  exact ⟨rfl, ((Mod.refl _ _).alloc _).alloc _⟩

set_option maxRecDepth 100000 in
set_option maxHeartbeats 2000000 in
/-- the page's example -/
theorem stray_live (w : World) : Calls Tryz.prog 17 #[.agg #[.int .u16 5, .int .u16 6, .int .u32 7, .int .u32 0, .int .u8 2, .int .u16 0, .int .i64 0, .int .i64 0, .slice none 0 0]] w fun e w' =>
    e = .returned (.tuple #[.agg #[.int .u16 6, .int .u16 5, .int .u32 0, .int .u32 8, .int .u8 20, .int .u16 0, .int .i64 0, .int .i64 0, .slice none 0 0], .bool true]) ∧ Mod [] w w' := by
  have b1 : (bits BinOp.and .u8 2 4 != 0) = false := by decide
  have b2 : (bits BinOp.and .u8 2 16 == 0) = true := by decide
  have e8 : sadd 7 1 = 8 := by decide
  go_enter Tryz.func17, Tryz.ntmps17
  go_wp2
  go_region_with (first | (go_at_call 47; refine (len_syn 5 6 7 0 0 0 0 _).mono ?_; rintro e w' ⟨rfl, rfl⟩) | (go_at_call 46; refine (add_spec _ _ _).mono ?_; rintro e w' ⟨rfl, rfl⟩))
  all_goals
    go_wp2
    refine bodyPost_ret (v := .tuple #[.agg #[.int .u16 6, .int .u16 5, .int .u32 0, .int .u32 8, .int .u8 20, .int .u16 0, .int .i64 0, .int .i64 0, .slice none 0 0], .bool true]) (by simp [results, Tryz.results17, go_sem]) rfl ⟨rfl, ?_⟩
    repeat (first | (with_reducible exact Mod.refl _ _) | (with_reducible refine Mod.drew ?_) | (with_reducible refine Mod.alloc ?_ _))

set_option maxRecDepth 100000 in
set_option maxHeartbeats 2000000 in
theorem live_spec (w : World) : Calls Tryz.prog 5 #[] w fun e w' => e = .returned (.bool true) ∧ Mod [] w w' := by
  go_enter Tryz.func5, Tryz.ntmps5
  go_wp2_with (first | (go_at_call 17; refine (stray_live _).mono ?_; rintro e w' ⟨rfl, hM1⟩) | (go_at_call 28; refine (same_refl 6 5 0 8 20 0 0 0 _).mono ?_; rintro e w' ⟨rfl, hM2⟩))
  go_ret
  exact ⟨rfl, (hM1.alloc _).trans hM2⟩

end Go.Proofs.YtpomnnfabpbmiaaGreat
