import Derived.Test.YtpomnnfabpbmiaaGreatLive
import Derived.Test.YtpomnnfabpbmiaaGreatNils
import Derived.Deep.RegionHeld3
namespace Go.Proofs.YtpomnnfabpbmiaaGreat
open Go.RowKit
set_option linter.unusedVariables false

/-- one if it holds -/
def one (b : Bool) : Int := if b then 1 else 0

set_option maxRecDepth 100000 in
set_option maxHeartbeats 2000000 in
theorem len_any (src dst seq ack fl win mss scale : Int) (a : Option Addr) (n cap : Nat) (w : World) (hn : n ≤ 1000) (s f : Bool) (b1 : (bits BinOp.and .u8 fl 2 != 0) = s) (b2 : (bits BinOp.and .u8 fl 1 != 0) = f) :
    Calls Tryz.prog 47 #[.agg #[.int .u16 src, .int .u16 dst, .int .u32 seq, .int .u32 ack, .int .u8 fl, .int .u16 win, .int .i64 mss, .int .i64 scale, .slice a n cap]] w fun e w' => e = .returned (.int .i64 (n + one s + one f)) ∧
      (w.alloc (.cells #[.int .u16 src, .int .u16 dst, .int .u32 seq, .int .u32 ack, .int .u8 fl, .int .u16 win, .int .i64 mss, .int .i64 scale, .slice a n cap] 28)).alloc (.cells #[.int .u8 2, .int .u8 1] 5) = w' := by
  cases s <;> cases f
  all_goals
    go_enter Tryz.func47, Tryz.ntmps47
    go_wp2
    refine wp_loop_rounds 3 ?_
    rw [rounds_succ]
    go_wp2
    rw [rounds_succ]
    go_wp2
    rw [rounds_succ]
    go_wp2
    go_ret
    exact ⟨ret_int (by simp [one] <;> omega), rfl⟩

theorem bits2 : ∀ k : Fin 256, (bits BinOp.and .u8 (k.val : Int) 2 != 0) = decide (((k.val : Int) / 2) % 2 = 1) := by decide +kernel
theorem bits1 : ∀ k : Fin 256, (bits BinOp.and .u8 (k.val : Int) 1 != 0) = decide ((k.val : Int) % 2 = 1) := by decide +kernel
theorem bits2_of (fl : Int) (h0 : 0 ≤ fl) (h1 : fl ≤ 255) : (bits BinOp.and .u8 fl 2 != 0) = decide ((fl / 2) % 2 = 1) := by
  have := bits2 ⟨fl.toNat, by omega⟩
  simpa [Int.toNat_of_nonneg h0] using this
theorem bits1_of (fl : Int) (h0 : 0 ≤ fl) (h1 : fl ≤ 255) : (bits BinOp.and .u8 fl 1 != 0) = decide (fl % 2 = 1) := by
  have := bits1 ⟨fl.toNat, by omega⟩
  simpa [Int.toNat_of_nonneg h0] using this

set_option maxRecDepth 100000 in
set_option maxHeartbeats 2000000 in
theorem rlen_any (src dst seq ack fl win mss scale : Int) (a : Option Addr) (n cap : Nat) (w : World) (hn : n ≤ 1000) (h0 : 0 ≤ fl) (h1 : fl ≤ 255) :
    Calls Tryz.prog 48 #[.agg #[.int .u16 src, .int .u16 dst, .int .u32 seq, .int .u32 ack, .int .u8 fl, .int .u16 win, .int .i64 mss, .int .i64 scale, .slice a n cap]] w fun e w' => e = .returned (.int .i64 (n + fl % 2 + fl / 2 % 2)) ∧
      w.alloc (.cells #[.int .u16 src, .int .u16 dst, .int .u32 seq, .int .u32 ack, .int .u8 fl, .int .u16 win, .int .i64 mss, .int .i64 scale, .slice a n cap] 28) = w' := by
  go_enter Tryz.func48, Tryz.ntmps48
  go_wp2
  go_ret
  exact ⟨ret_int rfl, rfl⟩

set_option maxRecDepth 100000 in
set_option maxHeartbeats 2000000 in
theorem radd_any (a n : Int) (w : World) (h0 : 0 ≤ a) (h1 : a < 4294967296) (h2 : 0 ≤ n) (h3 : n ≤ 2000) :
    Calls Tryz.prog 15 #[.int .u32 a, .int .i64 n] w fun e w' => e = .returned (.int .u32 (sadd a n)) ∧ w = w' := by
  go_enter Tryz.func15, Tryz.ntmps15
  go_wp2
  go_ret
  refine ⟨ret_int ?_, rfl⟩
  unfold sadd
  omega

end Go.Proofs.YtpomnnfabpbmiaaGreat
