import Derived.Test.YtpomnnfabpbmiaaGreatStray
namespace Go.Proofs.YtpomnnfabpbmiaaGreat
open Go.RowKit
set_option linter.unusedVariables false

set_option maxRecDepth 100000 in
set_option maxHeartbeats 4000000 in
theorem rstray_none (src dst seq ack fl win mss scale : Int) (a : Option Addr) (n cap : Nat) (w : World) (b4 : (bits BinOp.and .u8 fl 4 != 0) = false) (b16 : (bits BinOp.and .u8 fl 16 != 0) = false) (hn : n ≤ 1000) (f0 : 0 ≤ fl) (f1 : fl ≤ 255) (q0 : 0 ≤ seq) (q1 : seq < 4294967296) :
    Calls Tryz.prog 18 #[.agg #[.int .u16 src, .int .u16 dst, .int .u32 seq, .int .u32 ack, .int .u8 fl, .int .u16 win, .int .i64 mss, .int .i64 scale, .slice a n cap]] w fun e w' => e = .returned (.tuple #[.agg #[.int .u16 dst, .int .u16 src, .int .u32 0, .int .u32 (sadd seq (n + fl % 2 + fl / 2 % 2)), .int .u8 20, .int .u16 0, .int .i64 0, .int .i64 0, .slice none 0 0], .bool true]) ∧ Mod [] w w' := by
  go_enter Tryz.func18, Tryz.ntmps18
  go_wp2
  go_region_held3 (fun w' => w'.cell? ⟨w.heap.size, 0, none⟩ = some (.int .u16 src) ∧ w'.cell? ⟨w.heap.size, 1, none⟩ = some (.int .u16 dst) ∧ w'.cell? ⟨w.heap.size, 2, none⟩ = some (.int .u32 seq) ∧ w'.cell? ⟨w.heap.size, 3, none⟩ = some (.int .u32 ack) ∧ w'.cell? ⟨w.heap.size, 4, none⟩ = some (.int .u8 fl) ∧ w'.cell? ⟨w.heap.size, 5, none⟩ = some (.int .u16 win) ∧ w'.cell? ⟨w.heap.size, 6, none⟩ = some (.int .i64 mss) ∧ w'.cell? ⟨w.heap.size, 7, none⟩ = some (.int .i64 scale) ∧ w'.cell? ⟨w.heap.size, 8, none⟩ = some (.slice a n cap)) (go_keep) (first | (go_at_call 48; refine (rlen_any src dst seq ack fl win mss scale a n cap _ hn f0 f1).mono ?_; rintro e w' ⟨rfl, rfl⟩) | (go_at_call 15; refine (radd_any _ _ _ q0 q1 (by omega) (by omega)).mono ?_; rintro e w' ⟨rfl, rfl⟩))
  all_goals
    go_wp2
    refine bodyPost_ret (v := .tuple #[.agg #[.int .u16 dst, .int .u16 src, .int .u32 0, .int .u32 (sadd seq (n + fl % 2 + fl / 2 % 2)), .int .u8 20, .int .u16 0, .int .i64 0, .int .i64 0, .slice none 0 0], .bool true]) (by simp [results, Tryz.results18, go_sem]) rfl ⟨rfl, ?_⟩
    repeat (first | (with_reducible exact Mod.refl _ _) | (with_reducible refine Mod.drew ?_) | (with_reducible refine Mod.alloc ?_ _))

end Go.Proofs.YtpomnnfabpbmiaaGreat
