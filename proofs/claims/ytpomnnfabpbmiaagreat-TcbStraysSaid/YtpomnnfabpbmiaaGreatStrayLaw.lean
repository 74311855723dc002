import Derived.Test.YtpomnnfabpbmiaaGreatStray2
import Derived.Test.YtpomnnfabpbmiaaGreatStray3
import Derived.Test.YtpomnnfabpbmiaaGreatMore
import Derived.Test.YtpomnnfabpbmiaaGreatCodeQuad
namespace Go.Proofs.YtpomnnfabpbmiaaGreat
open Go.RowKit
set_option linter.unusedVariables false

/-- Both answer the same. -/
theorem stray_both (src dst seq ack fl win mss scale : Int) (a : Option Addr) (n cap : Nat) (hn : n ≤ 1000) (f0 : 0 ≤ fl) (f1 : fl ≤ 255) (q0 : 0 ≤ seq) (q1 : seq < 4294967296) :
    ∃ (s' d' q' k' f' : Int) (ok : Bool), (∀ w, Calls Tryz.prog 17 #[.agg #[.int .u16 src, .int .u16 dst, .int .u32 seq, .int .u32 ack, .int .u8 fl, .int .u16 win, .int .i64 mss, .int .i64 scale, .slice a n cap]] w fun e w' => e = .returned (.tuple #[.agg #[.int .u16 s', .int .u16 d', .int .u32 q', .int .u32 k', .int .u8 f', .int .u16 0, .int .i64 0, .int .i64 0, .slice none 0 0], .bool ok]) ∧ Mod [] w w') ∧
      (∀ w, Calls Tryz.prog 18 #[.agg #[.int .u16 src, .int .u16 dst, .int .u32 seq, .int .u32 ack, .int .u8 fl, .int .u16 win, .int .i64 mss, .int .i64 scale, .slice a n cap]] w fun e w' => e = .returned (.tuple #[.agg #[.int .u16 s', .int .u16 d', .int .u32 q', .int .u32 k', .int .u8 f', .int .u16 0, .int .i64 0, .int .i64 0, .slice none 0 0], .bool ok]) ∧ Mod [] w w') := by
  cases b4 : (bits BinOp.and .u8 fl 4 != 0) with
  | true => exact ⟨0, 0, 0, 0, 0, false, fun w => stray_rst src dst seq ack fl win mss scale a n cap w b4, fun w => rstray_rst src dst seq ack fl win mss scale a n cap w b4⟩
  | false =>
    cases b16 : (bits BinOp.and .u8 fl 16 != 0) with
    | true =>
      have b16' : (bits BinOp.and .u8 fl 16 == 0) = false := by simpa using b16
      exact ⟨dst, src, ack, 0, 4, true, fun w => stray_ack src dst seq ack fl win mss scale a n cap w b4 b16', fun w => rstray_ack src dst seq ack fl win mss scale a n cap w b4 b16⟩
    | false =>
      have b16' : (bits BinOp.and .u8 fl 16 == 0) = true := by simpa using b16
      have e : (n : Int) + fl % 2 + fl / 2 % 2 = n + one (decide ((fl / 2) % 2 = 1)) + one (decide (fl % 2 = 1)) := by
        unfold one
        simp only [decide_eq_true_eq]
        split <;> split <;> omega
      refine ⟨dst, src, 0, sadd seq (n + fl % 2 + fl / 2 % 2), 20, true, fun w => ?_, fun w => rstray_none src dst seq ack fl win mss scale a n cap w b4 b16 hn f0 f1 q0 q1⟩
      rw [e]
      exact stray_none src dst seq ack fl win mss scale a n cap w b4 b16' hn _ _ (bits2_of fl f0 f1) (bits1_of fl f0 f1)

set_option maxRecDepth 100000 in
set_option maxHeartbeats 1000000 in
theorem strays_long (src dst seq ack fl win mss scale : Int) (a : Option Addr) (n cap : Nat) (ad at_ an : Int) (w : World) (hn : 1000 < n) (hm : n ≤ 9223372036854775807) :
    Calls Tryz.prog 4 #[.agg #[.int .u16 src, .int .u16 dst, .int .u32 seq, .int .u32 ack, .int .u8 fl, .int .u16 win, .int .i64 mss, .int .i64 scale, .slice a n cap], .agg #[.int .i64 ad, .int .i64 at_, .int .i64 an]] w fun e w' => e = .returned (.bool true) ∧ Mod [] w w' := by
  go_enter Tryz.func4, Tryz.ntmps4
  go_wp2_with (go_at_call 5; refine (live_spec _).mono ?_; rintro e w3 ⟨rfl, hM3⟩)
  go_ret
  exact ⟨rfl, (((Mod.refl [] w).alloc _).alloc _).trans hM3⟩

set_option maxRecDepth 100000 in
set_option maxHeartbeats 8000000 in
theorem strays_main (src dst seq ack fl win mss scale : Int) (a : Option Addr) (n cap : Nat) (ad at_ an : Int) (w : World) (hn : n ≤ 1000) (f0 : 0 ≤ fl) (f1 : fl ≤ 255) (q0 : 0 ≤ seq) (q1 : seq < 4294967296) :
    Calls Tryz.prog 4 #[.agg #[.int .u16 src, .int .u16 dst, .int .u32 seq, .int .u32 ack, .int .u8 fl, .int .u16 win, .int .i64 mss, .int .i64 scale, .slice a n cap], .agg #[.int .i64 ad, .int .i64 at_, .int .i64 an]] w fun e w' => e = .returned (.bool true) ∧ Mod [] w w' := by
  obtain ⟨s', d', q', k', f', ok, hs, hr⟩ := stray_both src dst seq ack fl win mss scale a n cap hn f0 f1 q0 q1
  have HS := Lib.hid hs
  have HR := Lib.hid hr
  clear hs hr
  go_enter Tryz.func4, Tryz.ntmps4
  go_wp2_with fail
  refine (HS.out _).mono ?_
  rintro e w1 ⟨rfl, hM1⟩
  have hA1 : Blk w1 w.heap.size 28 [.int .u16 src, .int .u16 dst, .int .u32 seq, .int .u32 ack, .int .u8 fl, .int .u16 win, .int .i64 mss, .int .i64 scale, .slice a n cap] := hM1.blk ((Blk.new w _ _).alloc _) (by simp)
  have hB1 : Blk w1 (w.heap.size + 1) 55 [.int .i64 ad, .int .i64 at_, .int .i64 an] := hM1.blk (Blk.new' (by simp) _ _) (by simp)
  have l1 := hA1.lt
  have p0 : w1.cell? ⟨w.heap.size, 0, none⟩ = some (.int .u16 src) := hA1.cell 0
  have p1 : w1.cell? ⟨w.heap.size, 1, none⟩ = some (.int .u16 dst) := hA1.cell 1
  have p2 : w1.cell? ⟨w.heap.size, 2, none⟩ = some (.int .u32 seq) := hA1.cell 2
  have p3 : w1.cell? ⟨w.heap.size, 3, none⟩ = some (.int .u32 ack) := hA1.cell 3
  have p4 : w1.cell? ⟨w.heap.size, 4, none⟩ = some (.int .u8 fl) := hA1.cell 4
  have p5 : w1.cell? ⟨w.heap.size, 5, none⟩ = some (.int .u16 win) := hA1.cell 5
  have p6 : w1.cell? ⟨w.heap.size, 6, none⟩ = some (.int .i64 mss) := hA1.cell 6
  have p7 : w1.cell? ⟨w.heap.size, 7, none⟩ = some (.int .i64 scale) := hA1.cell 7
  have p8 : w1.cell? ⟨w.heap.size, 8, none⟩ = some (.slice a n cap) := hA1.cell 8
  go_wp2_with fail
  refine (HR.out _).mono ?_
  rintro e w2 ⟨rfl, hM2⟩
  clear p0 p1 p2 p3 p4 p5 p6 p7 p8
  have hA2 := hM2.blk (hA1.alloc _) (by simp)
  have hB2 := hM2.blk (hB1.alloc _) (by simp)
  have hX2 : Blk w2 w1.heap.size 28 [.int .u16 s', .int .u16 d', .int .u32 q', .int .u32 k', .int .u8 f', .int .u16 0, .int .i64 0, .int .i64 0, .slice none 0 0] := hM2.blk (Blk.new w1 _ _) (by simp)
  have l2 := hA2.lt
  clear l1
  have p0 : w2.cell? ⟨w.heap.size, 0, none⟩ = some (.int .u16 src) := hA2.cell 0
  have p1 : w2.cell? ⟨w.heap.size, 1, none⟩ = some (.int .u16 dst) := hA2.cell 1
  have p2 : w2.cell? ⟨w.heap.size, 2, none⟩ = some (.int .u32 seq) := hA2.cell 2
  have p3 : w2.cell? ⟨w.heap.size, 3, none⟩ = some (.int .u32 ack) := hA2.cell 3
  have p4 : w2.cell? ⟨w.heap.size, 4, none⟩ = some (.int .u8 fl) := hA2.cell 4
  have p5 : w2.cell? ⟨w.heap.size, 5, none⟩ = some (.int .u16 win) := hA2.cell 5
  have p6 : w2.cell? ⟨w.heap.size, 6, none⟩ = some (.int .i64 mss) := hA2.cell 6
  have p7 : w2.cell? ⟨w.heap.size, 7, none⟩ = some (.int .i64 scale) := hA2.cell 7
  have p8 : w2.cell? ⟨w.heap.size, 8, none⟩ = some (.slice a n cap) := hA2.cell 8
  go_wp2_with fail
  refine (nil_input _ 0 src dst seq ack fl win mss scale a n cap).mono ?_
  rintro e w3 ⟨rfl, hM3⟩
  clear p0 p1 p2 p3 p4 p5 p6 p7 p8 l2
  have hA3 := hM3.blk (hA2.alloc _) (by simp)
  have hB3 := hM3.blk (hB2.alloc _) (by simp)
  have hX3 := hM3.blk (hX2.alloc _) (by simp)
  have hY3 : Blk w3 w2.heap.size 28 [.int .u16 s', .int .u16 d', .int .u32 q', .int .u32 k', .int .u8 f', .int .u16 0, .int .i64 0, .int .i64 0, .slice none 0 0] := hM3.blk (Blk.new w2 _ _) (by simp)
  have p8 : w3.cell? ⟨w.heap.size, 8, none⟩ = some (.slice a n cap) := hA3.cell 8
  have p2 : w3.cell? ⟨w.heap.size + 1, 2, none⟩ = some (.int .i64 an) := hB3.cell 2
  go_wp2_with (first | (go_at_call 19; refine (nil_tick _ _).mono ?_; rintro e w' ⟨rfl, rfl⟩) | (go_at_call 20; refine (nil_leave _ _).mono ?_; rintro e w' ⟨rfl, rfl⟩) | (go_at_call 21; refine (nil_abort _ _).mono ?_; rintro e w' ⟨rfl, rfl⟩) | (go_at_call 22; refine (nil_send _ _ _).mono ?_; rintro e w' ⟨rfl, rfl⟩) | (go_at_call 23; refine (nil_recv _ _ _).mono ?_; rintro e w' ⟨rfl, rfl⟩) | (go_at_call 24; refine (nil_next _).mono ?_; rintro e w' ⟨rfl, rfl⟩) | (go_at_call 10; refine (nil_out _).mono ?_; rintro e w' ⟨rfl, rfl⟩) | (go_at_call 13; refine (nil_state _).mono ?_; rintro e w' ⟨rfl, rfl⟩) | (go_at_call 25; refine (nil_shut _ _).mono ?_; rintro e w' ⟨rfl, rfl⟩) | (go_at_call 14; refine (nil_fault _).mono ?_; rintro e w' ⟨rfl, rfl⟩) | (go_at_call 27; refine (nil_take _).mono ?_; rintro e w' ⟨rfl, rfl⟩) | (go_at_call 8; refine (code_spec _ _).mono ?_; rintro e w' ⟨rfl, rfl⟩) | (go_at_call 16; refine (nil_vars _).mono ?_; rintro e w4 ⟨rfl, hM4⟩) | (go_at_call 26; refine (nil_quad _).mono ?_; rintro e w5 ⟨rfl, hM5⟩; have hX5 := hM5.blk (hM4.blk hX3 (by simp)) (by simp); have hY5 := hM5.blk (hM4.blk hY3 (by simp)) (by simp); have x0 : w5.cell? ⟨w1.heap.size, 0, none⟩ = some (.int .u16 s') := hX5.cell 0; have x1 : w5.cell? ⟨w1.heap.size, 1, none⟩ = some (.int .u16 d') := hX5.cell 1; have x2 : w5.cell? ⟨w1.heap.size, 2, none⟩ = some (.int .u32 q') := hX5.cell 2; have x3 : w5.cell? ⟨w1.heap.size, 3, none⟩ = some (.int .u32 k') := hX5.cell 3; have x4 : w5.cell? ⟨w1.heap.size, 4, none⟩ = some (.int .u8 f') := hX5.cell 4; have x5 : w5.cell? ⟨w1.heap.size, 5, none⟩ = some (.int .u16 0) := hX5.cell 5; have x6 : w5.cell? ⟨w1.heap.size, 6, none⟩ = some (.int .i64 0) := hX5.cell 6; have x7 : w5.cell? ⟨w1.heap.size, 7, none⟩ = some (.int .i64 0) := hX5.cell 7; have x8 : w5.cell? ⟨w1.heap.size, 8, none⟩ = some (.slice none 0 0) := hX5.cell 8; have y0 : w5.cell? ⟨w2.heap.size, 0, none⟩ = some (.int .u16 s') := hY5.cell 0; have y1 : w5.cell? ⟨w2.heap.size, 1, none⟩ = some (.int .u16 d') := hY5.cell 1; have y2 : w5.cell? ⟨w2.heap.size, 2, none⟩ = some (.int .u32 q') := hY5.cell 2; have y3 : w5.cell? ⟨w2.heap.size, 3, none⟩ = some (.int .u32 k') := hY5.cell 3; have y4 : w5.cell? ⟨w2.heap.size, 4, none⟩ = some (.int .u8 f') := hY5.cell 4; have y5 : w5.cell? ⟨w2.heap.size, 5, none⟩ = some (.int .u16 0) := hY5.cell 5; have y6 : w5.cell? ⟨w2.heap.size, 6, none⟩ = some (.int .i64 0) := hY5.cell 6; have y7 : w5.cell? ⟨w2.heap.size, 7, none⟩ = some (.int .i64 0) := hY5.cell 7; have y8 : w5.cell? ⟨w2.heap.size, 8, none⟩ = some (.slice none 0 0) := hY5.cell 8) | (go_at_call 28; refine (same_refl s' d' q' k' f' 0 0 0 _).mono ?_; rintro e w6 ⟨rfl, hM6⟩) | (go_at_call 5; refine (live_spec _).mono ?_; rintro e w7 ⟨rfl, hM7⟩))
  go_ret
  exact ⟨rfl, ((((((((((Mod.refl [] w).alloc _).alloc _).trans hM1).alloc _).trans hM2).alloc _).trans hM3).trans hM4).trans hM5).trans hM6 |>.trans hM7⟩

end Go.Proofs.YtpomnnfabpbmiaaGreat
