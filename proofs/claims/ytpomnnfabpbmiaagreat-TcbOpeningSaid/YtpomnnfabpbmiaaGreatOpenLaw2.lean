import Derived.Test.YtpomnnfabpbmiaaGreatOpenLaw
import Derived.Deep.RegionWith
namespace Go.Proofs.YtpomnnfabpbmiaaGreat
open Go.RowKit
set_option linter.unusedVariables false

set_option maxRecDepth 100000 in
set_option maxHeartbeats 2000000 in
theorem olaw_out (c : Cfg) (iss src dst seq ack fl win mss scale : Int) (a : Option Addr) (n cap : Nat) (w : World) (hn : 1000 < (n : Int) ∨ (n : Int) ≤ 1000 ∧ (scale < 0 ∨ 0 ≤ scale ∧ (15 < scale ∨ scale ≤ 15 ∧ (mss < 0 ∨ 0 ≤ mss ∧ 65535 < mss)))) (hm : n ≤ 9223372036854775807) :
    Calls Tryz.prog 3 #[.agg #[.int .i64 c.mss, .int .i64 c.snd, .int .i64 c.rcv, .int .i64 c.least, .int .i64 c.most, .int .i64 c.first, .int .i64 c.tries, .int .i64 c.msl, .int .i64 c.user], .int .u32 iss, .agg #[.int .u16 src, .int .u16 dst, .int .u32 seq, .int .u32 ack, .int .u8 fl, .int .u16 win, .int .i64 mss, .int .i64 scale, .slice a n cap]] w fun e w' => e = .returned (.bool true) ∧ Mod [] w w' := by
  rcases hn with h1 | ⟨h1, h2 | ⟨h2, h3 | ⟨h3, h4 | ⟨h4, h5⟩⟩⟩⟩
  all_goals
    go_enter Tryz.func3, Tryz.ntmps3
    go_wp2_with (go_at_call 5; refine (live_spec _).mono ?_; rintro e w3 ⟨rfl, hM3⟩)
    go_ret
    exact ⟨rfl, (((Mod.refl [] w).alloc _).alloc _).trans hM3⟩

set_option maxRecDepth 100000 in
set_option maxHeartbeats 4000000 in
theorem olaw_bad (c : Cfg) (iss src dst seq ack fl win mss scale : Int) (a : Option Addr) (n cap : Nat) (w : World) (hn : (n : Int) ≤ 1000) (hs0 : 0 ≤ scale) (hs1 : scale ≤ 15) (hm0 : 0 ≤ mss) (hm1 : mss ≤ 65535) (hc : ¬ c.ok) :
    Calls Tryz.prog 3 #[.agg #[.int .i64 c.mss, .int .i64 c.snd, .int .i64 c.rcv, .int .i64 c.least, .int .i64 c.most, .int .i64 c.first, .int .i64 c.tries, .int .i64 c.msl, .int .i64 c.user], .int .u32 iss, .agg #[.int .u16 src, .int .u16 dst, .int .u32 seq, .int .u32 ack, .int .u8 fl, .int .u16 win, .int .i64 mss, .int .i64 scale, .slice a n cap]] w fun e w' => e = .returned (.bool true) ∧ Mod [] w w' := by
  have HC := Lib.hid hc
  clear hc
  go_enter Tryz.func3, Tryz.ntmps3
  go_wp2_with fail
  go_region_with (first | (go_at_call 7; refine (quad_spec _).mono ?_; rintro e w1 ⟨rfl, hM1⟩; have b0 : ∀ j, w1.cell? ⟨w.heap.size, j, none⟩ = c.vals[j]? := fun j => (hM1.blk (Blk.drew ((Blk.new w 23 c.vals).alloc _)) (by simp)).cell j; have b0' := b0 0; have b1' := b0 1; have b2' := b0 2; have b3' := b0 3; have b4' := b0 4; have b5' := b0 5; have b6' := b0 6; have b7' := b0 7; have b8' := b0 8; clear b0; simp [Cfg.vals] at b0' b1' b2' b3' b4' b5' b6' b7' b8') | (go_at_call 6; refine (open_bad c _ _ _ _ _ _ _ (.inl HC.out)).mono ?_; rintro e w2 ⟨rfl, hM2⟩))
  all_goals
    have hC2 := hM2.blk (hM1.blk (Blk.drew ((Blk.new w 23 c.vals).alloc (.cells #[.int .u16 src, .int .u16 dst, .int .u32 seq, .int .u32 ack, .int .u8 fl, .int .u16 win, .int .i64 mss, .int .i64 scale, .slice a n cap] 28 (0, 0)))) (by simp)) (by simp)
    have d0 : w2.cell? ⟨w.heap.size, 0, none⟩ = some (.int .i64 c.mss) := hC2.cell 0
    have d1 : w2.cell? ⟨w.heap.size, 1, none⟩ = some (.int .i64 c.snd) := hC2.cell 1
    have d2 : w2.cell? ⟨w.heap.size, 2, none⟩ = some (.int .i64 c.rcv) := hC2.cell 2
    have d3 : w2.cell? ⟨w.heap.size, 3, none⟩ = some (.int .i64 c.least) := hC2.cell 3
    have d4 : w2.cell? ⟨w.heap.size, 4, none⟩ = some (.int .i64 c.most) := hC2.cell 4
    have d5 : w2.cell? ⟨w.heap.size, 5, none⟩ = some (.int .i64 c.first) := hC2.cell 5
    have d6 : w2.cell? ⟨w.heap.size, 6, none⟩ = some (.int .i64 c.tries) := hC2.cell 6
    have d7 : w2.cell? ⟨w.heap.size, 7, none⟩ = some (.int .i64 c.msl) := hC2.cell 7
    have d8 : w2.cell? ⟨w.heap.size, 8, none⟩ = some (.int .i64 c.user) := hC2.cell 8
    clear hC2
    go_wp2_with (first | (go_at_call 8; refine (code_spec _ _).mono ?_; rintro e w' ⟨rfl, rfl⟩) | (go_at_call 9; refine (rcheck_no c _ HC.out).mono ?_; rintro e w4 ⟨rfl, hM4⟩) | (go_at_call 5; refine (live_spec _).mono ?_; rintro e w3 ⟨rfl, hM3⟩))
    go_ret
    exact ⟨rfl, (((((((Mod.refl [] w).alloc _).alloc _).drew.trans hM1).trans hM2)).trans hM4).trans hM3⟩
end Go.Proofs.YtpomnnfabpbmiaaGreat
