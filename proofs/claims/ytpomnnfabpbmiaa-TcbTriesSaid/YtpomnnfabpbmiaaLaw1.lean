import Derived.Test.YtpomnnfabpbmiaaSynSt
import Derived.Test.YtpomnnfabpbmiaaLive
import Derived.Deep.DeepCutAuto
namespace Go.Proofs.Ytpomnnfabpbmiaa
open Go.RowKit
set_option linter.unusedVariables false

set_option maxHeartbeats 400000 in
theorem code_spec (e : Int) (w : World) : Calls Try.prog 6 #[.int .i64 e] w fun e' w' => e' = .returned (.int .i64 e) ∧ w = w' := by
  go_enter Try.func6, Try.ntmps6
  go_wp2
  go_ret
  exact ⟨rfl, rfl⟩

set_option maxRecDepth 100000 in
set_option maxHeartbeats 1000000 in
theorem quad_spec (w : World) : Calls Try.prog 5 #[.int .i64 0] w fun e w' => e = .returned (.agg #[.int .u32 1, .int .u16 1000, .int .u32 2, .int .u16 80]) ∧ Mod [] w w' := by
  go_enter Try.func5, Try.ntmps5
  go_wp2
  refine bodyPost_ret (v := .agg #[.int .u32 1, .int .u16 1000, .int .u32 2, .int .u16 80]) (by simp [results, Try.results5, go_sem]) rfl ⟨rfl, ?_⟩
  repeat (first | (with_reducible exact Mod.refl _ _) | (with_reducible refine Mod.drew ?_) | (with_reducible refine Mod.alloc ?_ _))

set_option maxRecDepth 100000 in
set_option maxHeartbeats 2000000 in
theorem law_bad (c : Cfg) (now : Int) (w : World) (hc : ¬ c.ok ∨ (c.ok ∧ (now < 0 ∨ 1099511627776 < now))) :
    Calls Try.prog 3 #[.agg #[.int .i64 c.mss, .int .i64 c.snd, .int .i64 c.rcv, .int .i64 c.least, .int .i64 c.most, .int .i64 c.first, .int .i64 c.tries, .int .i64 c.msl, .int .i64 c.user], .int .i64 now] w fun e w' => e = .returned (.bool true) ∧ Mod [] w w' := by
  have HC := Lib.hid hc
  clear hc
  go_enter Try.func3, Try.ntmps3
  go_wp2_with fail
  go_region_with (first | (go_at_call 5; refine (quad_spec _).mono ?_; rintro e w1 ⟨rfl, hM1⟩; have b0 : ∀ j, w1.cell? ⟨w.heap.size, j, none⟩ = c.vals[j]? := fun j => (hM1.blk (Blk.drew (Blk.new w 23 c.vals)) (by simp)).cell j; have b0' := b0 0; have b1' := b0 1; have b2' := b0 2; have b3' := b0 3; have b4' := b0 4; have b5' := b0 5; have b6' := b0 6; have b7' := b0 7; have b8' := b0 8; clear b0; simp [Cfg.vals] at b0' b1' b2' b3' b4' b5' b6' b7' b8') | (go_at_call 4; refine (open_bad c _ _ _ _ _ _ _ HC.out).mono ?_; rintro e w2 ⟨rfl, hM2⟩))
  all_goals
    go_wp2_with (first | (go_at_call 6; refine (code_spec _ _).mono ?_; rintro e w' ⟨rfl, rfl⟩) | (go_at_call 7; refine (live_spec _).mono ?_; rintro e w3 ⟨rfl, hM3⟩))
    go_ret
    exact ⟨rfl, (((((Mod.refl [] w).alloc _).drew.trans hM1).trans hM2)).trans hM3⟩

/-- behind the opening -/
def OpenCut (c : Cfg) (now : Int) (w : World) (x e : Value) (wx : World) : Prop :=
  ∃ (p b r : Nat) (out : Value), x = .pointer (some ⟨p, 0, none⟩) ∧ e = .int .i64 0 ∧ SynAt wx p b r c now 0 now out ∧ Blk wx w.heap.size 23 c.vals ∧ w.heap.size < p ∧ w.heap.size < b ∧ w.heap.size < r ∧ Mod [] w wx

theorem openCut_of {c : Cfg} {now : Int} {w w1 w2 : World} {p b r s e2 g2 g cap : Nat} (hM1 : Mod [] (w.alloc (.cells c.vals.toArray 23 (0, 0))).drew w1)
    (hX : ConnAt w2 p (opened c 1 1000 2 80 7 now s b e2 r g2 (.slice (some ⟨g, 0, none⟩) 1 cap))) (hH : Blk w2 b 93 (hoseCells c.rcv (.slice none 0 0) 0 0 0 0)) (hR : Blk w2 r 91 (rtoCells c.least c.most 0 0 false c.first 0))
    (hp : w1.heap.size ≤ p) (hb : w1.heap.size ≤ b) (hr : w1.heap.size ≤ r) (hM2 : Mod [] w1 w2) : OpenCut c now w (.pointer (some ⟨p, 0, none⟩)) (.int .i64 0) w2 := by
  have hsz := hM1.size
  simp at hsz
  exact ⟨p, b, r, _, rfl, rfl, ⟨⟨_, hX, ⟨rfl, rfl, rfl, rfl, rfl, rfl, rfl, rfl, rfl, rfl, rfl, rfl, rfl, rfl, rfl, rfl, rfl⟩⟩, hH, hR⟩,
    hM2.blk (hM1.blk (Blk.drew (Blk.new w 23 c.vals)) (by simp)) (by simp), by omega, by omega, by omega, (((Mod.refl [] w).alloc _).drew.trans hM1).trans hM2⟩

set_option maxRecDepth 100000 in
set_option maxHeartbeats 4000000 in
theorem law_late (c : Cfg) (now : Int) (w : World) (hc : c.ok) (hn1 : 0 ≤ now) (hn2 : now ≤ 1099511627776) (hl : 1099507433472 < now) :
    Calls Try.prog 3 #[.agg #[.int .i64 c.mss, .int .i64 c.snd, .int .i64 c.rcv, .int .i64 c.least, .int .i64 c.most, .int .i64 c.first, .int .i64 c.tries, .int .i64 c.msl, .int .i64 c.user], .int .i64 now] w fun e w' => e = .returned (.bool true) ∧ Mod [] w w' := by
  have HC := Lib.hid hc
  clear hc
  go_enter Try.func3, Try.ntmps3
  go_upto_region 1 with fail
  go_cut [5, 6] (fun x e wx => OpenCut c now w x e wx)
  case first =>
    go_region_with (first | (go_at_call 5; refine (quad_spec _).mono ?_; rintro e w1 ⟨rfl, hM1⟩; have b0 : ∀ j, w1.cell? ⟨w.heap.size, j, none⟩ = c.vals[j]? := fun j => (hM1.blk (Blk.drew (Blk.new w 23 c.vals)) (by simp)).cell j; have b0' := b0 0; have b1' := b0 1; have b2' := b0 2; have b3' := b0 3; have b4' := b0 4; have b5' := b0 5; have b6' := b0 6; have b7' := b0 7; have b8' := b0 8; clear b0; simp [Cfg.vals] at b0' b1' b2' b3' b4' b5' b6' b7' b8') | (go_at_call 4; refine (open_ok c _ _ _ _ _ _ _ HC.out ⟨by omega, by omega⟩).mono ?_; rintro e w2 ⟨p, b, r, s, e2, g2, g, cap, rfl, hX, hH, hR, hp, hb, hr, hM2⟩))
    all_goals
      go_wp2_with fail
      go_meet
      exact openCut_of hM1 hX hH hR hp hb hr hM2
  case rest =>
    obtain ⟨p, b, r, out, rfl, rfl, hS, hB, hp, hb, hr, hM⟩ := hcut
    go_wp2_with (first | (go_at_call 6; refine (code_spec _ _).mono ?_; rintro e w' ⟨rfl, rfl⟩) | (go_at_call 7; refine (live_spec _).mono ?_; rintro e w3 ⟨rfl, hM3⟩))
    go_ret
    exact ⟨rfl, hM.trans hM3⟩

end Go.Proofs.Ytpomnnfabpbmiaa
