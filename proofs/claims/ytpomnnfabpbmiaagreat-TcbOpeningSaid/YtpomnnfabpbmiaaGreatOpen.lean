import Derived.Test.YtpomnnfabpbmiaaGreatMade
namespace Go.Proofs.YtpomnnfabpbmiaaGreat
open Go.RowKit
set_option linter.unusedVariables false

set_option maxRecDepth 100000 in
set_option maxHeartbeats 2000000 in
theorem open_bad (c : Cfg) (la lp ra rp iss now : Int) (w : World) (hc : ¬ c.ok ∨ (c.ok ∧ (now < 0 ∨ 1099511627776 < now))) :
    Calls Tryz.prog 6 #[.agg #[.int .i64 c.mss, .int .i64 c.snd, .int .i64 c.rcv, .int .i64 c.least, .int .i64 c.most, .int .i64 c.first, .int .i64 c.tries, .int .i64 c.msl, .int .i64 c.user], .agg #[.int .u32 la, .int .u16 lp, .int .u32 ra, .int .u16 rp], .int .u32 iss, .int .i64 now] w fun e w' => e = .returned (.tuple #[.pointer none, .int .i64 1]) ∧ Mod [] w w' := by
  have HM : ∀ w, Calls Tryz.prog 29 #[.agg #[.int .i64 c.mss, .int .i64 c.snd, .int .i64 c.rcv, .int .i64 c.least, .int .i64 c.most, .int .i64 c.first, .int .i64 c.tries, .int .i64 c.msl, .int .i64 c.user], .agg #[.int .u32 la, .int .u16 lp, .int .u32 ra, .int .u16 rp], .int .u32 iss, .int .i64 now] w fun e w' => e = .returned (.tuple #[.pointer none, .int .i64 1]) ∧ Mod [] w w' := by
    intro w
    rcases hc with h | ⟨h1, h2⟩
    · exact made_bad c la lp ra rp iss now w h
    · exact made_early c la lp ra rp iss now w h1 h2
  have HH := Lib.hid HM
  clear HM hc
  go_enter Tryz.func6, Tryz.ntmps6
  go_wp2_with fail
  refine (HH.out _).mono ?_
  rintro e w1 ⟨rfl, hM⟩
  go_wp2
  go_ret2
  exact ⟨rfl, (((Mod.refl _ _).alloc _).alloc _).trans hM⟩

/-- what Open has made: the connection at p, its hose at b, its clock at r -/
def opened (c : Cfg) (la lp ra rp iss now : Int) (s b e r g : Nat) (out : Value) : Conn :=
  { Conn.fresh c la lp ra rp iss now (min c.mss 536) with snd := .pointer (some ⟨s, 0, none⟩), inn := .pointer (some ⟨b, 0, none⟩), early := .pointer (some ⟨e, 0, none⟩), rto := .pointer (some ⟨r, 0, none⟩), cong := .pointer (some ⟨g, 0, none⟩), state := 1, userAt := now + c.user, user := true, out := out, nxt := sadd iss 1, top := smax iss (sadd iss 1), againAt := now + c.first, again := true }
def OpenPost (c : Cfg) (la lp ra rp iss now : Int) (w : World) (e : Ending) (w' : World) : Prop :=
  ∃ p b r s e2 g2 g cap : Nat, e = .returned (.tuple #[.pointer (some ⟨p, 0, none⟩), .int .i64 0]) ∧ ConnAt w' p (opened c la lp ra rp iss now s b e2 r g2 (.slice (some ⟨g, 0, none⟩) 1 cap)) ∧
    Blk w' b 111 (hoseCells c.rcv (.slice none 0 0) 0 0 0 0) ∧ Blk w' r 113 (rtoCells c.least c.most 0 0 false c.first 0) ∧ w.heap.size ≤ p ∧ w.heap.size ≤ b ∧ w.heap.size ≤ r ∧ Mod [] w w'

def OpenPost2 (c : Cfg) (la lp ra rp iss now : Int) (w : World) (e : Ending) (w' : World) : Prop :=
  ∃ p b r s e2 g2 g cap : Nat, e = .returned (.tuple #[.pointer (some ⟨p, 0, none⟩), .int .i64 0]) ∧ ConnAt w' p (opened c la lp ra rp iss now s b e2 r g2 (.slice (some ⟨g, 0, none⟩) 1 cap)) ∧
    Blk w' b 111 (hoseCells c.rcv (.slice none 0 0) 0 0 0 0) ∧ Blk w' r 113 (rtoCells c.least c.most 0 0 false c.first 0) ∧ w.heap.size ≤ p ∧ w.heap.size ≤ b ∧ w.heap.size ≤ r ∧ Mod [] w w' ∧ Blk w' s 111 (hoseCells c.snd (.slice none 0 0) 0 0 0 0)

set_option maxRecDepth 100000 in
set_option maxHeartbeats 4000000 in
theorem open_ok2 (c : Cfg) (la lp ra rp iss now : Int) (w : World) (hc : c.ok) (hn : 0 ≤ now ∧ now ≤ 1099511627776) :
    Calls Tryz.prog 6 #[.agg #[.int .i64 c.mss, .int .i64 c.snd, .int .i64 c.rcv, .int .i64 c.least, .int .i64 c.most, .int .i64 c.first, .int .i64 c.tries, .int .i64 c.msl, .int .i64 c.user], .agg #[.int .u32 la, .int .u16 lp, .int .u32 ra, .int .u16 rp], .int .u32 iss, .int .i64 now] w (OpenPost2 c la lp ra rp iss now w) := by
  have HC := Lib.hid hc
  have HN := Lib.hid hn
  obtain ⟨m1, m2, s1, s2, r1, r2, l1, l2, l3, l4, t1, t2, n1, n2, u1, u2⟩ := hc
  obtain ⟨hn1, hn2⟩ := hn
  go_enter Tryz.func6, Tryz.ntmps6
  go_wp2_with fail
  refine (made_ok c la lp ra rp iss now _ HC.out HN.out).mono ?_
  rintro e w1 ⟨p, b, r, rfl, s, e2, g2, hX, hH, hR, hp, hb, hr, hM, hS⟩
  simp at hp hb hr
  have hM1 : Mod [] w w1 := (((Mod.refl [] w).alloc _).alloc _).trans hM
  have hC := hM.blk ((Blk.new w 23 c.vals).alloc _) (by simp)
  clear hM
  have c13 := hX.state
  have fz := hX.fz
  go_wp2
  refine wp_name (fun W hW => ?_)
  have hX1 := hX.set_state 1
  rw [← hW] at hX1
  have hne : w.heap.size ≠ p := by omega
  have hH1 := hH.other (a := ⟨p, 13, none⟩) (hH.ne hX (by decide)) (.int .i64 1)
  have hS1 := hS.other (a := ⟨p, 13, none⟩) (hS.ne hX (by decide)) (.int .i64 1)
  have hR1 := hR.other (a := ⟨p, 13, none⟩) (hR.ne hX (by decide)) (.int .i64 1)
  have hC1 := hC.other (a := ⟨p, 13, none⟩) hne (.int .i64 1)
  have hM2 := hM1.setCell (p := ⟨p, 13, none⟩) (.inr (show w.heap.size ≤ p by omega)) (.int .i64 1)
  rw [← hW] at hH1 hS1 hR1 hC1 hM2
  clear hW c13 fz
  have b8 : W.cell? ⟨w.heap.size, 8, none⟩ = some (.int .i64 c.user) := hC1.cell 8
  have e2' : IntKind.i64.wrap (now + c.user) = now + c.user := IntWalk.i64_in _ (by omega)
  refine wp_region_still_tail 7 (by kernel_rfl) (by kernel_rfl) ?_
  simp only [List.take_succ_cons, List.take_zero, List.drop_succ_cons, List.drop_zero]
  repeat still_step
  refine wpStill_nil ?_
  change wpList _ _ _ _ _ W.drew
  clear e2'
  go_wp2_with (go_at_call 30; refine (start_spec p 50 _ _ _ _ hX1.drew.userAt hX1.drew.user hX1.drew.fz).mono ?_; rintro e w' ⟨rfl, rfl⟩)
  have hX2 := ((hX1.set_userAt (now + c.user)).set_user true).drew
  have hH2 := ((hH1.other (a := ⟨p, 50, none⟩) (hH1.ne hX1 (by decide)) (.int .i64 (now + c.user))).other (a := ⟨p, 51, none⟩) (hH1.ne hX1 (by decide)) (.bool true)).drew
  have hS2 := ((hS1.other (a := ⟨p, 50, none⟩) (hS1.ne hX1 (by decide)) (.int .i64 (now + c.user))).other (a := ⟨p, 51, none⟩) (hS1.ne hX1 (by decide)) (.bool true)).drew
  have hR2 := ((hR1.other (a := ⟨p, 50, none⟩) (hR1.ne hX1 (by decide)) (.int .i64 (now + c.user))).other (a := ⟨p, 51, none⟩) (hR1.ne hX1 (by decide)) (.bool true)).drew
  have hM3 := ((hM2.setCell (p := ⟨p, 50, none⟩) (.inr (show w.heap.size ≤ p by omega)) (.int .i64 (now + c.user))).setCell (p := ⟨p, 51, none⟩) (.inr (show w.heap.size ≤ p by omega)) (.bool true)).drew
  refine (hello_syn p b 0 r _ _ c.rcv 0 (.slice none 0 0) 0 0 0 ⟨hX2, rfl, rfl, by omega, rfl, hH2, by omega, by omega, by omega⟩ rfl c.least c.most 0 0 false c.first 0 hR2 rfl (hR2.ne hX2 (by decide)) hn1 hn2 (by omega) (by omega) (by show 0 ≤ c.rcv; omega) (by show c.rcv ≤ 1048576; omega)).mono ?_
  rintro e w' ⟨rfl, g, cap, ack, win, mss, scale, rest, hX3, hg, hB, _, hM4⟩
  have hH3 := hM4.blk hH2 (by simp; exact hH2.ne hX2 (by decide))
  have hS3 := hM4.blk hS2 (by simp; exact hS2.ne hX2 (by decide))
  have hR3 := hM4.blk hR2 (by simp; exact hR2.ne hX2 (by decide))
  go_wp2
  go_ret2
  refine ⟨p, b, r, s, e2, g2, g, cap, rfl, hX3, hH3, hR3, by omega, by omega, by omega, hM3.then hM4 (by simp; omega), hS3⟩

theorem open_ok (c : Cfg) (la lp ra rp iss now : Int) (w : World) (hc : c.ok) (hn : 0 ≤ now ∧ now ≤ 1099511627776) :
    Calls Tryz.prog 6 #[.agg #[.int .i64 c.mss, .int .i64 c.snd, .int .i64 c.rcv, .int .i64 c.least, .int .i64 c.most, .int .i64 c.first, .int .i64 c.tries, .int .i64 c.msl, .int .i64 c.user], .agg #[.int .u32 la, .int .u16 lp, .int .u32 ra, .int .u16 rp], .int .u32 iss, .int .i64 now] w (OpenPost c la lp ra rp iss now w) :=
  (open_ok2 c la lp ra rp iss now w hc hn).mono fun e w' ⟨p, b, r, s, e2, g2, g, cap, h1, h2, h3, h4, h5, h6, h7, h8, _⟩ => ⟨p, b, r, s, e2, g2, g, cap, h1, h2, h3, h4, h5, h6, h7, h8⟩

end Go.Proofs.YtpomnnfabpbmiaaGreat
