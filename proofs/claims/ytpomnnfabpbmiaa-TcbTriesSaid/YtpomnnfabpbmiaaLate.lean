import Derived.Test.YtpomnnfabpbmiaaOpen
namespace Go.Proofs.Ytpomnnfabpbmiaa
open Go.RowKit
set_option linter.unusedVariables false

/-- a SYN that nobody answered goes out again -/
def LateAgain (w : World) (p r : Nat) (x : Conn) (least most mean off : Int) (known : Bool) (rnow backs : Int) (w' : World) : Prop :=
  ∃ (g cap : Nat) (ack win mss scale : Int) (rest : List Value),
    ConnAt w' p { x with tries := x.tries + 1, timed := false, out := .slice (some ⟨g, 0, none⟩) 1 cap, nxt := sadd x.iss 1, top := smax x.top (sadd x.iss 1), againAt := x.now + min (2 * rnow) most, again := true } ∧ w.heap.size ≤ g ∧
    Blk w' g 49 (segCells x.lp x.rp x.iss ack 2 win mss scale (.slice none 0 0) ++ rest) ∧ Blk w' r 91 (rtoCells least most mean off known (min (2 * rnow) most) (backs + 1)) ∧ Mod [p, r] w w'

set_option maxRecDepth 100000 in
set_option maxHeartbeats 2000000 in
theorem late_again (p b r : Nat) (w : World) (x : Conn) (room n : Int) (ring : Value) (first inn out : Int) (hP : PutPre w p b 0 x room n ring first inn out) (hst : x.state = 1)
    (least most mean off : Int) (known : Bool) (rnow backs : Int) (hR : Blk w r 91 (rtoCells least most mean off known rnow backs)) (hxr : x.rto = .pointer (some ⟨r, 0, none⟩))
    (t0 : 0 ≤ x.now) (t1 : x.now ≤ 1099511627776) (t2 : 0 ≤ rnow) (t3 : rnow ≤ 1048576) (hc0 : 0 ≤ x.crcv) (hc1 : x.crcv ≤ 1048576) (m0 : 0 ≤ most) (m1 : most ≤ 1048576) (b0 : 0 ≤ backs) (b1 : backs ≤ 1000)
    (y0 : 0 ≤ x.tries) (y1 : x.tries + 1 ≤ x.ctries) (y2 : x.ctries ≤ 30) :
    Calls Try.prog 24 #[.pointer (some ⟨p, 0, none⟩)] w fun e w' => e = .returned (.tuple #[]) ∧ LateAgain w p r x least most mean off known rnow backs w' := by
  have hX := hP.at_
  have hrp : r ≠ p := hR.ne hX (by decide)
  have hbp : b ≠ p := hP.hose.ne hX (by decide)
  have hbr : b ≠ r := hP.hose.ne hR (by decide)
  have ct := hX.tries
  have cc := hX.ctries
  have cs := hX.state
  rw [hst] at cs
  have cr := hX.rto
  rw [hxr] at cr
  have cd := hX.timed
  have fz := hX.fz
  have HST := Lib.hid hst
  have HXR := Lib.hid hxr
  clear hst hxr
  go_enter Try.func24, Try.ntmps24
  go_wp2
  go_quiet (fail)
  go_wp2_with fail
  have hX1 := (hX.set_tries (x.tries + 1)).drewN nq
  have hR1 := (hR.other (a := ⟨p, 36, none⟩) hrp (.int .i64 (x.tries + 1))).drewN nq
  have hH1 := (hP.hose.other (a := ⟨p, 36, none⟩) hbp (.int .i64 (x.tries + 1))).drewN nq
  have hM1 := ((Mod.refl [p, r] w).setCell (p := ⟨p, 36, none⟩) (.inl (by simp)) (.int .i64 (x.tries + 1))).drewN nq
  refine (back_spec r _ least most mean off known rnow backs hR1 t2 t3 m0 m1 b0 b1).mono ?_
  rintro e w1 ⟨rfl, hR2, hN1⟩
  have hX2 := hX1.mod hN1 (by simp; exact fun h => hrp h.symm)
  have hH2 := hN1.blk hH1 (by simp; exact hbr)
  have hM2 := hM1.then hN1 (by simp)
  clear ct cc cs cr cd fz
  have cd := hX2.timed
  have cs : w1.cell? ⟨p, 13, none⟩ = some (.int .i64 1) := by rw [← HST.out]; exact hX2.state
  have fz := hX2.fz
  go_wp2_with fail
  have hX3 := hX2.set_timed false
  have hR3 := hR2.other (a := ⟨p, 33, none⟩) hrp (.bool false)
  have hH3 := hH2.other (a := ⟨p, 33, none⟩) hbp (.bool false)
  have hM3 := hM2.setCell (p := ⟨p, 33, none⟩) (.inl (by simp)) (.bool false)
  refine (hello_syn p b 0 r _ _ room n ring first inn out ⟨hX3, hP.out0, hP.inn, by omega, hP.shift, hH3, hP.n0, hP.nr, hP.room⟩ HST.out least most mean off known _ _ hR3 HXR.out hrp t0 t1 (by omega) (by omega) hc0 hc1).mono ?_
  rintro e w' ⟨rfl, g, cap, ack, win, mss, scale, rest, hX4, hg, hB, _, hM4⟩
  have hR4 := hM4.blk hR3 (by simp; exact hrp)
  go_wp2
  first | go_end0 | refine bodyPost_ret (results_none rfl _ _ _) rfl ?_
  exact ⟨rfl, g, cap, ack, win, mss, scale, rest, hX4, Nat.le_trans hM3.size hg, hB, hR4, hM3.then hM4 (by simp)⟩

set_option maxRecDepth 100000 in
set_option maxHeartbeats 2000000 in
/-- often enough: it is given up -/
theorem late_end (p : Nat) (w : World) (x : Conn) (hX : ConnAt w p x) (y0 : 0 ≤ x.tries) (y1 : x.ctries < x.tries + 1) (y2 : x.tries ≤ 1000) :
    Calls Try.prog 24 #[.pointer (some ⟨p, 0, none⟩)] w fun e w' => e = .returned (.tuple #[]) ∧ ConnAt w' p (Conn.closed { x with tries := x.tries + 1 } 222) ∧ Mod [p] w w' := by
  have ct := hX.tries
  have cc := hX.ctries
  have fz := hX.fz
  go_enter Try.func24, Try.ntmps24
  go_wp2
  go_quiet (fail)
  go_wp2_with fail
  have hX1 := (hX.set_tries (x.tries + 1)).drewN nq
  have hM1 := ((Mod.refl [p] w).setCell (p := ⟨p, 36, none⟩) (.inl (by simp)) (.int .i64 (x.tries + 1))).drewN nq
  refine (close_spec p _ _ 222 hX1).mono ?_
  rintro e w1 ⟨rfl, hX2, hM2⟩
  go_wp2
  first | go_end0 | refine bodyPost_ret (results_none rfl _ _ _) rfl ?_
  exact ⟨rfl, hX2, hM1.trans hM2⟩

/-! time passes, in SynSent -/
set_option maxRecDepth 100000 in
set_option maxHeartbeats 2000000 in
/-- nothing is due -/
theorem tick_none (p : Nat) (w : World) (x : Conn) (hX : ConnAt w p x) (now : Int) (hn : now ≤ 1099511627776) (hu : x.user = true) (hu' : max x.now now < x.userAt) (hw : x.wait = false) (ha : x.again = true) (ha' : max x.now now < x.againAt) (hpb : x.probe = false) :
    Calls Try.prog 11 #[.pointer (some ⟨p, 0, none⟩), .int .i64 now] w fun e w' => e = .returned (.tuple #[]) ∧ ConnAt w' p { x with now := max x.now now } ∧ Mod [p] w w' := by
  go_enter Try.func11, Try.ntmps11
  go_wp2_with fail
  refine (at_spec p w x now hX hn).mono ?_
  rintro e w1 ⟨rfl, hX1, hM1⟩
  have HU := Lib.hid hu
  have HW := Lib.hid hw
  have HA := Lib.hid ha
  have HP := Lib.hid hpb
  clear hu hw ha hpb hX
  have c14 := hX1.now
  go_wp2_with fail
  go_quiet ((go_at_call 22; refine Calls.quiet_of (due_no p 50 _ _ _ (hX1.drewN _).userAt ((hX1.drewN _).user.trans (by rw [HU.out])) hu')))
  have hX2' := hX1.drewN nq
  have hM2' := hM1.drewN nq
  go_wp2_with fail
  refine wp_name (fun W2 hW => ?_)
  have hX2 : ConnAt W2 p { x with now := max x.now now } := hW ▸ hX2'
  have hM2 : Mod [p] w W2 := hW ▸ hM2'
  clear hW hX2' hM2' c14
  have c14 := hX2.now
  go_quiet ((go_at_call 22; refine Calls.quiet_of (due_off p 48 _ _ ((hX2.drewN _).wait.trans (by rw [HW.out])))))
  have hX3' := hX2.drewN nq
  have hM3' := hM2.drewN nq
  go_wp2_with fail
  refine wp_name (fun W3 hW => ?_)
  have hX3 : ConnAt W3 p { x with now := max x.now now } := hW ▸ hX3'
  have hM3 : Mod [p] w W3 := hW ▸ hM3'
  clear hW hX3' hM3' c14
  have c14 := hX3.now
  go_quiet ((go_at_call 22; refine Calls.quiet_of (due_no p 44 _ _ _ (hX3.drewN _).againAt ((hX3.drewN _).again.trans (by rw [HA.out])) ha')))
  have hX4' := hX3.drewN nq
  have hM4' := hM3.drewN nq
  go_wp2_with fail
  refine wp_name (fun W4 hW => ?_)
  have hX4 : ConnAt W4 p { x with now := max x.now now } := hW ▸ hX4'
  have hM4 : Mod [p] w W4 := hW ▸ hM4'
  clear hW hX4' hM4' c14
  have c14 := hX4.now
  go_quiet ((go_at_call 22; refine Calls.quiet_of (due_off p 46 _ _ ((hX4.drewN _).probe.trans (by rw [HP.out])))))
  have hX5 := hX4.drewN nq
  have hM5 := hM4.drewN nq
  go_wp2_with fail
  first | go_end0 | refine bodyPost_ret (results_none rfl _ _ _) rfl ?_
  exact ⟨rfl, hX5, hM5⟩

set_option maxRecDepth 100000 in
set_option maxHeartbeats 2000000 in
/-- nothing was answered for too long -/
theorem tick_user (p : Nat) (w : World) (x : Conn) (hX : ConnAt w p x) (now : Int) (hn : now ≤ 1099511627776) (hu : x.user = true) (hu' : x.userAt ≤ max x.now now) :
    Calls Try.prog 11 #[.pointer (some ⟨p, 0, none⟩), .int .i64 now] w fun e w' => e = .returned (.tuple #[]) ∧ ConnAt w' p (Conn.closed { x with now := max x.now now } 222) ∧ Mod [p] w w' := by
  go_enter Try.func11, Try.ntmps11
  go_wp2_with fail
  refine (at_spec p w x now hX hn).mono ?_
  rintro e w1 ⟨rfl, hX1, hM1⟩
  have HU := Lib.hid hu
  clear hu hX
  have c14 := hX1.now
  go_wp2_with fail
  go_quiet ((go_at_call 22; refine Calls.quiet_of (due_yes p 50 _ _ _ (hX1.drewN _).userAt ((hX1.drewN _).user.trans (by rw [HU.out])) hu')))
  have hX2 := hX1.drewN nq
  have hM2 := hM1.drewN nq
  go_wp2_with fail
  refine (close_spec p _ _ 222 hX2).mono ?_
  rintro e w3 ⟨rfl, hX3, hM3⟩
  go_wp2
  first | go_end0 | refine bodyPost_ret (results_none rfl _ _ _) rfl ?_
  exact ⟨rfl, hX3, hM2.trans hM3⟩

set_option maxRecDepth 100000 in
set_option maxHeartbeats 2000000 in
/-- the last try was not answered -/
theorem tick_end (p : Nat) (w : World) (x : Conn) (hX : ConnAt w p x) (now : Int) (hn : now ≤ 1099511627776) (hu : x.user = true) (hu' : max x.now now < x.userAt) (hw : x.wait = false) (ha : x.again = true) (ha' : x.againAt ≤ max x.now now)
    (y0 : 0 ≤ x.tries) (y1 : x.ctries < x.tries + 1) (y2 : x.tries ≤ 1000) :
    Calls Try.prog 11 #[.pointer (some ⟨p, 0, none⟩), .int .i64 now] w fun e w' => e = .returned (.tuple #[]) ∧ ConnAt w' p (Conn.closed { x with now := max x.now now, tries := x.tries + 1 } 222) ∧ Mod [p] w w' := by
  go_enter Try.func11, Try.ntmps11
  go_wp2_with fail
  refine (at_spec p w x now hX hn).mono ?_
  rintro e w1 ⟨rfl, hX1, hM1⟩
  have HU := Lib.hid hu
  have HW := Lib.hid hw
  have HA := Lib.hid ha
  clear hu hw ha hX
  have c14 := hX1.now
  go_wp2_with fail
  go_quiet ((go_at_call 22; refine Calls.quiet_of (due_no p 50 _ _ _ (hX1.drewN _).userAt ((hX1.drewN _).user.trans (by rw [HU.out])) hu')))
  have hX2' := hX1.drewN nq
  have hM2' := hM1.drewN nq
  go_wp2_with fail
  refine wp_name (fun W2 hW => ?_)
  have hX2 : ConnAt W2 p { x with now := max x.now now } := hW ▸ hX2'
  have hM2 : Mod [p] w W2 := hW ▸ hM2'
  clear hW hX2' hM2' c14
  have c14 := hX2.now
  go_quiet ((go_at_call 22; refine Calls.quiet_of (due_off p 48 _ _ ((hX2.drewN _).wait.trans (by rw [HW.out])))))
  have hX3' := hX2.drewN nq
  have hM3' := hM2.drewN nq
  go_wp2_with fail
  refine wp_name (fun W3 hW => ?_)
  have hX3 : ConnAt W3 p { x with now := max x.now now } := hW ▸ hX3'
  have hM3 : Mod [p] w W3 := hW ▸ hM3'
  clear hW hX3' hM3' c14
  have c14 := hX3.now
  go_quiet ((go_at_call 22; refine Calls.quiet_of (due_yes p 44 _ _ _ (hX3.drewN _).againAt ((hX3.drewN _).again.trans (by rw [HA.out])) ha')))
  have hX4 := hX3.drewN nq
  have hM4 := hM3.drewN nq
  go_wp2_with fail
  refine (late_end p _ _ hX4 y0 y1 y2).mono ?_
  rintro e w5 ⟨rfl, hX5, hM5⟩
  go_wp2
  first | go_end0 | refine bodyPost_ret (results_none rfl _ _ _) rfl ?_
  exact ⟨rfl, hX5, hM4.trans hM5⟩

set_option maxRecDepth 100000 in
set_option maxHeartbeats 2000000 in
/-- a SYN goes out again -/
theorem tick_again (p b r : Nat) (w : World) (x : Conn) (room n : Int) (ring : Value) (first inn out : Int) (hPre : PutPre w p b 0 x room n ring first inn out) (now : Int) (hn : now ≤ 1099511627776) (hu : x.user = true) (hu' : max x.now now < x.userAt) (hw : x.wait = false) (ha : x.again = true) (ha' : x.againAt ≤ max x.now now)
    (hst : x.state = 1) (least most mean off : Int) (known : Bool) (rnow backs : Int) (hR : Blk w r 91 (rtoCells least most mean off known rnow backs)) (hxr : x.rto = .pointer (some ⟨r, 0, none⟩))
    (t0 : 0 ≤ x.now) (t1 : x.now ≤ 1099511627776) (t2 : 0 ≤ rnow) (t3 : rnow ≤ 1048576) (hc0 : 0 ≤ x.crcv) (hc1 : x.crcv ≤ 1048576) (m0 : 0 ≤ most) (m1 : most ≤ 1048576) (b0 : 0 ≤ backs) (b1 : backs ≤ 1000)
    (y0 : 0 ≤ x.tries) (y1 : x.tries + 1 ≤ x.ctries) (y2 : x.ctries ≤ 30) :
    Calls Try.prog 11 #[.pointer (some ⟨p, 0, none⟩), .int .i64 now] w fun e w' => e = .returned (.tuple #[]) ∧ ∃ W, Mod [p] w W ∧ LateAgain W p r { x with now := max x.now now } least most mean off known rnow backs w' := by
  have hX := hPre.at_
  have hR0 := hR
  have hst' := Lib.hid hst
  have hxr' := Lib.hid hxr
  clear hst hxr
  go_enter Try.func11, Try.ntmps11
  go_wp2_with fail
  refine (at_spec p w x now hX hn).mono ?_
  rintro e w1 ⟨rfl, hX1, hM1⟩
  have HU := Lib.hid hu
  have HW := Lib.hid hw
  have HA := Lib.hid ha
  clear hu hw ha hX
  have c14 := hX1.now
  go_wp2_with fail
  go_quiet ((go_at_call 22; refine Calls.quiet_of (due_no p 50 _ _ _ (hX1.drewN _).userAt ((hX1.drewN _).user.trans (by rw [HU.out])) hu')))
  have hX2' := hX1.drewN nq
  have hM2' := hM1.drewN nq
  go_wp2_with fail
  refine wp_name (fun W2 hW => ?_)
  have hX2 : ConnAt W2 p { x with now := max x.now now } := hW ▸ hX2'
  have hM2 : Mod [p] w W2 := hW ▸ hM2'
  clear hW hX2' hM2' c14
  have c14 := hX2.now
  go_quiet ((go_at_call 22; refine Calls.quiet_of (due_off p 48 _ _ ((hX2.drewN _).wait.trans (by rw [HW.out])))))
  have hX3' := hX2.drewN nq
  have hM3' := hM2.drewN nq
  go_wp2_with fail
  refine wp_name (fun W3 hW => ?_)
  have hX3 : ConnAt W3 p { x with now := max x.now now } := hW ▸ hX3'
  have hM3 : Mod [p] w W3 := hW ▸ hM3'
  clear hW hX3' hM3' c14
  have c14 := hX3.now
  go_quiet ((go_at_call 22; refine Calls.quiet_of (due_yes p 44 _ _ _ (hX3.drewN _).againAt ((hX3.drewN _).again.trans (by rw [HA.out])) ha')))
  have hX4 := hX3.drewN nq
  have hM4 := hM3.drewN nq
  go_wp2_with fail
  have hH4 := hM4.blk hPre.hose (by simp; exact hPre.hose.ne hPre.at_ (by decide))
  have hR4 := hM4.blk hR0 (by simp; exact hR0.ne hPre.at_ (by decide))
  refine (late_again p b r _ _ room n ring first inn out ⟨hX4, hPre.out0, hPre.inn, by omega, hPre.shift, hH4, hPre.n0, hPre.nr, hPre.room⟩ hst'.out least most mean off known rnow backs hR4 hxr'.out (by show 0 ≤ max x.now now; omega) (by show max x.now now ≤ 1099511627776; omega) t2 t3 hc0 hc1 m0 m1 b0 b1 y0 y1 y2).mono ?_
  rintro e w5 ⟨rfl, hL⟩
  go_wp2
  first | go_end0 | refine bodyPost_ret (results_none rfl _ _ _) rfl ?_
  exact ⟨rfl, _, hM4, hL⟩

end Go.Proofs.Ytpomnnfabpbmiaa
