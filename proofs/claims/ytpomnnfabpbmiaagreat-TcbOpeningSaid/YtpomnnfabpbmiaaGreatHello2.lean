import Derived.Test.YtpomnnfabpbmiaaGreatHello
namespace Go.Proofs.YtpomnnfabpbmiaaGreat
open Go.RowKit
set_option linter.unusedVariables false

set_option maxRecDepth 100000 in
set_option maxHeartbeats 2000000 in
theorem hello_rcvd1 (p b k r : Nat) (w : World) (x : Conn) (room n : Int) (ring : Value) (first inn out : Int) (hP : PutPre w p b k x room n ring first inn out) (hst : x.state = 2)
    (least most mean off : Int) (known : Bool) (rnow backs : Int) (hR : Blk w r 113 (rtoCells least most mean off known rnow backs)) (hxr : x.rto = .pointer (some ⟨r, 0, none⟩)) (hrp : r ≠ p)
    (t0 : 0 ≤ x.now) (t1 : x.now ≤ 1099511627776) (t2 : 0 ≤ rnow) (t3 : rnow ≤ 1048576) (hc0 : 0 ≤ x.crcv) (hc1 : x.crcv ≤ 1048576) :
    Calls Tryz.prog 31 #[.pointer (some ⟨p, 0, none⟩), .bool true] w fun e w' => e = .returned (.tuple #[]) ∧ HelloOne w p x 18 (x.now + rnow) w' := by
  have hX := hP.at_
  have hlt := hX.lt
  have cst := hX.state
  rw [hst] at cst
  have ciss := hX.iss
  have HST := Lib.hid hst
  have HXR := Lib.hid hxr
  clear hst hxr
  have hbp : b ≠ p := hP.hose.ne hX (by decide)
  go_enter Tryz.func31, Tryz.ntmps31
  go_wp2_with (go_at_call 53; refine (put_synack p b k _ x x.iss room n ring first inn out hP).mono ?_; rintro e w1 ⟨rfl, g, cap, ack, win, rest, hX1, hg, hBg, hack, hM⟩)
  have hgp : g ≠ p := hBg.ne hX1 (by decide)
  have c17 := hX1.out
  have c0 := hX1.cmss
  have fzp := hX1.fz
  have fzg := hBg.frozen
  have g5 : w1.cell? ⟨g, 5, none⟩ = some (.int .u16 win) := hBg.cell 5
  have g6 : w1.cell? ⟨g, 6, none⟩ = some (.int .i64 0) := hBg.cell 6
  have g7 : w1.cell? ⟨g, 7, none⟩ = some (.int .i64 0) := hBg.cell 7
  have e1 : IntKind.i64.wrap ((1 : Int) - 1) = 0 := by decide
  go_quiet (fail)
  clear e1
  have hH1 := hM.blk hP.hose (by simp; exact hbp)
  have hpg : p ≠ g := fun h => hgp h.symm
  have c18 := hX1.iss
  have c19 := hX1.nxt
  have c20 := hX1.top
  have c14 := hX1.now
  have c32 := hX1.rto
  have c44 := hX1.againAt
  have c45 := hX1.again
  go_wp2_with (first | (go_at_call 65; refine (win_spec p b _ _ 0 (hX1.drewN _) (by omega) hP.inn room n ring first inn out (hH1.drewN _) hP.n0 hP.nr hP.room).mono ?_; rintro e w' ⟨⟨v, rfl⟩, m, rfl⟩) | (go_at_call 66; refine (scale_spec p _ _ (((hX1.drewN _).other hpg _).other hpg _) hc0 hc1).mono ?_; rintro e w' ⟨⟨sc, rfl, hsc⟩, rfl⟩) | (go_at_call 46; refine (add_spec _ _ _).mono ?_; rintro e w' ⟨rfl, rfl⟩))
  refine wp_name (fun W hW => ?_)
  have hX2 : ConnAt W p { x with out := .slice (some ⟨g, 0, none⟩) 1 cap, nxt := sadd x.iss 1 } := by
    rw [hW]
    exact ((((hX1.drewN _).other hpg _).other hpg _).other hpg _).set_nxt _
  have hB2 : Blk W g 28 (segCells x.lp x.rp x.iss ack 18 v x.cmss (sc + 1) (.slice none 0 0) ++ rest) := by
    rw [hW]
    exact ((((hBg.drewN _).set 5 _).set 6 _).set 7 _).other hgp _
  have hM2 : Mod [p] w W := by
    rw [hW]
    exact ((((hM.drewN _).setCell (.inr hg) _).setCell (.inr hg) _).setCell (.inr hg) _).setCell (.inl (by simp)) _
  clear hW c14 c17 c0 c18 c19 c20 c32 c44 c45 fzp fzg g5 g6 g7
  have c20 := hX2.nxt
  have c21 := hX2.top
  have fz2 := hX2.fz
  refine wp_region_still_tail 12 (by kernel_rfl) (by kernel_rfl) ?_
  simp only [List.take_succ_cons, List.take_zero, List.drop_succ_cons, List.drop_zero]
  repeat still_step
  still_call (Calls.still (max_spec _ _ _))
  repeat still_step
  refine wpStill_nil ?_
  change wpList _ _ _ _ _ W.drew
  go_wp2
  refine wp_name (fun W3 hW => ?_)
  have hX3 : ConnAt W3 p { x with out := .slice (some ⟨g, 0, none⟩) 1 cap, nxt := sadd x.iss 1, top := smax x.top (sadd x.iss 1) } := by
    rw [hW]
    exact hX2.set_top _
  have hB3 := hB2.other hgp (.int .u32 (smax x.top (sadd x.iss 1))) (a := ⟨p, 21, none⟩)
  have hB4 : Blk W3 g 28 (segCells x.lp x.rp x.iss ack 18 v x.cmss (sc + 1) (.slice none 0 0) ++ rest) := by
    rw [hW]
    exact hB3
  have hM3 : Mod [p] w W3 := by
    rw [hW]
    exact (hM2.setCell (.inl (by simp)) _).drew
  clear hW c20 c21 fz2
  have c14 := hX3.now
  have c32 := hX3.rto
  rw [HXR.out] at c32
  have c44 := hX3.againAt
  have c45 := hX3.again
  have fz3 := hX3.fz
  have r5 : W3.cell? ⟨r, 5, none⟩ = some (.int .i64 rnow) := (hM3.blk hR (by simp; exact hrp)).cell 5
  have e2 : IntKind.i64.wrap (x.now + rnow) = x.now + rnow := IntWalk.i64_in _ (by omega)
  refine wp_region_still_tail 13 (by kernel_rfl) (by kernel_rfl) ?_
  simp only [List.take_succ_cons, List.take_zero, List.drop_succ_cons, List.drop_zero]
  repeat still_step
  still_call (Calls.still (now_spec _ _ _ r5))
  repeat still_step
  refine wpStill_nil ?_
  change wpList _ _ _ _ _ W3.drew
  clear e2
  go_wp2_with (go_at_call 30; refine (start_spec p 44 _ _ _ _ hX3.drew.againAt hX3.drew.again hX3.drew.fz).mono ?_; rintro e w' ⟨rfl, rfl⟩)
  go_end0
  exact ⟨rfl, g, cap, ack, v, x.cmss, sc + 1, rest, (hX3.set_againAt _).set_again _, hg, (hB4.other hgp _).other hgp _, hack, ((hM3.setCell (.inl (by simp)) _).setCell (.inl (by simp)) _).drew⟩

set_option maxRecDepth 100000 in
set_option maxHeartbeats 2000000 in
theorem hello_rcvd0 (p b k r : Nat) (w : World) (x : Conn) (room n : Int) (ring : Value) (first inn out : Int) (hP : PutPre w p b k x room n ring first inn out) (hst : x.state = 2)
    (least most mean off : Int) (known : Bool) (rnow backs : Int) (hR : Blk w r 113 (rtoCells least most mean off known rnow backs)) (hxr : x.rto = .pointer (some ⟨r, 0, none⟩)) (hrp : r ≠ p)
    (t0 : 0 ≤ x.now) (t1 : x.now ≤ 1099511627776) (t2 : 0 ≤ rnow) (t3 : rnow ≤ 1048576) (hc0 : 0 ≤ x.crcv) (hc1 : x.crcv ≤ 1048576) :
    Calls Tryz.prog 31 #[.pointer (some ⟨p, 0, none⟩), .bool false] w fun e w' => e = .returned (.tuple #[]) ∧ HelloOne w p x 18 (x.now + rnow) w' := by
  have hX := hP.at_
  have hlt := hX.lt
  have cst := hX.state
  rw [hst] at cst
  have ciss := hX.iss
  have HST := Lib.hid hst
  have HXR := Lib.hid hxr
  clear hst hxr
  have hbp : b ≠ p := hP.hose.ne hX (by decide)
  go_enter Tryz.func31, Tryz.ntmps31
  go_wp2_with (go_at_call 53; refine (put_synack p b k _ x x.iss room n ring first inn out hP).mono ?_; rintro e w1 ⟨rfl, g, cap, ack, win, rest, hX1, hg, hBg, hack, hM⟩)
  have hgp : g ≠ p := hBg.ne hX1 (by decide)
  have c17 := hX1.out
  have c0 := hX1.cmss
  have fzp := hX1.fz
  have fzg := hBg.frozen
  have g5 : w1.cell? ⟨g, 5, none⟩ = some (.int .u16 win) := hBg.cell 5
  have g6 : w1.cell? ⟨g, 6, none⟩ = some (.int .i64 0) := hBg.cell 6
  have g7 : w1.cell? ⟨g, 7, none⟩ = some (.int .i64 0) := hBg.cell 7
  have e1 : IntKind.i64.wrap ((1 : Int) - 1) = 0 := by decide
  go_quiet (fail)
  clear e1
  have hH1 := hM.blk hP.hose (by simp; exact hbp)
  have hpg : p ≠ g := fun h => hgp h.symm
  have c18 := hX1.iss
  have c19 := hX1.nxt
  have c20 := hX1.top
  have c14 := hX1.now
  have c32 := hX1.rto
  have c44 := hX1.againAt
  have c45 := hX1.again
  go_wp2_with (first | (go_at_call 65; refine (win_spec p b _ _ 0 (hX1.drewN _) (by omega) hP.inn room n ring first inn out (hH1.drewN _) hP.n0 hP.nr hP.room).mono ?_; rintro e w' ⟨⟨v, rfl⟩, m, rfl⟩) | (go_at_call 46; refine (add_spec _ _ _).mono ?_; rintro e w' ⟨rfl, rfl⟩))
  refine wp_name (fun W hW => ?_)
  have hX2 : ConnAt W p { x with out := .slice (some ⟨g, 0, none⟩) 1 cap, nxt := sadd x.iss 1 } := by
    rw [hW]
    exact (((hX1.drewN _).other hpg _).other hpg _).set_nxt _
  have hB2 : Blk W g 28 (segCells x.lp x.rp x.iss ack 18 v x.cmss 0 (.slice none 0 0) ++ rest) := by
    rw [hW]
    exact (((hBg.drewN _).set 5 _).set 6 _).other hgp _
  have hM2 : Mod [p] w W := by
    rw [hW]
    exact (((hM.drewN _).setCell (.inr hg) _).setCell (.inr hg) _).setCell (.inl (by simp)) _
  clear hW c14 c17 c0 c18 c19 c20 c32 c44 c45 fzp fzg g5 g6 g7
  have c20 := hX2.nxt
  have c21 := hX2.top
  have fz2 := hX2.fz
  refine wp_region_still_tail 12 (by kernel_rfl) (by kernel_rfl) ?_
  simp only [List.take_succ_cons, List.take_zero, List.drop_succ_cons, List.drop_zero]
  repeat still_step
  still_call (Calls.still (max_spec _ _ _))
  repeat still_step
  refine wpStill_nil ?_
  change wpList _ _ _ _ _ W.drew
  go_wp2
  refine wp_name (fun W3 hW => ?_)
  have hX3 : ConnAt W3 p { x with out := .slice (some ⟨g, 0, none⟩) 1 cap, nxt := sadd x.iss 1, top := smax x.top (sadd x.iss 1) } := by
    rw [hW]
    exact hX2.set_top _
  have hB3 := hB2.other hgp (.int .u32 (smax x.top (sadd x.iss 1))) (a := ⟨p, 21, none⟩)
  have hB4 : Blk W3 g 28 (segCells x.lp x.rp x.iss ack 18 v x.cmss 0 (.slice none 0 0) ++ rest) := by
    rw [hW]
    exact hB3
  have hM3 : Mod [p] w W3 := by
    rw [hW]
    exact (hM2.setCell (.inl (by simp)) _).drew
  clear hW c20 c21 fz2
  have c14 := hX3.now
  have c32 := hX3.rto
  rw [HXR.out] at c32
  have c44 := hX3.againAt
  have c45 := hX3.again
  have fz3 := hX3.fz
  have r5 : W3.cell? ⟨r, 5, none⟩ = some (.int .i64 rnow) := (hM3.blk hR (by simp; exact hrp)).cell 5
  have e2 : IntKind.i64.wrap (x.now + rnow) = x.now + rnow := IntWalk.i64_in _ (by omega)
  refine wp_region_still_tail 13 (by kernel_rfl) (by kernel_rfl) ?_
  simp only [List.take_succ_cons, List.take_zero, List.drop_succ_cons, List.drop_zero]
  repeat still_step
  still_call (Calls.still (now_spec _ _ _ r5))
  repeat still_step
  refine wpStill_nil ?_
  change wpList _ _ _ _ _ W3.drew
  clear e2
  go_wp2_with (go_at_call 30; refine (start_spec p 44 _ _ _ _ hX3.drew.againAt hX3.drew.again hX3.drew.fz).mono ?_; rintro e w' ⟨rfl, rfl⟩)
  go_end0
  exact ⟨rfl, g, cap, ack, v, x.cmss, 0, rest, (hX3.set_againAt _).set_again _, hg, (hB4.other hgp _).other hgp _, hack, ((hM3.setCell (.inl (by simp)) _).setCell (.inl (by simp)) _).drew⟩

end Go.Proofs.YtpomnnfabpbmiaaGreat
