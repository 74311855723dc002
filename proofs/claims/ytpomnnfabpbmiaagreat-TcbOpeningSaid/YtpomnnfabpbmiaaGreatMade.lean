import Derived.Test.YtpomnnfabpbmiaaGreatBuild
namespace Go.Proofs.YtpomnnfabpbmiaaGreat
open Go.RowKit
set_option linter.unusedVariables false

set_option maxHeartbeats 400000 in
theorem hoseNew_spec (room : Int) (w : World) (h0 : 1 ≤ room) (h1 : room ≤ 1048576) :
    Calls Tryz.prog 61 #[.int .i64 room] w fun e w' => e = .returned (.tuple #[.pointer (some ⟨w.heap.size, 0, none⟩), .int .i64 0]) ∧
      w.alloc (.cells #[.int .i64 room, .slice none 0 0, .int .i64 0, .int .i64 0, .int .i64 0, .int .i64 0] 111) = w' := by
  go_enter Tryz.func61, Tryz.ntmps61
  go_wp2
  go_ret2
  exact ⟨rfl, rfl⟩

set_option maxHeartbeats 400000 in
theorem patchNew_spec (room : Int) (w : World) (h0 : 1 ≤ room) (h1 : room ≤ 1048576) :
    Calls Tryz.prog 62 #[.int .i64 room] w fun e w' => e = .returned (.tuple #[.pointer (some ⟨w.heap.size, 0, none⟩), .int .i64 0]) ∧
      w.alloc (.cells #[.int .i64 room, .slice none 0 0, .int .i64 0] 117) = w' := by
  go_enter Tryz.func62, Tryz.ntmps62
  go_wp2
  go_ret2
  exact ⟨rfl, rfl⟩

/-- (a post behind a name) some new pointer, and at most new blocks -/
def CongNew (w : World) (e : Ending) (w' : World) : Prop := ∃ g : Nat, e = .returned (.tuple #[.pointer (some ⟨g, 0, none⟩), .int .i64 0]) ∧ Mod [] w w'

set_option maxHeartbeats 400000 in
theorem congNew_spec (mss : Int) (w : World) (h0 : 1 ≤ mss) (h1 : mss ≤ 65535) :
    Calls Tryz.prog 64 #[.int .i64 mss] w (CongNew w) := by
  go_enter Tryz.func64, Tryz.ntmps64
  go_wp2
  all_goals
    go_ret2
    exact ⟨_, rfl, (Mod.refl _ _).alloc _⟩

theorem hoseNew_at (room : Int) (w : World) (h0 : 1 ≤ room) (h1 : room ≤ 1048576) :
    Calls Tryz.prog 61 #[.int .i64 room] w fun e w' => ∃ s : Nat, e = .returned (.tuple #[.pointer (some ⟨s, 0, none⟩), .int .i64 0]) ∧ Blk w' s 111 (hoseCells room (.slice none 0 0) 0 0 0 0) ∧ w.heap.size ≤ s ∧ Mod [] w w' :=
  (hoseNew_spec room w h0 h1).mono fun e w' ⟨he, hw⟩ => by subst hw; exact ⟨_, he, Blk.new w _ (hoseCells room (.slice none 0 0) 0 0 0 0), Nat.le_refl _, (Mod.refl _ _).alloc _⟩
theorem patchNew_at (room : Int) (w : World) (h0 : 1 ≤ room) (h1 : room ≤ 1048576) :
    Calls Tryz.prog 62 #[.int .i64 room] w fun e w' => ∃ s : Nat, e = .returned (.tuple #[.pointer (some ⟨s, 0, none⟩), .int .i64 0]) ∧ w.heap.size ≤ s ∧ Mod [] w w' :=
  (patchNew_spec room w h0 h1).mono fun e w' ⟨he, hw⟩ => by subst hw; exact ⟨_, he, Nat.le_refl _, (Mod.refl _ _).alloc _⟩
theorem rtoNew_at (least most first : Int) (w : World) (h : 1 ≤ least ∧ least ≤ first ∧ first ≤ most ∧ most ≤ 1073741824) :
    Calls Tryz.prog 63 #[.int .i64 least, .int .i64 most, .int .i64 first] w fun e w' => ∃ s : Nat, e = .returned (.tuple #[.pointer (some ⟨s, 0, none⟩), .int .i64 0]) ∧ Blk w' s 113 (rtoCells least most 0 0 false first 0) ∧ w.heap.size ≤ s ∧ Mod [] w w' :=
  (rtoNew_yes least most first w h).mono fun e w' ⟨he, hw⟩ => by subst hw; exact ⟨_, he, Blk.new w _ (rtoCells least most 0 0 false first 0), Nat.le_refl _, (Mod.refl _ _).alloc _⟩

/-- what made has made: the connection at p, its hose at b, its clock at r -/
def Conn.fresh (c : Cfg) (la lp ra rp iss now mss : Int) : Conn :=
  { cmss := c.mss, csnd := c.snd, crcv := c.rcv, cleast := c.least, cmost := c.most, cfirst := c.first, ctries := c.tries, cmsl := c.msl, cuser := c.user, la := la, lp := lp, ra := ra, rp := rp, state := 0, now := now, fault := 0, left := false, out := .slice none 0 0,
    iss := iss, una := iss, nxt := iss, top := iss, snd := .pointer none, shut := false, peer := 0, wl1 := 0, wl2 := 0, mss := mss, shiftOut := 0, shiftIn := 0, scaled := false, cong := .pointer none, rto := .pointer none, timed := false, timedSeq := 0, timedAt := 0, tries := 0,
    irs := 0, rcv := 0, inn := .pointer none, early := .pointer none, fin := false, finAt := 0, ended := false, againAt := 0, again := false, probeAt := 0, probe := false, waitAt := 0, wait := false, userAt := 0, user := false }
def MadeAt (w : World) (p b r : Nat) (c : Cfg) (la lp ra rp iss now : Int) (w' : World) : Prop :=
  ∃ (s e g : Nat), ConnAt w' p { Conn.fresh c la lp ra rp iss now (min c.mss 536) with snd := .pointer (some ⟨s, 0, none⟩), inn := .pointer (some ⟨b, 0, none⟩), early := .pointer (some ⟨e, 0, none⟩), rto := .pointer (some ⟨r, 0, none⟩), cong := .pointer (some ⟨g, 0, none⟩) } ∧
    Blk w' b 111 (hoseCells c.rcv (.slice none 0 0) 0 0 0 0) ∧ Blk w' r 113 (rtoCells c.least c.most 0 0 false c.first 0) ∧ w.heap.size ≤ p ∧ w.heap.size ≤ b ∧ w.heap.size ≤ r ∧ Mod [] w w' ∧ Blk w' s 111 (hoseCells c.snd (.slice none 0 0) 0 0 0 0)
def MadePost (c : Cfg) (la lp ra rp iss now : Int) (w : World) (e : Ending) (w' : World) : Prop :=
  ∃ p b r : Nat, e = .returned (.tuple #[.pointer (some ⟨p, 0, none⟩), .int .i64 0]) ∧ MadeAt w p b r c la lp ra rp iss now w'

def Cfg.agg (c : Cfg) : Value := .agg #[.int .i64 c.mss, .int .i64 c.snd, .int .i64 c.rcv, .int .i64 c.least, .int .i64 c.most, .int .i64 c.first, .int .i64 c.tries, .int .i64 c.msl, .int .i64 c.user]

theorem check_yes (c : Cfg) (w : World) (h : c.ok) : Calls Tryz.prog 60 #[.agg #[.int .i64 c.mss, .int .i64 c.snd, .int .i64 c.rcv, .int .i64 c.least, .int .i64 c.most, .int .i64 c.first, .int .i64 c.tries, .int .i64 c.msl, .int .i64 c.user]] w fun e w' => e = .returned (.int .i64 0) ∧ Mod [] w w' :=
  (check_spec c w).mono fun e w' ⟨r, he, _, hc, hM⟩ => ⟨by rw [he, hc.2 h], hM⟩
theorem check_no (c : Cfg) (w : World) (h : ¬ c.ok) : Calls Tryz.prog 60 #[.agg #[.int .i64 c.mss, .int .i64 c.snd, .int .i64 c.rcv, .int .i64 c.least, .int .i64 c.most, .int .i64 c.first, .int .i64 c.tries, .int .i64 c.msl, .int .i64 c.user]] w fun e w' => e = .returned (.int .i64 1) ∧ Mod [] w w' :=
  (check_spec c w).mono fun e w' ⟨r, he, h01, hc, hM⟩ => ⟨by
    rcases h01 with rfl | rfl
    · exact absurd (hc.1 rfl) h
    · exact he, hM⟩

set_option maxRecDepth 100000 in
set_option maxHeartbeats 2000000 in
theorem made_bad (c : Cfg) (la lp ra rp iss now : Int) (w : World) (hc : ¬ c.ok) :
    Calls Tryz.prog 29 #[.agg #[.int .i64 c.mss, .int .i64 c.snd, .int .i64 c.rcv, .int .i64 c.least, .int .i64 c.most, .int .i64 c.first, .int .i64 c.tries, .int .i64 c.msl, .int .i64 c.user], .agg #[.int .u32 la, .int .u16 lp, .int .u32 ra, .int .u16 rp], .int .u32 iss, .int .i64 now] w fun e w' =>
      e = .returned (.tuple #[.pointer none, .int .i64 1]) ∧ Mod [] w w' := by
  have HC := Lib.hid hc
  clear hc
  go_enter Tryz.func29, Tryz.ntmps29
  go_wp2_with (go_at_call 60; refine (check_no c _ HC.out).mono ?_; rintro e w1 ⟨rfl, hM⟩)
  go_ret2
  exact ⟨rfl, (((Mod.refl _ _).alloc _).alloc _).trans hM⟩

set_option maxRecDepth 100000 in
set_option maxHeartbeats 2000000 in
theorem made_early (c : Cfg) (la lp ra rp iss now : Int) (w : World) (hc : c.ok) (hn : now < 0 ∨ 1099511627776 < now) :
    Calls Tryz.prog 29 #[.agg #[.int .i64 c.mss, .int .i64 c.snd, .int .i64 c.rcv, .int .i64 c.least, .int .i64 c.most, .int .i64 c.first, .int .i64 c.tries, .int .i64 c.msl, .int .i64 c.user], .agg #[.int .u32 la, .int .u16 lp, .int .u32 ra, .int .u16 rp], .int .u32 iss, .int .i64 now] w fun e w' =>
      e = .returned (.tuple #[.pointer none, .int .i64 1]) ∧ Mod [] w w' := by
  have HC := Lib.hid hc
  clear hc
  rcases hn with hn | hn
  · go_enter Tryz.func29, Tryz.ntmps29
    go_wp2_with (go_at_call 60; refine (check_yes c _ HC.out).mono ?_; rintro e w1 ⟨rfl, hM⟩)
    go_ret2
    exact ⟨rfl, (((Mod.refl _ _).alloc _).alloc _).trans hM⟩
  · have hn' : ¬ now < 0 := by omega
    go_enter Tryz.func29, Tryz.ntmps29
    go_wp2_with (go_at_call 60; refine (check_yes c _ HC.out).mono ?_; rintro e w1 ⟨rfl, hM⟩)
    go_ret2
    exact ⟨rfl, (((Mod.refl _ _).alloc _).alloc _).trans hM⟩

set_option maxRecDepth 100000 in
set_option maxHeartbeats 4000000 in
theorem made_ok_lo (c : Cfg) (la lp ra rp iss now : Int) (w : World) (hc : c.ok) (hn : 0 ≤ now ∧ now ≤ 1099511627776) (hm : c.mss ≤ 536) :
    Calls Tryz.prog 29 #[.agg #[.int .i64 c.mss, .int .i64 c.snd, .int .i64 c.rcv, .int .i64 c.least, .int .i64 c.most, .int .i64 c.first, .int .i64 c.tries, .int .i64 c.msl, .int .i64 c.user], .agg #[.int .u32 la, .int .u16 lp, .int .u32 ra, .int .u16 rp], .int .u32 iss, .int .i64 now] w (MadePost c la lp ra rp iss now w) := by
  have HC := Lib.hid hc
  obtain ⟨m1, m2, s1, s2, r1, r2, l1, l2, l3, l4, t1, t2, n1, n2, u1, u2⟩ := hc
  obtain ⟨hn1, hn2⟩ := hn
  go_enter Tryz.func29, Tryz.ntmps29
  go_wp2_with fail
  refine (check_yes c _ HC.out).mono ?_
  rintro e w1 ⟨rfl, hM⟩
  have hC1 := hM.blk ((Blk.new w 23 c.vals).alloc _) (by simp)
  have hQ1 : Blk w1 (w.heap.size + 1) 38 [.int .u32 la, .int .u16 lp, .int .u32 ra, .int .u16 rp] := hM.blk (Blk.new' (by simp) _ _) (by simp)
  have hsz : w.heap.size + 1 < w1.heap.size := by have := hM.size; simp at this; omega
  have hsz0 : w.heap.size < w1.heap.size := by omega
  have hM1 : Mod [] w w1 := (((Mod.refl [] w).alloc _).alloc _).trans hM
  clear hM
  have b0 : w1.cell? ⟨w.heap.size, 0, none⟩ = some (.int .i64 c.mss) := hC1.cell 0
  have b1 : w1.cell? ⟨w.heap.size, 1, none⟩ = some (.int .i64 c.snd) := hC1.cell 1
  have b2 : w1.cell? ⟨w.heap.size, 2, none⟩ = some (.int .i64 c.rcv) := hC1.cell 2
  have b3 : w1.cell? ⟨w.heap.size, 3, none⟩ = some (.int .i64 c.least) := hC1.cell 3
  have b4 : w1.cell? ⟨w.heap.size, 4, none⟩ = some (.int .i64 c.most) := hC1.cell 4
  have b5 : w1.cell? ⟨w.heap.size, 5, none⟩ = some (.int .i64 c.first) := hC1.cell 5
  have b6 : w1.cell? ⟨w.heap.size, 6, none⟩ = some (.int .i64 c.tries) := hC1.cell 6
  have b7 : w1.cell? ⟨w.heap.size, 7, none⟩ = some (.int .i64 c.msl) := hC1.cell 7
  have b8 : w1.cell? ⟨w.heap.size, 8, none⟩ = some (.int .i64 c.user) := hC1.cell 8
  have q0 : w1.cell? ⟨w.heap.size + 1, 0, none⟩ = some (.int .u32 la) := hQ1.cell 0
  have q1 : w1.cell? ⟨w.heap.size + 1, 1, none⟩ = some (.int .u16 lp) := hQ1.cell 1
  have q2 : w1.cell? ⟨w.heap.size + 1, 2, none⟩ = some (.int .u32 ra) := hQ1.cell 2
  have q3 : w1.cell? ⟨w.heap.size + 1, 3, none⟩ = some (.int .u16 rp) := hQ1.cell 3
  go_wp2_with ((with_reducible apply wpList_build_conn); rfl; rfl; rfl; rfl; rfl; rfl; rfl; rfl)
  have hXa : ConnAt _ w1.heap.size (Conn.fresh c la lp ra rp iss now c.mss) := Blk.new w1 76 (Conn.fresh c la lp ra rp iss now c.mss).cells
  have hCa := hC1.alloc (.cells (Conn.fresh c la lp ra rp iss now c.mss).cells.toArray 76 (0, 0))
  have hMa := hM1.alloc (.cells (Conn.fresh c la lp ra rp iss now c.mss).cells.toArray 76 (0, 0))
  have hp : w.heap.size ≤ w1.heap.size := by omega
  clear b0 b1 b2 b3 b4 b5 b6 b7 b8 q0 q1 q2 q3 hQ1 hsz hsz0 hC1 hM1
  refine (hoseNew_at _ _ (by omega) (by omega)).mono ?_
  rintro e w2 ⟨s, rfl, hH0, hs0, hN0⟩
  have hl0 : w.heap.size ≤ s := Nat.le_trans hMa.size hs0
  have hX0 := hXa.mod hN0 (by simp)
  have hC0 := hN0.blk hCa (by simp)
  have hM0 := hMa.trans hN0
  have cc := hX0.snd
  have fz := hX0.fz
  have b2 : w2.cell? ⟨w.heap.size, 2, none⟩ = some (.int .i64 c.rcv) := hC0.cell 2
  have hne : w.heap.size ≠ w1.heap.size := hC0.ne hX0 (by decide)
  go_wp2_with fail
  have hX0' := hX0.set_snd (.pointer (some ⟨s, 0, none⟩))
  have hC0' := hC0.other (a := ⟨w1.heap.size, 22, none⟩) hne (.pointer (some ⟨s, 0, none⟩))
  have hM0' := hM0.setCell (p := ⟨w1.heap.size, 22, none⟩) (.inr hp) (.pointer (some ⟨s, 0, none⟩))
  have hH0' := hH0.other (a := ⟨w1.heap.size, 22, none⟩) (hH0.ne hX0 (by decide)) (.pointer (some ⟨s, 0, none⟩))
  clear cc fz b2 hne
  refine (hoseNew_at _ _ (by omega) (by omega)).mono ?_
  rintro e w3 ⟨b, rfl, hI1, hs1, hN1⟩
  have hl1 : w.heap.size ≤ b := Nat.le_trans hM0'.size hs1
  have hX1 := hX0'.mod hN1 (by simp)
  have hC1 := hN1.blk hC0' (by simp)
  have hM1 := hM0'.trans hN1
  have hH1 := hN1.blk hH0' (by simp)
  have cc := hX1.inn
  have fz := hX1.fz
  have b2 : w3.cell? ⟨w.heap.size, 2, none⟩ = some (.int .i64 c.rcv) := hC1.cell 2
  have hne : w.heap.size ≠ w1.heap.size := hC1.ne hX1 (by decide)
  go_wp2_with fail
  have hX1' := hX1.set_inn (.pointer (some ⟨b, 0, none⟩))
  have hC1' := hC1.other (a := ⟨w1.heap.size, 39, none⟩) hne (.pointer (some ⟨b, 0, none⟩))
  have hM1' := hM1.setCell (p := ⟨w1.heap.size, 39, none⟩) (.inr hp) (.pointer (some ⟨b, 0, none⟩))
  have hH1' := hH1.other (a := ⟨w1.heap.size, 39, none⟩) (hH1.ne hX1 (by decide)) (.pointer (some ⟨b, 0, none⟩))
  have hI1' := hI1.other (a := ⟨w1.heap.size, 39, none⟩) (hI1.ne hX1 (by decide)) (.pointer (some ⟨b, 0, none⟩))
  clear cc fz b2 hne
  refine (patchNew_at _ _ (by omega) (by omega)).mono ?_
  rintro e w4 ⟨e2, rfl, hs2, hN2⟩
  have hl2 : w.heap.size ≤ e2 := Nat.le_trans hM1'.size hs2
  have hX2 := hX1'.mod hN2 (by simp)
  have hC2 := hN2.blk hC1' (by simp)
  have hM2 := hM1'.trans hN2
  have hH2 := hN2.blk hH1' (by simp)
  have hI2 := hN2.blk hI1' (by simp)
  have cc := hX2.early
  have fz := hX2.fz
  have b3 : w4.cell? ⟨w.heap.size, 3, none⟩ = some (.int .i64 c.least) := hC2.cell 3
  have b4 : w4.cell? ⟨w.heap.size, 4, none⟩ = some (.int .i64 c.most) := hC2.cell 4
  have b5 : w4.cell? ⟨w.heap.size, 5, none⟩ = some (.int .i64 c.first) := hC2.cell 5
  have hne : w.heap.size ≠ w1.heap.size := hC2.ne hX2 (by decide)
  go_wp2_with fail
  have hX2' := hX2.set_early (.pointer (some ⟨e2, 0, none⟩))
  have hC2' := hC2.other (a := ⟨w1.heap.size, 40, none⟩) hne (.pointer (some ⟨e2, 0, none⟩))
  have hM2' := hM2.setCell (p := ⟨w1.heap.size, 40, none⟩) (.inr hp) (.pointer (some ⟨e2, 0, none⟩))
  have hH2' := hH2.other (a := ⟨w1.heap.size, 40, none⟩) (hH2.ne hX2 (by decide)) (.pointer (some ⟨e2, 0, none⟩))
  have hI2' := hI2.other (a := ⟨w1.heap.size, 40, none⟩) (hI2.ne hX2 (by decide)) (.pointer (some ⟨e2, 0, none⟩))
  clear cc fz b3 b4 b5 hne
  refine (rtoNew_at _ _ _ _ (by omega)).mono ?_
  rintro e w5 ⟨r, rfl, hR3, hs3, hN3⟩
  have hl3 : w.heap.size ≤ r := Nat.le_trans hM2'.size hs3
  have hX3 := hX2'.mod hN3 (by simp)
  have hC3 := hN3.blk hC2' (by simp)
  have hM3 := hM2'.trans hN3
  have hH3 := hN3.blk hH2' (by simp)
  have hI3 := hN3.blk hI2' (by simp)
  have cc := hX3.rto
  have fz := hX3.fz
  have cm : w5.cell? ⟨w1.heap.size, 27, none⟩ = some (.int .i64 c.mss) := hX3.mss
  have hne : w.heap.size ≠ w1.heap.size := hC3.ne hX3 (by decide)
  go_wp2_with fail
  have hX3' := hX3.set_rto (.pointer (some ⟨r, 0, none⟩))
  have hC3' := hC3.other (a := ⟨w1.heap.size, 32, none⟩) hne (.pointer (some ⟨r, 0, none⟩))
  have hM3' := hM3.setCell (p := ⟨w1.heap.size, 32, none⟩) (.inr hp) (.pointer (some ⟨r, 0, none⟩))
  have hH3' := hH3.other (a := ⟨w1.heap.size, 32, none⟩) (hH3.ne hX3 (by decide)) (.pointer (some ⟨r, 0, none⟩))
  have hI3' := hI3.other (a := ⟨w1.heap.size, 32, none⟩) (hI3.ne hX3 (by decide)) (.pointer (some ⟨r, 0, none⟩))
  have hR3' := hR3.other (a := ⟨w1.heap.size, 32, none⟩) (hR3.ne hX3 (by decide)) (.pointer (some ⟨r, 0, none⟩))
  clear cc fz  cm hne
  refine (congNew_spec _ _ (by omega) (by omega)).mono ?_
  rintro e w6 ⟨g2, rfl, hN4⟩
  have hX4 := hX3'.mod hN4 (by simp)
  have hC4 := hN4.blk hC3' (by simp)
  have hM4 := hM3'.trans hN4
  have hH4 := hN4.blk hH3' (by simp)
  have hI4 := hN4.blk hI3' (by simp)
  have hR4 := hN4.blk hR3' (by simp)
  have cc := hX4.cong
  have fz := hX4.fz
  have hne : w.heap.size ≠ w1.heap.size := hC4.ne hX4 (by decide)
  have hX4' := hX4.set_cong (.pointer (some ⟨g2, 0, none⟩))
  have hC4' := hC4.other (a := ⟨w1.heap.size, 31, none⟩) hne (.pointer (some ⟨g2, 0, none⟩))
  have hM4' := hM4.setCell (p := ⟨w1.heap.size, 31, none⟩) (.inr hp) (.pointer (some ⟨g2, 0, none⟩))
  have hH4' := hH4.other (a := ⟨w1.heap.size, 31, none⟩) (hH4.ne hX4 (by decide)) (.pointer (some ⟨g2, 0, none⟩))
  have hI4' := hI4.other (a := ⟨w1.heap.size, 31, none⟩) (hI4.ne hX4 (by decide)) (.pointer (some ⟨g2, 0, none⟩))
  have hR4' := hR4.other (a := ⟨w1.heap.size, 31, none⟩) (hR4.ne hX4 (by decide)) (.pointer (some ⟨g2, 0, none⟩))
  go_wp2
  go_ret2
  refine ⟨w1.heap.size, b, r, rfl, s, e2, g2, ?_, hI4', hR4', hp, hl1, hl3, hM4', hH4'⟩
  have e : min c.mss 536 = c.mss := by omega
  rw [e]
  exact hX4'

set_option maxRecDepth 100000 in
set_option maxHeartbeats 4000000 in
theorem made_ok_hi (c : Cfg) (la lp ra rp iss now : Int) (w : World) (hc : c.ok) (hn : 0 ≤ now ∧ now ≤ 1099511627776) (hm : 536 < c.mss) :
    Calls Tryz.prog 29 #[.agg #[.int .i64 c.mss, .int .i64 c.snd, .int .i64 c.rcv, .int .i64 c.least, .int .i64 c.most, .int .i64 c.first, .int .i64 c.tries, .int .i64 c.msl, .int .i64 c.user], .agg #[.int .u32 la, .int .u16 lp, .int .u32 ra, .int .u16 rp], .int .u32 iss, .int .i64 now] w (MadePost c la lp ra rp iss now w) := by
  have HC := Lib.hid hc
  obtain ⟨m1, m2, s1, s2, r1, r2, l1, l2, l3, l4, t1, t2, n1, n2, u1, u2⟩ := hc
  obtain ⟨hn1, hn2⟩ := hn
  go_enter Tryz.func29, Tryz.ntmps29
  go_wp2_with fail
  refine (check_yes c _ HC.out).mono ?_
  rintro e w1 ⟨rfl, hM⟩
  have hC1 := hM.blk ((Blk.new w 23 c.vals).alloc _) (by simp)
  have hQ1 : Blk w1 (w.heap.size + 1) 38 [.int .u32 la, .int .u16 lp, .int .u32 ra, .int .u16 rp] := hM.blk (Blk.new' (by simp) _ _) (by simp)
  have hsz : w.heap.size + 1 < w1.heap.size := by have := hM.size; simp at this; omega
  have hsz0 : w.heap.size < w1.heap.size := by omega
  have hM1 : Mod [] w w1 := (((Mod.refl [] w).alloc _).alloc _).trans hM
  clear hM
  have b0 : w1.cell? ⟨w.heap.size, 0, none⟩ = some (.int .i64 c.mss) := hC1.cell 0
  have b1 : w1.cell? ⟨w.heap.size, 1, none⟩ = some (.int .i64 c.snd) := hC1.cell 1
  have b2 : w1.cell? ⟨w.heap.size, 2, none⟩ = some (.int .i64 c.rcv) := hC1.cell 2
  have b3 : w1.cell? ⟨w.heap.size, 3, none⟩ = some (.int .i64 c.least) := hC1.cell 3
  have b4 : w1.cell? ⟨w.heap.size, 4, none⟩ = some (.int .i64 c.most) := hC1.cell 4
  have b5 : w1.cell? ⟨w.heap.size, 5, none⟩ = some (.int .i64 c.first) := hC1.cell 5
  have b6 : w1.cell? ⟨w.heap.size, 6, none⟩ = some (.int .i64 c.tries) := hC1.cell 6
  have b7 : w1.cell? ⟨w.heap.size, 7, none⟩ = some (.int .i64 c.msl) := hC1.cell 7
  have b8 : w1.cell? ⟨w.heap.size, 8, none⟩ = some (.int .i64 c.user) := hC1.cell 8
  have q0 : w1.cell? ⟨w.heap.size + 1, 0, none⟩ = some (.int .u32 la) := hQ1.cell 0
  have q1 : w1.cell? ⟨w.heap.size + 1, 1, none⟩ = some (.int .u16 lp) := hQ1.cell 1
  have q2 : w1.cell? ⟨w.heap.size + 1, 2, none⟩ = some (.int .u32 ra) := hQ1.cell 2
  have q3 : w1.cell? ⟨w.heap.size + 1, 3, none⟩ = some (.int .u16 rp) := hQ1.cell 3
  go_wp2_with ((with_reducible apply wpList_build_conn); rfl; rfl; rfl; rfl; rfl; rfl; rfl; rfl)
  have hXa : ConnAt _ w1.heap.size (Conn.fresh c la lp ra rp iss now 536) := Blk.new w1 76 (Conn.fresh c la lp ra rp iss now 536).cells
  have hCa := hC1.alloc (.cells (Conn.fresh c la lp ra rp iss now 536).cells.toArray 76 (0, 0))
  have hMa := hM1.alloc (.cells (Conn.fresh c la lp ra rp iss now 536).cells.toArray 76 (0, 0))
  have hp : w.heap.size ≤ w1.heap.size := by omega
  clear b0 b1 b2 b3 b4 b5 b6 b7 b8 q0 q1 q2 q3 hQ1 hsz hsz0 hC1 hM1
  refine (hoseNew_at _ _ (by omega) (by omega)).mono ?_
  rintro e w2 ⟨s, rfl, hH0, hs0, hN0⟩
  have hl0 : w.heap.size ≤ s := Nat.le_trans hMa.size hs0
  have hX0 := hXa.mod hN0 (by simp)
  have hC0 := hN0.blk hCa (by simp)
  have hM0 := hMa.trans hN0
  have cc := hX0.snd
  have fz := hX0.fz
  have b2 : w2.cell? ⟨w.heap.size, 2, none⟩ = some (.int .i64 c.rcv) := hC0.cell 2
  have hne : w.heap.size ≠ w1.heap.size := hC0.ne hX0 (by decide)
  go_wp2_with fail
  have hX0' := hX0.set_snd (.pointer (some ⟨s, 0, none⟩))
  have hC0' := hC0.other (a := ⟨w1.heap.size, 22, none⟩) hne (.pointer (some ⟨s, 0, none⟩))
  have hM0' := hM0.setCell (p := ⟨w1.heap.size, 22, none⟩) (.inr hp) (.pointer (some ⟨s, 0, none⟩))
  have hH0' := hH0.other (a := ⟨w1.heap.size, 22, none⟩) (hH0.ne hX0 (by decide)) (.pointer (some ⟨s, 0, none⟩))
  clear cc fz b2 hne
  refine (hoseNew_at _ _ (by omega) (by omega)).mono ?_
  rintro e w3 ⟨b, rfl, hI1, hs1, hN1⟩
  have hl1 : w.heap.size ≤ b := Nat.le_trans hM0'.size hs1
  have hX1 := hX0'.mod hN1 (by simp)
  have hC1 := hN1.blk hC0' (by simp)
  have hM1 := hM0'.trans hN1
  have hH1 := hN1.blk hH0' (by simp)
  have cc := hX1.inn
  have fz := hX1.fz
  have b2 : w3.cell? ⟨w.heap.size, 2, none⟩ = some (.int .i64 c.rcv) := hC1.cell 2
  have hne : w.heap.size ≠ w1.heap.size := hC1.ne hX1 (by decide)
  go_wp2_with fail
  have hX1' := hX1.set_inn (.pointer (some ⟨b, 0, none⟩))
  have hC1' := hC1.other (a := ⟨w1.heap.size, 39, none⟩) hne (.pointer (some ⟨b, 0, none⟩))
  have hM1' := hM1.setCell (p := ⟨w1.heap.size, 39, none⟩) (.inr hp) (.pointer (some ⟨b, 0, none⟩))
  have hH1' := hH1.other (a := ⟨w1.heap.size, 39, none⟩) (hH1.ne hX1 (by decide)) (.pointer (some ⟨b, 0, none⟩))
  have hI1' := hI1.other (a := ⟨w1.heap.size, 39, none⟩) (hI1.ne hX1 (by decide)) (.pointer (some ⟨b, 0, none⟩))
  clear cc fz b2 hne
  refine (patchNew_at _ _ (by omega) (by omega)).mono ?_
  rintro e w4 ⟨e2, rfl, hs2, hN2⟩
  have hl2 : w.heap.size ≤ e2 := Nat.le_trans hM1'.size hs2
  have hX2 := hX1'.mod hN2 (by simp)
  have hC2 := hN2.blk hC1' (by simp)
  have hM2 := hM1'.trans hN2
  have hH2 := hN2.blk hH1' (by simp)
  have hI2 := hN2.blk hI1' (by simp)
  have cc := hX2.early
  have fz := hX2.fz
  have b3 : w4.cell? ⟨w.heap.size, 3, none⟩ = some (.int .i64 c.least) := hC2.cell 3
  have b4 : w4.cell? ⟨w.heap.size, 4, none⟩ = some (.int .i64 c.most) := hC2.cell 4
  have b5 : w4.cell? ⟨w.heap.size, 5, none⟩ = some (.int .i64 c.first) := hC2.cell 5
  have hne : w.heap.size ≠ w1.heap.size := hC2.ne hX2 (by decide)
  go_wp2_with fail
  have hX2' := hX2.set_early (.pointer (some ⟨e2, 0, none⟩))
  have hC2' := hC2.other (a := ⟨w1.heap.size, 40, none⟩) hne (.pointer (some ⟨e2, 0, none⟩))
  have hM2' := hM2.setCell (p := ⟨w1.heap.size, 40, none⟩) (.inr hp) (.pointer (some ⟨e2, 0, none⟩))
  have hH2' := hH2.other (a := ⟨w1.heap.size, 40, none⟩) (hH2.ne hX2 (by decide)) (.pointer (some ⟨e2, 0, none⟩))
  have hI2' := hI2.other (a := ⟨w1.heap.size, 40, none⟩) (hI2.ne hX2 (by decide)) (.pointer (some ⟨e2, 0, none⟩))
  clear cc fz b3 b4 b5 hne
  refine (rtoNew_at _ _ _ _ (by omega)).mono ?_
  rintro e w5 ⟨r, rfl, hR3, hs3, hN3⟩
  have hl3 : w.heap.size ≤ r := Nat.le_trans hM2'.size hs3
  have hX3 := hX2'.mod hN3 (by simp)
  have hC3 := hN3.blk hC2' (by simp)
  have hM3 := hM2'.trans hN3
  have hH3 := hN3.blk hH2' (by simp)
  have hI3 := hN3.blk hI2' (by simp)
  have cc := hX3.rto
  have fz := hX3.fz
  have cm : w5.cell? ⟨w1.heap.size, 27, none⟩ = some (.int .i64 536) := hX3.mss
  have hne : w.heap.size ≠ w1.heap.size := hC3.ne hX3 (by decide)
  go_wp2_with fail
  have hX3' := hX3.set_rto (.pointer (some ⟨r, 0, none⟩))
  have hC3' := hC3.other (a := ⟨w1.heap.size, 32, none⟩) hne (.pointer (some ⟨r, 0, none⟩))
  have hM3' := hM3.setCell (p := ⟨w1.heap.size, 32, none⟩) (.inr hp) (.pointer (some ⟨r, 0, none⟩))
  have hH3' := hH3.other (a := ⟨w1.heap.size, 32, none⟩) (hH3.ne hX3 (by decide)) (.pointer (some ⟨r, 0, none⟩))
  have hI3' := hI3.other (a := ⟨w1.heap.size, 32, none⟩) (hI3.ne hX3 (by decide)) (.pointer (some ⟨r, 0, none⟩))
  have hR3' := hR3.other (a := ⟨w1.heap.size, 32, none⟩) (hR3.ne hX3 (by decide)) (.pointer (some ⟨r, 0, none⟩))
  clear cc fz  cm hne
  refine (congNew_spec _ _ (by omega) (by omega)).mono ?_
  rintro e w6 ⟨g2, rfl, hN4⟩
  have hX4 := hX3'.mod hN4 (by simp)
  have hC4 := hN4.blk hC3' (by simp)
  have hM4 := hM3'.trans hN4
  have hH4 := hN4.blk hH3' (by simp)
  have hI4 := hN4.blk hI3' (by simp)
  have hR4 := hN4.blk hR3' (by simp)
  have cc := hX4.cong
  have fz := hX4.fz
  have hne : w.heap.size ≠ w1.heap.size := hC4.ne hX4 (by decide)
  have hX4' := hX4.set_cong (.pointer (some ⟨g2, 0, none⟩))
  have hC4' := hC4.other (a := ⟨w1.heap.size, 31, none⟩) hne (.pointer (some ⟨g2, 0, none⟩))
  have hM4' := hM4.setCell (p := ⟨w1.heap.size, 31, none⟩) (.inr hp) (.pointer (some ⟨g2, 0, none⟩))
  have hH4' := hH4.other (a := ⟨w1.heap.size, 31, none⟩) (hH4.ne hX4 (by decide)) (.pointer (some ⟨g2, 0, none⟩))
  have hI4' := hI4.other (a := ⟨w1.heap.size, 31, none⟩) (hI4.ne hX4 (by decide)) (.pointer (some ⟨g2, 0, none⟩))
  have hR4' := hR4.other (a := ⟨w1.heap.size, 31, none⟩) (hR4.ne hX4 (by decide)) (.pointer (some ⟨g2, 0, none⟩))
  go_wp2
  go_ret2
  refine ⟨w1.heap.size, b, r, rfl, s, e2, g2, ?_, hI4', hR4', hp, hl1, hl3, hM4', hH4'⟩
  have e : min c.mss 536 = 536 := by omega
  rw [e]
  exact hX4'

theorem made_ok (c : Cfg) (la lp ra rp iss now : Int) (w : World) (hc : c.ok) (hn : 0 ≤ now ∧ now ≤ 1099511627776) :
    Calls Tryz.prog 29 #[.agg #[.int .i64 c.mss, .int .i64 c.snd, .int .i64 c.rcv, .int .i64 c.least, .int .i64 c.most, .int .i64 c.first, .int .i64 c.tries, .int .i64 c.msl, .int .i64 c.user], .agg #[.int .u32 la, .int .u16 lp, .int .u32 ra, .int .u16 rp], .int .u32 iss, .int .i64 now] w (MadePost c la lp ra rp iss now w) := by
  by_cases hm : c.mss ≤ 536
  · exact made_ok_lo c la lp ra rp iss now w hc hn hm
  · exact made_ok_hi c la lp ra rp iss now w hc hn (by omega)

end Go.Proofs.YtpomnnfabpbmiaaGreat
