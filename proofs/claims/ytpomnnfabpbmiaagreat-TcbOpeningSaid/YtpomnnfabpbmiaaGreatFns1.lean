import Derived.Test.YtpomnnfabpbmiaaGreatConn
import Derived.StillTailTactics
import Derived.Deep.RegionLawGrows
namespace Go.Proofs.YtpomnnfabpbmiaaGreat
open Go.RowKit
set_option linter.unusedVariables false

theorem ret_int {k : IntKind} {a b : Int} (h : a = b) : Ending.returned (.int k a) = .returned (.int k b) := by rw [h]

/-! numbers that go round -/
def sdiff (a b : Int) : Int := wrap32 ((a - b) % 4294967296)
def sadd (a n : Int) : Int := (a + n % 4294967296) % 4294967296
def smax (a b : Int) : Int := if sdiff a b < 0 then b else a

theorem sdiff_bd (a b : Int) : -2147483648 ≤ sdiff a b ∧ sdiff a b ≤ 2147483647 := by unfold sdiff wrap32; omega
theorem w64_sdiff (a b : Int) : wrap64 (sdiff a b) = sdiff a b := by have := sdiff_bd a b; exact IntWalk.wrap64_in _ (by omega)

set_option maxHeartbeats 400000 in
theorem diff_spec (a b : Int) (w : World) :
    Calls Tryz.prog 68 #[.int .u32 a, .int .u32 b] w fun e w' => e = .returned (.int .i64 (sdiff a b)) ∧ w = w' := by
  go_enter Tryz.func68, Tryz.ntmps68
  go_wp2
  go_ret
  exact ⟨ret_int (w64_sdiff a b), rfl⟩

set_option maxHeartbeats 400000 in
theorem less_spec (a b : Int) (w : World) :
    Calls Tryz.prog 92 #[.int .u32 a, .int .u32 b] w fun e w' => e = .returned (.bool (decide (sdiff a b < 0))) ∧ w = w' := by
  go_enter Tryz.func92, Tryz.ntmps92
  go_wp2_with (go_at_call 68; refine (diff_spec _ _ _).mono ?_; rintro e w' ⟨rfl, rfl⟩)
  go_ret
  exact ⟨rfl, rfl⟩

set_option maxHeartbeats 400000 in
theorem less_yes (a b : Int) (w : World) (h : sdiff a b < 0) :
    Calls Tryz.prog 92 #[.int .u32 a, .int .u32 b] w fun e w' => e = .returned (.bool true) ∧ w = w' :=
  (less_spec a b w).mono fun e w' ⟨he, hw⟩ => ⟨by rw [he]; simp [h], hw⟩
theorem less_no (a b : Int) (w : World) (h : ¬ sdiff a b < 0) :
    Calls Tryz.prog 92 #[.int .u32 a, .int .u32 b] w fun e w' => e = .returned (.bool false) ∧ w = w' :=
  (less_spec a b w).mono fun e w' ⟨he, hw⟩ => ⟨by rw [he]; simp [h], hw⟩

set_option maxHeartbeats 400000 in
theorem max_spec (a b : Int) (w : World) :
    Calls Tryz.prog 67 #[.int .u32 a, .int .u32 b] w fun e w' => e = .returned (.int .u32 (smax a b)) ∧ w = w' := by
  by_cases h : sdiff a b < 0
  · go_enter Tryz.func67, Tryz.ntmps67
    go_wp2_with (go_at_call 92; refine (less_yes _ _ _ h).mono ?_; rintro e w' ⟨rfl, rfl⟩)
    go_ret
    exact ⟨ret_int (by unfold smax; rw [if_pos h]), rfl⟩
  · go_enter Tryz.func67, Tryz.ntmps67
    go_wp2_with (go_at_call 92; refine (less_no _ _ _ h).mono ?_; rintro e w' ⟨rfl, rfl⟩)
    go_ret
    exact ⟨ret_int (by unfold smax; rw [if_neg (by omega)]), rfl⟩

set_option maxHeartbeats 400000 in
theorem add_spec (a n : Int) (w : World) :
    Calls Tryz.prog 46 #[.int .u32 a, .int .i64 n] w fun e w' => e = .returned (.int .u32 (sadd a n)) ∧ w = w' := by
  go_enter Tryz.func46, Tryz.ntmps46
  go_wp2
  go_ret
  exact ⟨ret_int rfl, rfl⟩

/-! what is waited -/
def rtoCells (least most mean off : Int) (known : Bool) (now backs : Int) : List Value :=
  [.int .i64 least, .int .i64 most, .int .i64 mean, .int .i64 off, .bool known, .int .i64 now, .int .i64 backs]

set_option maxHeartbeats 400000 in
theorem now_spec (r : Nat) (w : World) (n : Int) (h : w.cell? ⟨r, 5, none⟩ = some (.int .i64 n)) :
    Calls Tryz.prog 54 #[.pointer (some ⟨r, 0, none⟩)] w fun e w' => e = .returned (.int .i64 n) ∧ w = w' := by
  go_enter Tryz.func54, Tryz.ntmps54
  go_wp2
  go_ret
  exact ⟨rfl, rfl⟩

set_option maxRecDepth 100000 in
set_option maxHeartbeats 400000 in
theorem back_spec (r : Nat) (w : World) (least most mean off : Int) (known : Bool) (now backs : Int) (hB : Blk w r 113 (rtoCells least most mean off known now backs)) (h0 : 0 ≤ now) (h1 : now ≤ 1048576)
    (h2 : 0 ≤ most) (h3 : most ≤ 1048576) (h4 : 0 ≤ backs) (h5 : backs ≤ 1000) :
    Calls Tryz.prog 52 #[.pointer (some ⟨r, 0, none⟩)] w fun e w' => e = .returned (.tuple #[]) ∧
      Blk w' r 113 (rtoCells least most mean off known (min (2 * now) most) (backs + 1)) ∧ Mod [r] w w' := by
  have c1 : w.cell? ⟨r, 1, none⟩ = some (.int .i64 most) := hB.cell 1
  have c5 : w.cell? ⟨r, 5, none⟩ = some (.int .i64 now) := hB.cell 5
  have c6 : w.cell? ⟨r, 6, none⟩ = some (.int .i64 backs) := hB.cell 6
  have fz := hB.frozen
  have e2 : IntKind.i64.wrap (2 * now) = 2 * now := IntWalk.i64_in _ (by omega)
  by_cases hm : most < 2 * now
  · have hmin : min (2 * now) most = most := by omega
    rw [hmin]
    clear hmin
    go_enter Tryz.func52, Tryz.ntmps52
    go_wp2
    go_still_tail 13, (by kernel_rfl)
    change wpList _ _ _ _ _ w.drew
    go_wp2
    go_end0
    exact ⟨rfl, (hB.set 5 _).set 6 _, (((Mod.refl _ _).setCell (.inl (by simp)) _).setCell (.inl (by simp)) _).drew⟩
  · have hmin : min (2 * now) most = 2 * now := by omega
    rw [hmin]
    clear hmin
    go_enter Tryz.func52, Tryz.ntmps52
    go_wp2
    go_still_tail 13, (by kernel_rfl)
    change wpList _ _ _ _ _ w.drew
    go_wp2
    go_end0
    exact ⟨rfl, (hB.set 5 _).set 6 _, (((Mod.refl _ _).setCell (.inl (by simp)) _).setCell (.inl (by simp)) _).drew⟩

/-! bytes that pass: its room -/
def hoseCells (room : Int) (ring : Value) (first n inn out : Int) : List Value :=
  [.int .i64 room, ring, .int .i64 first, .int .i64 n, .int .i64 inn, .int .i64 out]

set_option maxRecDepth 100000 in
set_option maxHeartbeats 400000 in
theorem room_spec (b : Nat) (w : World) (room n : Int) (c0 : w.cell? ⟨b, 0, none⟩ = some (.int .i64 room)) (c3 : w.cell? ⟨b, 3, none⟩ = some (.int .i64 n)) (h0 : 0 ≤ n) (h1 : n ≤ room) (h2 : room ≤ 1048576) :
    Calls Tryz.prog 44 #[.pointer (some ⟨b, 0, none⟩)] w fun e w' => e = .returned (.int .i64 (room - n)) ∧ ∃ m, w' = w.drewN m := by
  have e2 : IntKind.i64.wrap (room - n) = room - n := IntWalk.i64_in _ (by omega)
  go_enter Tryz.func44, Tryz.ntmps44
  go_wp2
  go_quiet (fail)
  go_wp2
  go_ret
  exact ⟨rfl, nq, rfl⟩

set_option maxHeartbeats 400000 in
theorem len_spec (b : Nat) (w : World) (n : Int) (c3 : w.cell? ⟨b, 3, none⟩ = some (.int .i64 n)) :
    Calls Tryz.prog 45 #[.pointer (some ⟨b, 0, none⟩)] w fun e w' => e = .returned (.int .i64 n) ∧ w = w' := by
  go_enter Tryz.func45, Tryz.ntmps45
  go_wp2
  go_ret
  exact ⟨rfl, rfl⟩

/-! an alarm -/
set_option maxHeartbeats 400000 in
theorem start_spec (p k : Nat) (at_ : Int) (w : World) (v1 v2 : Value) (c1 : w.cell? ⟨p, k, none⟩ = some v1) (c2 : w.cell? ⟨p, k + 1, none⟩ = some v2) (fz : ∀ k, w.frozen? ⟨p, k, none⟩ = false) :
    Calls Tryz.prog 30 #[.pointer (some ⟨p, k, none⟩), .int .i64 at_] w fun e w' => e = .returned (.tuple #[]) ∧ (w.setCell ⟨p, k, none⟩ (.int .i64 at_)).setCell ⟨p, k + 1, none⟩ (.bool true) = w' := by
  go_enter Tryz.func30, Tryz.ntmps30
  go_wp2
  go_end0
  exact ⟨rfl, rfl⟩

/-- an alarm that is not set is not due -/
theorem due_off (p k : Nat) (now : Int) (w : World) (c2 : w.cell? ⟨p, k + 1, none⟩ = some (.bool false)) :
    Calls Tryz.prog 49 #[.pointer (some ⟨p, k, none⟩), .int .i64 now] w fun e w' => e = .returned (.bool false) ∧ ∃ m, w' = w.drewN m := by
  go_enter Tryz.func49, Tryz.ntmps49
  go_wp2
  go_ret
  exact ⟨rfl, 0, rfl⟩
theorem due_yes (p k : Nat) (now at_ : Int) (w : World) (c1 : w.cell? ⟨p, k, none⟩ = some (.int .i64 at_)) (c2 : w.cell? ⟨p, k + 1, none⟩ = some (.bool true)) (h : at_ ≤ now) :
    Calls Tryz.prog 49 #[.pointer (some ⟨p, k, none⟩), .int .i64 now] w fun e w' => e = .returned (.bool true) ∧ ∃ m, w' = w.drewN m := by
  go_enter Tryz.func49, Tryz.ntmps49
  go_wp2
  go_ret
  exact ⟨rfl, 0, rfl⟩
theorem due_no (p k : Nat) (now at_ : Int) (w : World) (c1 : w.cell? ⟨p, k, none⟩ = some (.int .i64 at_)) (c2 : w.cell? ⟨p, k + 1, none⟩ = some (.bool true)) (h : now < at_) :
    Calls Tryz.prog 49 #[.pointer (some ⟨p, k, none⟩), .int .i64 now] w fun e w' => e = .returned (.bool false) ∧ ∃ m, w' = w.drewN m := by
  have hd : decide (at_ ≤ now) = false := by simp; omega
  go_enter Tryz.func49, Tryz.ntmps49
  go_wp2
  go_ret
  exact ⟨rfl, 0, rfl⟩

/-! the connection's small functions -/
set_option maxHeartbeats 400000 in
theorem state_spec (p : Nat) (w : World) (x : Conn) (hX : ConnAt w p x) :
    Calls Tryz.prog 13 #[.pointer (some ⟨p, 0, none⟩)] w fun e w' => e = .returned (.int .i64 x.state) ∧ w = w' := by
  have c := hX.state
  go_enter Tryz.func13, Tryz.ntmps13
  go_wp2
  go_ret
  exact ⟨rfl, rfl⟩

set_option maxHeartbeats 400000 in
theorem out_spec (p : Nat) (w : World) (x : Conn) (hX : ConnAt w p x) :
    Calls Tryz.prog 10 #[.pointer (some ⟨p, 0, none⟩)] w fun e w' => e = .returned x.out ∧ ConnAt w' p { x with out := .slice none 0 0 } ∧ Mod [p] w w' := by
  have c := hX.out
  have fz := hX.fz
  go_enter Tryz.func10, Tryz.ntmps10
  go_wp2
  go_ret
  exact ⟨rfl, hX.set_out _, (Mod.refl _ _).setCell (.inl (by simp)) _⟩

set_option maxRecDepth 100000 in
set_option maxHeartbeats 400000 in
theorem at_spec (p : Nat) (w : World) (x : Conn) (now : Int) (hX : ConnAt w p x) (hn : now ≤ 1099511627776) :
    Calls Tryz.prog 34 #[.pointer (some ⟨p, 0, none⟩), .int .i64 now] w fun e w' => e = .returned (.tuple #[]) ∧ ConnAt w' p { x with now := max x.now now } ∧ Mod [p] w w' := by
  have c := hX.now
  have fz := hX.fz
  by_cases hm : x.now < now
  · have hmax : max x.now now = now := by omega
    rw [hmax]
    clear hmax
    go_enter Tryz.func34, Tryz.ntmps34
    go_wp2
    go_end0
    exact ⟨rfl, hX.set_now _, (Mod.refl _ _).setCell (.inl (by simp)) _⟩
  · have hmax : max x.now now = x.now := by omega
    rw [hmax]
    clear hmax
    go_enter Tryz.func34, Tryz.ntmps34
    go_wp2
    go_end0
    exact ⟨rfl, hX.set_now _, (Mod.refl _ _).setCell (.inl (by simp)) _⟩

/-- closed, by a fault or none -/
def Conn.closed (x : Conn) (e : Int) : Conn := { x with state := 0, fault := e, again := false, probe := false, wait := false, user := false }

set_option maxRecDepth 100000 in
set_option maxHeartbeats 400000 in
theorem close_spec (p : Nat) (w : World) (x : Conn) (e : Int) (hX : ConnAt w p x) :
    Calls Tryz.prog 50 #[.pointer (some ⟨p, 0, none⟩), .int .i64 e] w fun e' w' => e' = .returned (.tuple #[]) ∧
      ConnAt w' p (x.closed e) ∧ Mod [p] w w' := by
  have fz := hX.fz
  have c1 := hX.state
  have c2 := hX.fault
  have c3 := hX.again
  have c4 := hX.probe
  have c5 := hX.wait
  have c6 := hX.user
  go_enter Tryz.func50, Tryz.ntmps50
  go_wp2
  go_end0
  exact ⟨rfl, (((((hX.set_state _).set_fault _).set_again _).set_probe _).set_wait _).set_user _, ((((((Mod.refl _ _).setCell (.inl (by simp)) _).setCell (.inl (by simp)) _).setCell (.inl (by simp)) _).setCell (.inl (by simp)) _).setCell (.inl (by simp)) _).setCell (.inl (by simp)) _⟩

/-! the scale: some number -/
set_option maxRecDepth 100000 in
set_option maxHeartbeats 400000 in
theorem scale_spec (p : Nat) (w : World) (x : Conn) (hX : ConnAt w p x) (h0 : 0 ≤ x.crcv) (h1 : x.crcv ≤ 1048576) :
    Calls Tryz.prog 66 #[.pointer (some ⟨p, 0, none⟩)] w fun e w' => (∃ k : Nat, e = .returned (.int .i64 k) ∧ k ≤ 5) ∧ w = w' := by
  have c := hX.crcv
  go_enter Tryz.func66, Tryz.ntmps66
  go_wp2
  go_loop [3] (fun i => ∃ k : Nat, k ≤ 5 ∧ i = .int .i64 k) (fun i => 6 - (intOf i).toNat)
  case atStart => exact ⟨0, by omega, rfl⟩
  case round =>
    obtain ⟨k, hk, rfl⟩ := hrel
    obtain rfl | rfl | rfl | rfl | rfl | rfl : k = 0 ∨ k = 1 ∨ k = 2 ∨ k = 3 ∨ k = 4 ∨ k = 5 := by omega
    all_goals go_wp2
    all_goals first
      | exact ⟨⟨1, by omega, rfl⟩, by simp [intOf]⟩
      | exact ⟨⟨2, by omega, rfl⟩, by simp [intOf]⟩
      | exact ⟨⟨3, by omega, rfl⟩, by simp [intOf]⟩
      | exact ⟨⟨4, by omega, rfl⟩, by simp [intOf]⟩
      | exact ⟨⟨5, by omega, rfl⟩, by simp [intOf]⟩
      | skip
    all_goals go_ret
    · exact ⟨⟨0, rfl, by omega⟩, rfl⟩
    · exact ⟨⟨1, rfl, by omega⟩, rfl⟩
    · exact ⟨⟨2, rfl, by omega⟩, rfl⟩
    · exact ⟨⟨3, rfl, by omega⟩, rfl⟩
    · exact ⟨⟨4, rfl, by omega⟩, rfl⟩
    · exact ⟨⟨5, rfl, by omega⟩, rfl⟩

/-! the window as it is told: some number -/
set_option maxRecDepth 100000 in
set_option maxHeartbeats 400000 in
theorem win_spec (p b : Nat) (w : World) (x : Conn) (k : Nat) (hX : ConnAt w p x) (hk : k ≤ 5) (hi : x.inn = .pointer (some ⟨b, 0, none⟩)) (room n : Int) (ring : Value) (first inn out : Int) (hH : Blk w b 111 (hoseCells room ring first n inn out)) (h0 : 0 ≤ n) (h1 : n ≤ room) (h2 : room ≤ 1048576) :
    Calls Tryz.prog 65 #[.pointer (some ⟨p, 0, none⟩), .int .i64 k] w fun e w' => (∃ v : Int, e = .returned (.int .u16 v)) ∧ ∃ m, w' = w.drewN m := by
  have c := hX.inn
  rw [hi] at c
  clear hi
  have c0 : w.cell? ⟨b, 0, none⟩ = some (.int .i64 room) := hH.cell 0
  have c3 : w.cell? ⟨b, 3, none⟩ = some (.int .i64 n) := hH.cell 3
  obtain rfl | rfl | rfl | rfl | rfl | rfl : k = 0 ∨ k = 1 ∨ k = 2 ∨ k = 3 ∨ k = 4 ∨ k = 5 := by omega
  all_goals
    go_enter Tryz.func65, Tryz.ntmps65
    go_wp2_with (go_at_call 44; refine (room_spec _ _ room n c0 c3 h0 h1 h2).mono ?_; rintro e w' ⟨rfl, m, rfl⟩)
    all_goals (go_ret; exact ⟨⟨_, rfl⟩, m, rfl⟩)

end Go.Proofs.YtpomnnfabpbmiaaGreat
