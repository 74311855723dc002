import Derived.Test.YtpomnnfabpbmiaaLate
namespace Go.Proofs.Ytpomnnfabpbmiaa
open Go.RowKit
set_option linter.unusedVariables false

set_option maxRecDepth 100000 in
set_option maxHeartbeats 2000000 in
theorem take_spec (p : Nat) (w : World) (x : Conn) (hX : ConnAt w p x) :
    Calls Try.prog 29 #[.pointer (some ⟨p, 0, none⟩)] w fun e w' => e = .returned (.int .i64 x.fault) ∧ ConnAt w' p { x with fault := 0 } ∧ Mod [p] w w' := by
  have c := hX.fault
  have fz := hX.fz
  go_enter Try.func29, Try.ntmps29
  go_wp2
  go_ret
  exact ⟨rfl, hX.set_fault _, (Mod.refl _ _).setCell (.inl (by simp)) _⟩

set_option maxRecDepth 100000 in
set_option maxHeartbeats 2000000 in
/-- Send, a fault being there: it is told -/
theorem send_fault (p : Nat) (w : World) (x : Conn) (hX : ConnAt w p x) (now f : Int) (b : Value) (hn : now ≤ 1099511627776) (hf : x.fault = f) (hf' : f ≠ 0) :
    Calls Try.prog 13 #[.pointer (some ⟨p, 0, none⟩), .int .i64 now, b] w fun e w' => e = .returned (.tuple #[.int .i64 0, .int .i64 f]) ∧ ConnAt w' p { x with now := max x.now now, fault := 0 } ∧ Mod [p] w w' := by
  have hb : (f != 0) = true := by simpa using hf'
  have HF := Lib.hid hf
  clear hf hf'
  go_enter Try.func13, Try.ntmps13
  go_wp2_with fail
  refine (at_spec p w x now hX hn).mono ?_
  rintro e w1 ⟨rfl, hX1, hM1⟩
  go_wp2_with fail
  refine (take_spec p w1 _ hX1).mono ?_
  rintro e w2 ⟨rfl, hX2, hM2⟩
  simp only [HF.out]
  go_wp2_with fail
  go_ret2
  exact ⟨rfl, hX2, hM1.trans hM2⟩

set_option maxRecDepth 100000 in
set_option maxHeartbeats 2000000 in
/-- Send, closed by no fault -/
theorem send_closed (p : Nat) (w : World) (x : Conn) (hX : ConnAt w p x) (now : Int) (b : Value) (hn : now ≤ 1099511627776) (hf : x.fault = 0) (hs : x.state = 0) :
    Calls Try.prog 13 #[.pointer (some ⟨p, 0, none⟩), .int .i64 now, b] w fun e w' => e = .returned (.tuple #[.int .i64 0, .int .i64 223]) ∧ ConnAt w' p { x with now := max x.now now, fault := 0 } ∧ Mod [p] w w' := by
  have HF := Lib.hid hf
  have HS := Lib.hid hs
  clear hf hs
  go_enter Try.func13, Try.ntmps13
  go_wp2_with fail
  refine (at_spec p w x now hX hn).mono ?_
  rintro e w1 ⟨rfl, hX1, hM1⟩
  go_wp2_with fail
  refine (take_spec p w1 _ hX1).mono ?_
  rintro e w2 ⟨rfl, hX2, hM2⟩
  simp only [HF.out]
  have c := hX2.state
  simp only [HS.out] at c
  go_wp2_with fail
  go_ret2
  exact ⟨rfl, hX2, hM1.trans hM2⟩

set_option maxRecDepth 100000 in
set_option maxHeartbeats 2000000 in
/-- Recv, closed by no fault, nothing to be read -/
theorem recv_closed (p b : Nat) (w : World) (x : Conn) (hX : ConnAt w p x) (now : Int) (hn : now ≤ 1099511627776) (hf : x.fault = 0) (hs : x.state = 0) (he : x.ended = false) (hi : x.inn = .pointer (some ⟨b, 0, none⟩))
    (room : Int) (ring : Value) (first inn out : Int) (hH : Blk w b 93 (hoseCells room ring first 0 inn out)) :
    Calls Try.prog 14 #[.pointer (some ⟨p, 0, none⟩), .int .i64 now, .int .i64 1] w fun e w' => e = .returned (.tuple #[.slice none 0 0, .bool false, .int .i64 225]) ∧ ConnAt w' p { x with now := max x.now now, fault := 0 } ∧ Mod [p] w w' := by
  have HF := Lib.hid hf
  have HS := Lib.hid hs
  have HE := Lib.hid he
  have HI := Lib.hid hi
  clear hf hs he hi
  go_enter Try.func14, Try.ntmps14
  go_wp2_with fail
  refine (at_spec p w x now hX hn).mono ?_
  rintro e w1 ⟨rfl, hX1, hM1⟩
  have ci := hX1.inn
  simp only [HI.out] at ci
  have hH1 := hM1.blk hH (by simp; exact hH.ne hX (by decide))
  go_wp2_with fail
  refine (len_spec b w1 0 (hH1.cell 3)).mono ?_
  rintro e w1' ⟨rfl, rfl⟩
  go_wp2_with fail
  refine (take_spec p w1 _ hX1).mono ?_
  rintro e w2 ⟨rfl, hX2, hM2⟩
  simp only [HF.out]
  have c := hX2.state
  simp only [HS.out] at c
  have ce := hX2.ended
  simp only [HE.out] at ce
  go_wp2_with fail
  go_ret3
  exact ⟨rfl, hX2, hM1.trans hM2⟩

set_option maxRecDepth 100000 in
set_option maxHeartbeats 2000000 in
/-- Shut, closed -/
theorem shut_closed (p : Nat) (w : World) (x : Conn) (hX : ConnAt w p x) (now : Int) (hs : x.state = 0) :
    Calls Try.prog 15 #[.pointer (some ⟨p, 0, none⟩), .int .i64 now] w fun e w' => e = .returned (.int .i64 225) ∧ w = w' := by
  have c := hX.state
  rw [hs] at c
  clear hs
  go_enter Try.func15, Try.ntmps15
  go_wp2_with fail
  go_ret
  exact ⟨rfl, rfl⟩

end Go.Proofs.Ytpomnnfabpbmiaa
