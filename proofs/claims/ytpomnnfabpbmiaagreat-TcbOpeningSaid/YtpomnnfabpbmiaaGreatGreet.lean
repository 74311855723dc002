import Derived.Test.YtpomnnfabpbmiaaGreatOpen
import Derived.Deep.CutRange
import Derived.Deep.DeepCutAuto
namespace Go.Proofs.YtpomnnfabpbmiaaGreat
open Go.RowKit
set_option linter.unusedVariables false

/-- what greet leaves: the other side's SYN counts -/
def GreetTo (w : World) (p : Nat) (x : Conn) (seq ack : Int) (w' : World) : Prop :=
  ∃ (m so pe : Int) (k g : Nat) (sc : Bool), k ≤ 5 ∧ ConnAt w' p { x with irs := seq, rcv := sadd seq 1, mss := m, cong := .pointer (some ⟨g, 0, none⟩), scaled := sc, shiftOut := so, shiftIn := k, peer := pe, wl1 := seq, wl2 := ack } ∧ Mod [p] w w'

set_option maxRecDepth 100000 in
set_option maxHeartbeats 2000000 in
theorem greet_spec (p : Nat) (w : World) (x : Conn) (src dst seq ack fl win mss scale : Int) (a : Option Addr) (n cap : Nat) (hX : ConnAt w p x) (hsi : x.shiftIn = 0) (hs0 : 0 ≤ scale) (hs1 : scale ≤ 15) (hm0 : 0 ≤ mss) (hm1 : mss ≤ 65535)
    (hc0 : 1 ≤ x.cmss) (hc1 : x.cmss ≤ 65455) (hr0 : 0 ≤ x.crcv) (hr1 : x.crcv ≤ 1048576) :
    Calls Tryz.prog 69 #[.pointer (some ⟨p, 0, none⟩), .agg #[.int .u16 src, .int .u16 dst, .int .u32 seq, .int .u32 ack, .int .u8 fl, .int .u16 win, .int .i64 mss, .int .i64 scale, .slice a n cap]] w fun e w' => e = .returned (.tuple #[]) ∧ GreetTo w p x seq ack w' := by
  have hlt := hX.lt
  have HSI := Lib.hid hsi
  clear hsi
  go_enter Tryz.func69, Tryz.ntmps69
  go_upto_region 1 with fail
  refine wp_name (fun W hW => ?_)
  have hB : Blk W w.heap.size 28 [.int .u16 src, .int .u16 dst, .int .u32 seq, .int .u32 ack, .int .u8 fl, .int .u16 win, .int .i64 mss, .int .i64 scale, .slice a n cap] := by
    rw [hW]
    exact Blk.new w 28 _
  have hX1 : ConnAt W p x := by
    rw [hW]
    exact hX.alloc _
  have hM1 : Mod [p] w W := by
    rw [hW]
    exact (Mod.refl _ _).alloc _
  clear hW
  have hpn : w.heap.size ≠ p := by omega
  have b2 := hB.cell 2
  have c37 := hX1.irs
  have c38 := hX1.rcv
  have fz := hX1.fz
  simp at b2
  have e2 : IntKind.i64.wrap (scale - 1) = scale - 1 := IntWalk.i64_in _ (by omega)
  have HE2 := Lib.hid e2
  clear e2
  go_cut [3] (fun b wx => b = .pointer (some ⟨w.heap.size, 0, none⟩) ∧ ConnAt wx p { x with irs := seq, rcv := sadd seq 1 } ∧ Blk wx w.heap.size 28 [.int .u16 src, .int .u16 dst, .int .u32 seq, .int .u32 ack, .int .u8 fl, .int .u16 win, .int .i64 mss, .int .i64 scale, .slice a n cap] ∧ Mod [p] w wx)
  case first =>
    go_region_with (go_at_call 46; refine (add_spec _ _ _).mono ?_; rintro e w' ⟨rfl, rfl⟩)
    all_goals
      go_wp2_with fail
      go_meet
      first
        | exact ⟨rfl, (hX1.drew.set_irs _).set_rcv _, ((hB.drew).other hpn _).other hpn _, (hM1.drew.setCell (.inl (by simp)) _).setCell (.inl (by simp)) _⟩
        | exact ⟨rfl, ((hX1.drewN _).set_irs _).set_rcv _, ((hB.drewN _).other hpn _).other hpn _, ((hM1.drewN _).setCell (.inl (by simp)) _).setCell (.inl (by simp)) _⟩
        | trace_state
  case rest =>
    obtain ⟨rfl, hX2, hB2, hM2⟩ := hcut
    clear hX1 hB hM1 b2 c37 c38 fz
    have b6 := hB2.cell 6
    simp at b6
    go_upto_if 18 with fail
    go_cut [3, 4] (fun b o wx => b = .pointer (some ⟨w.heap.size, 0, none⟩) ∧ (∃ m, o = .int .i64 m ∧ 1 ≤ m ∧ m ≤ 65535) ∧ ConnAt wx p { x with irs := seq, rcv := sadd seq 1 } ∧ Blk wx w.heap.size 28 [.int .u16 src, .int .u16 dst, .int .u32 seq, .int .u32 ack, .int .u8 fl, .int .u16 win, .int .i64 mss, .int .i64 scale, .slice a n cap] ∧ Mod [p] w wx)
    case first =>
      go_wp2_with fail
      all_goals
        go_meet
        refine ⟨rfl, ⟨_, rfl, ?_, ?_⟩, hX2, hB2, hM2⟩ <;> omega
    case rest =>
      clear hX2 hB2 hM2 b6
      obtain ⟨rfl, ⟨m, rfl, hm1', hm2'⟩, hX2, hB2, hM2⟩ := hcut
      have c0 := hX2.cmss
      have c27 := hX2.mss
      have fz := hX2.fz
      go_upto_region 6 with fail
      have hq : 1 ≤ (if m < x.cmss then m else x.cmss) ∧ (if m < x.cmss then m else x.cmss) ≤ 65535 := by split <;> omega
      generalize (if m < x.cmss then m else x.cmss) = mm at hq ⊢
      obtain ⟨hq1, hq2⟩ := hq
      refine wp_name (fun W hW => ?_)
      have hX3 := hX2.set_mss mm
      rw [← hW] at hX3
      have hB3 := hB2.other (a := ⟨p, 27, none⟩) hpn (.int .i64 mm)
      rw [← hW] at hB3
      have hM3 := hM2.setCell (p := ⟨p, 27, none⟩) (.inl (by simp)) (.int .i64 mm)
      rw [← hW] at hM3
      clear hW hX2 hB2 hM2 c0 c27 fz
      have c27 := hX3.mss
      rcases Int.lt_or_le 0 scale with hsc | hsc
      · go_wp2_with (go_at_call 64; refine (congNew_spec _ _ (by omega) (by omega)).mono ?_; rintro e w4 ⟨g, rfl, hM4⟩; have hX4 := hM4.blk hX3 (by simp); have hB4 := hM4.blk hB3 (by simp); have c31 := ConnAt.cong hX4; have c30 := ConnAt.scaled hX4; have fz := ConnAt.fz hX4; have b7 := hB4.cell 7; simp at b7)
        refine wp_name (fun W5 hW => ?_)
        have hX5 := (ConnAt.set_cong hX4 (.pointer (some ⟨g, 0, none⟩))).set_scaled true
        rw [← hW] at hX5
        have hB5 := (hB4.other (a := ⟨p, 31, none⟩) hpn (.pointer (some ⟨g, 0, none⟩))).other (a := ⟨p, 30, none⟩) hpn (.bool true)
        rw [← hW] at hB5
        have hM5 := ((hM3.then hM4 (by simp)).setCell (p := ⟨p, 31, none⟩) (.inl (by simp)) (.pointer (some ⟨g, 0, none⟩))).setCell (p := ⟨p, 30, none⟩) (.inl (by simp)) (.bool true)
        rw [← hW] at hM5
        clear hW c31 c30 fz b7 hX4 hB4 hM4 hM3 hX3 hB3 c27
        have b7 := hB5.cell 7
        simp at b7
        have c28 := hX5.shiftOut
        have c29 := hX5.shiftIn
        have fz := hX5.fz
        go_cut [3] (fun b wx => b = .pointer (some ⟨w.heap.size, 0, none⟩) ∧ (∃ (so : Int) (k : Nat), k ≤ 5 ∧ ConnAt wx p { x with irs := seq, rcv := sadd seq 1, mss := mm, cong := .pointer (some ⟨g, 0, none⟩), scaled := true, shiftOut := so, shiftIn := k }) ∧ Blk wx w.heap.size 28 [.int .u16 src, .int .u16 dst, .int .u32 seq, .int .u32 ack, .int .u8 fl, .int .u16 win, .int .i64 mss, .int .i64 scale, .slice a n cap] ∧ Mod [p] w wx)
        case first =>
          go_region_with (go_at_call 66; (first | refine (scale_spec p _ _ hX5.drew hr0 hr1).mono ?_ | refine (scale_spec p _ _ (hX5.drew.set_shiftOut _) hr0 hr1).mono ?_ | refine (scale_spec p _ _ (hX5.drewN _) hr0 hr1).mono ?_); rintro e w' ⟨⟨k, rfl, hk⟩, rfl⟩)
          all_goals
            go_wp2_with fail
            go_meet
            first
              | exact ⟨rfl, ⟨_, k, hk, (hX5.drew.set_shiftOut _).set_shiftIn _⟩, ((hB5.drew).other hpn _).other hpn _, (hM5.drew.setCell (.inl (by simp)) _).setCell (.inl (by simp)) _⟩
              | exact ⟨rfl, ⟨_, k, hk, ((hX5.drewN _).set_shiftOut _).set_shiftIn _⟩, ((hB5.drewN _).other hpn _).other hpn _, ((hM5.drewN _).setCell (.inl (by simp)) _).setCell (.inl (by simp)) _⟩
              | trace_state
        case rest =>
          clear hX5 hB5 hM5 b7 c28 c29 fz
          obtain ⟨rfl, ⟨so, k, hk, hX6⟩, hB6, hM6⟩ := hcut
          have b2 := hB6.cell 2
          have b3 := hB6.cell 3
          have b5 := hB6.cell 5
          simp at b2 b3 b5
          have c24 := hX6.peer
          have c25 := hX6.wl1
          have c26 := hX6.wl2
          have fz := hX6.fz
          go_wp2_with fail
          go_region
          go_end0
          exact ⟨rfl, _, so, _, k, g, true, hk, (((hX6.drew.set_peer _).set_wl1 _).set_wl2 _), ((hM6.drew.setCell (.inl (by simp)) _).setCell (.inl (by simp)) _).setCell (.inl (by simp)) _⟩
      · obtain rfl : scale = 0 := by omega
        go_wp2_with (go_at_call 64; refine (congNew_spec _ _ (by omega) (by omega)).mono ?_; rintro e w4 ⟨g, rfl, hM4⟩; have hX4 := hM4.blk hX3 (by simp); have hB4 := hM4.blk hB3 (by simp); have c31 := ConnAt.cong hX4; have c30 := ConnAt.scaled hX4; have fz := ConnAt.fz hX4; have b7 := hB4.cell 7; simp at b7)
        refine wp_name (fun W5 hW => ?_)
        have hX5 := (ConnAt.set_cong hX4 (.pointer (some ⟨g, 0, none⟩))).set_scaled false
        rw [← hW] at hX5
        have hB6 := (hB4.other (a := ⟨p, 31, none⟩) hpn (.pointer (some ⟨g, 0, none⟩))).other (a := ⟨p, 30, none⟩) hpn (.bool false)
        rw [← hW] at hB6
        have hM6 := ((hM3.then hM4 (by simp)).setCell (p := ⟨p, 31, none⟩) (.inl (by simp)) (.pointer (some ⟨g, 0, none⟩))).setCell (p := ⟨p, 30, none⟩) (.inl (by simp)) (.bool false)
        rw [← hW] at hM6
        clear hW c31 c30 fz b7 hX4 hB4 hM4 hM3 hX3 hB3 c27
        have hX6 : ConnAt W5 p { x with irs := seq, rcv := sadd seq 1, mss := mm, cong := .pointer (some ⟨g, 0, none⟩), scaled := false, shiftOut := x.shiftOut, shiftIn := ((0 : Nat) : Int) } := by
          rw [show ((0 : Nat) : Int) = x.shiftIn from HSI.out.symm]
          exact hX5
        clear hX5
        have b2 := hB6.cell 2
        have b3 := hB6.cell 3
        have b5 := hB6.cell 5
        simp at b2 b3 b5
        have c24 := hX6.peer
        have c25 := hX6.wl1
        have c26 := hX6.wl2
        have fz := hX6.fz
        go_wp2_with fail
        go_region
        go_end0
        exact ⟨rfl, _, x.shiftOut, _, 0, g, false, (by omega), (((hX6.drew.set_peer _).set_wl1 _).set_wl2 _), ((hM6.drew.setCell (.inl (by simp)) _).setCell (.inl (by simp)) _).setCell (.inl (by simp)) _⟩
end Go.Proofs.YtpomnnfabpbmiaaGreat
