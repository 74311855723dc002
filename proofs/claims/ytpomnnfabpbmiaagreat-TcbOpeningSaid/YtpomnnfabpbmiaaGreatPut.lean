import Derived.Test.YtpomnnfabpbmiaaGreatFns1
import Derived.Test.YtpomnnfabpbmiaaGreatMore
namespace Go.Proofs.YtpomnnfabpbmiaaGreat
open Go.RowKit
set_option linter.unusedVariables false

/-! a segment's cells -/
def segCells (src dst seq ack flags win mss scale : Int) (data : Value) : List Value :=
  [.int .u16 src, .int .u16 dst, .int .u32 seq, .int .u32 ack, .int .u8 flags, .int .u16 win, .int .i64 mss, .int .i64 scale, data]

theorem info_seg : (Tryz.prog.info? 28).map (fun i => (i.zero, i.size, i.bytes)) = some (some (.agg #[.int .u16 0, .int .u16 0, .int .u32 0, .int .u32 0, .int .u8 0, .int .u16 0, .int .i64 0, .int .i64 0, .slice none 0 0]), 9, 56) := by kernel_rfl

/-- a put, where nothing is to go out yet: one segment is. -/
def PutOne (w : World) (p : Nat) (x : Conn) (flags at_ : Int) (w' : World) : Prop :=
  ∃ (g cap : Nat) (ack win : Int) (rest : List Value), ConnAt w' p { x with out := .slice (some ⟨g, 0, none⟩) 1 cap } ∧ w.heap.size ≤ g ∧
    Blk w' g 28 (segCells x.lp x.rp at_ ack flags win 0 0 (.slice none 0 0) ++ rest) ∧ (16 ≤ flags → ack = x.rcv) ∧ Mod [p] w w'

/-- what a put asks of the connection, and of its hose -/
structure PutPre (w : World) (p b k : Nat) (x : Conn) (room n : Int) (ring : Value) (first hin hout : Int) : Prop where
  at_ : ConnAt w p x
  out0 : x.out = .slice none 0 0
  inn : x.inn = .pointer (some ⟨b, 0, none⟩)
  kle : k ≤ 5
  shift : x.shiftIn = k
  hose : Blk w b 111 (hoseCells room ring first n hin hout)
  n0 : 0 ≤ n
  nr : n ≤ room
  room : room ≤ 1048576

set_option maxRecDepth 100000 in
set_option maxHeartbeats 2000000 in
theorem put_syn (p b k : Nat) (w : World) (x : Conn) (at_ : Int) (room n : Int) (ring : Value) (first inn out : Int) (hP : PutPre w p b k x room n ring first inn out) :
    Calls Tryz.prog 53 #[.pointer (some ⟨p, 0, none⟩), .int .u8 2, .int .u32 at_, .slice none 0 0] w fun e w' => e = .returned (.tuple #[]) ∧ PutOne w p x 2 at_ w' := by
  obtain ⟨hX, ho, hi, hk, hs, hH, h0, h1, h2⟩ := hP
  have hlt := hX.lt
  have cl := hX.lp
  have cr := hX.rp
  have cs := hX.shiftIn
  rw [hs] at cs
  have co := hX.out
  rw [ho] at co
  have crv := hX.rcv
  have fz := hX.fz
  have HS := Lib.hid hs
  have HO := Lib.hid ho
  have HI := Lib.hid hi
  clear hs ho hi
  obtain ⟨i0, hi0, hz0, hz1, hz2⟩ := info_parts info_seg
  go_enter Tryz.func53, Tryz.ntmps53
  go_wp2
  go_region
  go_wp2_with (go_at_call 65; refine (win_spec p b _ x k (hX.alloc _).drew hk HI.out room n ring first inn out (hH.alloc _).drew h0 h1 h2).mono ?_; rintro e w' ⟨⟨v, rfl⟩, m, rfl⟩)
  go_region_law (refine step_first rfl (.tmp 47) (.tmp 49) 42 rfl 28 i0 _ 9 56 Tryz.underlying42 hi0 hz0 hz1 hz2 rfl (by decide) rfl (w.heap.size + 1) 1 rfl (segCells x.lp x.rp at_ 0 2 v 0 0 (.slice none 0 0)) (Blk.new' (by simp) _ _) rfl (by simp [segCells, Value.oneCell']) (by omega) ?_; intro g cap rest w1 hBg hg hgrow; have hX1 : ConnAt w1 p x := Blk.grown (((((hX.alloc _).drewN (1 + m)).other (by simp; omega) _).alloc _).drew) hgrow (by simp); have c17 := hX1.out; rw [HO.out] at c17; have fz1 := hX1.fz)
  all_goals
    go_end0
    simp at hg
    exact ⟨rfl, g, cap, 0, v, rest, hX1.set_out _, by omega, hBg.other (by simp; omega) _, fun h => by omega, (((((((Mod.refl [p] w).alloc _).drewN (1 + m)).setCell (.inr (by simp)) _).alloc _).drew).grown hgrow (by intro k h; cases h)).setCell (.inl (by simp)) _⟩

set_option maxRecDepth 100000 in
set_option maxHeartbeats 2000000 in
theorem put_synack (p b k : Nat) (w : World) (x : Conn) (at_ : Int) (room n : Int) (ring : Value) (first inn out : Int) (hP : PutPre w p b k x room n ring first inn out) :
    Calls Tryz.prog 53 #[.pointer (some ⟨p, 0, none⟩), .int .u8 18, .int .u32 at_, .slice none 0 0] w fun e w' => e = .returned (.tuple #[]) ∧ PutOne w p x 18 at_ w' := by
  obtain ⟨hX, ho, hi, hk, hs, hH, h0, h1, h2⟩ := hP
  have hlt := hX.lt
  have cl := hX.lp
  have cr := hX.rp
  have cs := hX.shiftIn
  rw [hs] at cs
  have co := hX.out
  rw [ho] at co
  have crv := hX.rcv
  have fz := hX.fz
  have HS := Lib.hid hs
  have HO := Lib.hid ho
  have HI := Lib.hid hi
  clear hs ho hi
  obtain ⟨i0, hi0, hz0, hz1, hz2⟩ := info_parts info_seg
  go_enter Tryz.func53, Tryz.ntmps53
  go_wp2
  go_region
  go_wp2_with (go_at_call 65; refine (win_spec p b _ x k (hX.alloc _).drew hk HI.out room n ring first inn out (hH.alloc _).drew h0 h1 h2).mono ?_; rintro e w' ⟨⟨v, rfl⟩, m, rfl⟩)
  go_region_law (refine step_first rfl (.tmp 47) (.tmp 49) 42 rfl 28 i0 _ 9 56 Tryz.underlying42 hi0 hz0 hz1 hz2 rfl (by decide) rfl (w.heap.size + 1) 1 rfl (segCells x.lp x.rp at_ x.rcv 18 v 0 0 (.slice none 0 0)) (Blk.new' (by simp) _ _) rfl (by simp [segCells, Value.oneCell']) (by omega) ?_; intro g cap rest w1 hBg hg hgrow; have hX1 : ConnAt w1 p x := Blk.grown ((((((hX.alloc _).drewN (1 + m)).other (by simp; omega) _).other (by simp; omega) _).alloc _).drew) hgrow (by simp); have c17 := hX1.out; rw [HO.out] at c17; have fz1 := hX1.fz)
  all_goals
    go_end0
    simp at hg
    exact ⟨rfl, g, cap, x.rcv, v, rest, hX1.set_out _, by omega, hBg.other (by simp; omega) _, fun _ => rfl, ((((((((Mod.refl [p] w).alloc _).drewN (1 + m)).setCell (.inr (by simp)) _).setCell (.inr (by simp)) _).alloc _).drew).grown hgrow (by intro k h; cases h)).setCell (.inl (by simp)) _⟩

set_option maxRecDepth 100000 in
set_option maxHeartbeats 2000000 in
theorem put_ack (p b k : Nat) (w : World) (x : Conn) (at_ : Int) (room n : Int) (ring : Value) (first inn out : Int) (hP : PutPre w p b k x room n ring first inn out) :
    Calls Tryz.prog 53 #[.pointer (some ⟨p, 0, none⟩), .int .u8 16, .int .u32 at_, .slice none 0 0] w fun e w' => e = .returned (.tuple #[]) ∧ PutOne w p x 16 at_ w' := by
  obtain ⟨hX, ho, hi, hk, hs, hH, h0, h1, h2⟩ := hP
  have hlt := hX.lt
  have cl := hX.lp
  have cr := hX.rp
  have cs := hX.shiftIn
  rw [hs] at cs
  have co := hX.out
  rw [ho] at co
  have crv := hX.rcv
  have fz := hX.fz
  have HS := Lib.hid hs
  have HO := Lib.hid ho
  have HI := Lib.hid hi
  clear hs ho hi
  obtain ⟨i0, hi0, hz0, hz1, hz2⟩ := info_parts info_seg
  go_enter Tryz.func53, Tryz.ntmps53
  go_wp2
  go_region
  go_wp2_with (go_at_call 65; refine (win_spec p b _ x k (hX.alloc _).drew hk HI.out room n ring first inn out (hH.alloc _).drew h0 h1 h2).mono ?_; rintro e w' ⟨⟨v, rfl⟩, m, rfl⟩)
  go_region_law (refine step_first rfl (.tmp 47) (.tmp 49) 42 rfl 28 i0 _ 9 56 Tryz.underlying42 hi0 hz0 hz1 hz2 rfl (by decide) rfl (w.heap.size + 1) 1 rfl (segCells x.lp x.rp at_ x.rcv 16 v 0 0 (.slice none 0 0)) (Blk.new' (by simp) _ _) rfl (by simp [segCells, Value.oneCell']) (by omega) ?_; intro g cap rest w1 hBg hg hgrow; have hX1 : ConnAt w1 p x := Blk.grown ((((((hX.alloc _).drewN (1 + m)).other (by simp; omega) _).other (by simp; omega) _).alloc _).drew) hgrow (by simp); have c17 := hX1.out; rw [HO.out] at c17; have fz1 := hX1.fz)
  all_goals
    go_end0
    simp at hg
    exact ⟨rfl, g, cap, x.rcv, v, rest, hX1.set_out _, by omega, hBg.other (by simp; omega) _, fun _ => rfl, ((((((((Mod.refl [p] w).alloc _).drewN (1 + m)).setCell (.inr (by simp)) _).setCell (.inr (by simp)) _).alloc _).drew).grown hgrow (by intro k h; cases h)).setCell (.inl (by simp)) _⟩

set_option maxRecDepth 100000 in
set_option maxHeartbeats 2000000 in
theorem put_rst (p b k : Nat) (w : World) (x : Conn) (at_ : Int) (room n : Int) (ring : Value) (first inn out : Int) (hP : PutPre w p b k x room n ring first inn out) :
    Calls Tryz.prog 53 #[.pointer (some ⟨p, 0, none⟩), .int .u8 4, .int .u32 at_, .slice none 0 0] w fun e w' => e = .returned (.tuple #[]) ∧ PutOne w p x 4 at_ w' := by
  obtain ⟨hX, ho, hi, hk, hs, hH, h0, h1, h2⟩ := hP
  have hlt := hX.lt
  have cl := hX.lp
  have cr := hX.rp
  have cs := hX.shiftIn
  rw [hs] at cs
  have co := hX.out
  rw [ho] at co
  have crv := hX.rcv
  have fz := hX.fz
  have HS := Lib.hid hs
  have HO := Lib.hid ho
  have HI := Lib.hid hi
  clear hs ho hi
  obtain ⟨i0, hi0, hz0, hz1, hz2⟩ := info_parts info_seg
  go_enter Tryz.func53, Tryz.ntmps53
  go_wp2
  go_region
  go_wp2
  go_region_law (refine step_first rfl (.tmp 47) (.tmp 49) 42 rfl 28 i0 _ 9 56 Tryz.underlying42 hi0 hz0 hz1 hz2 rfl (by decide) rfl (w.heap.size + 1) 1 rfl (segCells x.lp x.rp at_ 0 4 0 0 0 (.slice none 0 0)) (Blk.new' (by simp) _ _) rfl (by simp [segCells, Value.oneCell']) (by omega) ?_; intro g cap rest w1 hBg hg hgrow; have hX1 : ConnAt w1 p x := Blk.grown ((((hX.alloc _).drew).alloc _).drew) hgrow (by simp); have c17 := hX1.out; rw [HO.out] at c17; have fz1 := hX1.fz)
  all_goals
    go_end0
    simp at hg
    exact ⟨rfl, g, cap, 0, 0, rest, hX1.set_out _, by omega, hBg.other (by simp; omega) _, fun h => by omega, ((((((Mod.refl [p] w).alloc _).drew).alloc _).drew).grown hgrow (by intro k h; cases h)).setCell (.inl (by simp)) _⟩

end Go.Proofs.YtpomnnfabpbmiaaGreat
