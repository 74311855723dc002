import Derived.Test.YtpomnnfabpbmiaaGreatPut
namespace Go.Proofs.YtpomnnfabpbmiaaGreat
open Go.RowKit
set_option linter.unusedVariables false

theorem now_same (x : Conn) (h : x.now = 0) : ({ x with now := max x.now 0 } : Conn) = x := by
  cases x
  simp only at h
  subst h
  rfl

set_option maxRecDepth 100000 in
set_option maxHeartbeats 2000000 in
theorem input_of (p : Nat) (w : World) (x : Conn) (hX : ConnAt w p x) (hst : x.state = 1) (hnow : x.now = 0) (src dst seq ack fl win mss scale : Int) (a : Option Addr) (n cap : Nat) (Q : World → Prop)
    (ho : ∀ w1, ConnAt w1 p x → Mod [p] w w1 → Calls Tryz.prog 35 #[.pointer (some ⟨p, 0, none⟩), .agg #[.int .u16 src, .int .u16 dst, .int .u32 seq, .int .u32 ack, .int .u8 fl, .int .u16 win, .int .i64 mss, .int .i64 scale, .slice a n cap]] w1 fun e w' => e = .returned (.tuple #[]) ∧ Q w') :
    Calls Tryz.prog 11 #[.pointer (some ⟨p, 0, none⟩), .int .i64 0, .agg #[.int .u16 src, .int .u16 dst, .int .u32 seq, .int .u32 ack, .int .u8 fl, .int .u16 win, .int .i64 mss, .int .i64 scale, .slice a n cap]] w fun e w' => e = .returned (.tuple #[]) ∧ Q w' := by
  have hlt := hX.lt
  have HO := Lib.hid ho
  have HN := Lib.hid hnow
  have HST := Lib.hid hst
  clear ho hnow hst
  have c13 : (w.alloc (.cells #[.int .u16 src, .int .u16 dst, .int .u32 seq, .int .u32 ack, .int .u8 fl, .int .u16 win, .int .i64 mss, .int .i64 scale, .slice a n cap] 28 (0, 0))).cell? ⟨p, 13, none⟩ = some (.int .i64 1) := by
    rw [ConnAt.state (hX.alloc _), HST.out]
  go_enter Tryz.func11, Tryz.ntmps11
  go_wp2_with (go_at_call 34; refine (at_spec p _ x 0 (hX.alloc _) (by omega)).mono ?_; rintro e w2 ⟨rfl, hX2, hM2⟩; have hB2 : Blk w2 w.heap.size 28 [.int .u16 src, .int .u16 dst, .int .u32 seq, .int .u32 ack, .int .u8 fl, .int .u16 win, .int .i64 mss, .int .i64 scale, .slice a n cap] := hM2.blk (Blk.new w 28 _) (by simp; omega); have d13 := ConnAt.state hX2; rw [show ({ x with now := max x.now 0 } : Conn).state = x.state from rfl, HST.out] at d13; have b0 := hB2.cell 0; have b1 := hB2.cell 1; have b2 := hB2.cell 2; have b3 := hB2.cell 3; have b4 := hB2.cell 4; have b5 := hB2.cell 5; have b6 := hB2.cell 6; have b7 := hB2.cell 7; have b8 := hB2.cell 8; simp at b0 b1 b2 b3 b4 b5 b6 b7 b8)
  rw [now_same x HN.out] at hX2
  refine (HO.out w2 hX2 (((Mod.refl _ _).alloc _).trans hM2)).mono ?_
  rintro e w3 ⟨rfl, hQ⟩
  go_wp2
  first | go_end0 | refine bodyPost_ret (results_none rfl _ _ _) rfl ?_
  exact ⟨rfl, hQ⟩

end Go.Proofs.YtpomnnfabpbmiaaGreat
