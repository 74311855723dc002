import Derived.Test.YtpomnnfabpbmiaaGreatGreet
import Derived.Test.YtpomnnfabpbmiaaGreatHello2
import Derived.Test.YtpomnnfabpbmiaaGreatWatch
namespace Go.Proofs.YtpomnnfabpbmiaaGreat
open Go.RowKit
set_option linter.unusedVariables false

theorem PutOne.back {w W w' : World} {p : Nat} {x : Conn} {f t : Int} (h : PutOne W p x f t w') (m : Mod [p] w W) : PutOne w p x f t w' := by
  obtain ⟨g, cap, ack, win, rest, h1, hg, h2, h3, h4⟩ := h
  exact ⟨g, cap, ack, win, rest, h1, Nat.le_trans m.size hg, h2, h3, m.trans h4⟩

set_option maxRecDepth 100000 in
set_option maxHeartbeats 2000000 in
theorem opening_rst1 (p b k : Nat) (w : World) (x : Conn) (room nn : Int) (ring : Value) (first inn out : Int) (hP : PutPre w p b k x room nn ring first inn out) (src dst seq ack fl win mss scale : Int) (a : Option Addr) (n cap : Nat)
    (bA : (bits BinOp.and .u8 fl 16 != 0) = true) (bR : (bits BinOp.and .u8 fl 4 == 0) = true) (hd : sdiff ack x.iss ≤ 0) :
    Calls Tryz.prog 35 #[.pointer (some ⟨p, 0, none⟩), .agg #[.int .u16 src, .int .u16 dst, .int .u32 seq, .int .u32 ack, .int .u8 fl, .int .u16 win, .int .i64 mss, .int .i64 scale, .slice a n cap]] w fun e w' => e = .returned (.tuple #[]) ∧ PutOne w p x 4 ack w' := by
  have hX := hP.at_
  have hlt := hX.lt
  go_enter Tryz.func35, Tryz.ntmps35
  go_upto_region 2 with fail
  refine wp_name (fun W hW => ?_)
  have hX1 : ConnAt W p x := by
    rw [hW]
    exact hX.alloc _
  have hH1 : Blk W b 111 (hoseCells room ring first nn inn out) := by
    rw [hW]
    exact hP.hose.alloc _
  have hB : Blk W w.heap.size 28 [.int .u16 src, .int .u16 dst, .int .u32 seq, .int .u32 ack, .int .u8 fl, .int .u16 win, .int .i64 mss, .int .i64 scale, .slice a n cap] := by
    rw [hW]
    exact Blk.new w 28 _
  have hM : Mod [p] w W := by
    rw [hW]
    exact (Mod.refl _ _).alloc _
  have hP1 : PutPre W p b k x room nn ring first inn out := ⟨hX1, hP.out0, hP.inn, hP.kle, hP.shift, hH1, hP.n0, hP.nr, hP.room⟩
  clear hW
  have b3 := hB.cell 3
  have b4' := hB.cell 4
  simp at b3 b4'
  have c18 := hX1.iss
  have c21 := hX1.top
  go_quiet ((go_at_call 68; exact Calls.quiet_of_same (Calls.still (diff_spec _ _ _))))
  go_wp2_with (go_at_call 53; refine (put_rst p b k _ x ack room nn ring first inn out ⟨hX1.drewN _, hP1.out0, hP1.inn, hP1.kle, hP1.shift, hH1.drewN _, hP1.n0, hP1.nr, hP1.room⟩).mono ?_; rintro e w1 ⟨rfl, hO⟩)
  first | go_end0 | refine bodyPost_ret (results_none rfl _ _ _) rfl ?_
  exact ⟨rfl, hO.back (hM.drewN _)⟩

set_option maxRecDepth 100000 in
set_option maxHeartbeats 2000000 in
theorem opening_rst2 (p b k : Nat) (w : World) (x : Conn) (room nn : Int) (ring : Value) (first inn out : Int) (hP : PutPre w p b k x room nn ring first inn out) (src dst seq ack fl win mss scale : Int) (a : Option Addr) (n cap : Nat)
    (bA : (bits BinOp.and .u8 fl 16 != 0) = true) (bR : (bits BinOp.and .u8 fl 4 == 0) = true) (hd : ¬ sdiff ack x.iss ≤ 0) (ht : 0 < sdiff ack x.top) :
    Calls Tryz.prog 35 #[.pointer (some ⟨p, 0, none⟩), .agg #[.int .u16 src, .int .u16 dst, .int .u32 seq, .int .u32 ack, .int .u8 fl, .int .u16 win, .int .i64 mss, .int .i64 scale, .slice a n cap]] w fun e w' => e = .returned (.tuple #[]) ∧ PutOne w p x 4 ack w' := by
  have hX := hP.at_
  have hlt := hX.lt
  go_enter Tryz.func35, Tryz.ntmps35
  go_upto_region 2 with fail
  refine wp_name (fun W hW => ?_)
  have hX1 : ConnAt W p x := by
    rw [hW]
    exact hX.alloc _
  have hH1 : Blk W b 111 (hoseCells room ring first nn inn out) := by
    rw [hW]
    exact hP.hose.alloc _
  have hB : Blk W w.heap.size 28 [.int .u16 src, .int .u16 dst, .int .u32 seq, .int .u32 ack, .int .u8 fl, .int .u16 win, .int .i64 mss, .int .i64 scale, .slice a n cap] := by
    rw [hW]
    exact Blk.new w 28 _
  have hM : Mod [p] w W := by
    rw [hW]
    exact (Mod.refl _ _).alloc _
  have hP1 : PutPre W p b k x room nn ring first inn out := ⟨hX1, hP.out0, hP.inn, hP.kle, hP.shift, hH1, hP.n0, hP.nr, hP.room⟩
  clear hW
  have b3 := hB.cell 3
  have b4' := hB.cell 4
  simp at b3 b4'
  have c18 := hX1.iss
  have c21 := hX1.top
  go_quiet ((go_at_call 68; exact Calls.quiet_of_same (Calls.still (diff_spec _ _ _))))
  go_wp2_with (go_at_call 53; refine (put_rst p b k _ x ack room nn ring first inn out ⟨hX1.drewN _, hP1.out0, hP1.inn, hP1.kle, hP1.shift, hH1.drewN _, hP1.n0, hP1.nr, hP1.room⟩).mono ?_; rintro e w1 ⟨rfl, hO⟩)
  first | go_end0 | refine bodyPost_ret (results_none rfl _ _ _) rfl ?_
  exact ⟨rfl, hO.back (hM.drewN _)⟩

set_option maxRecDepth 100000 in
set_option maxHeartbeats 2000000 in
theorem opening_none1 (p b k : Nat) (w : World) (x : Conn) (room nn : Int) (ring : Value) (first inn out : Int) (hP : PutPre w p b k x room nn ring first inn out) (src dst seq ack fl win mss scale : Int) (a : Option Addr) (n cap : Nat)
    (bA : (bits BinOp.and .u8 fl 16 != 0) = true) (bR : (bits BinOp.and .u8 fl 4 == 0) = false) (hd : sdiff ack x.iss ≤ 0) :
    Calls Tryz.prog 35 #[.pointer (some ⟨p, 0, none⟩), .agg #[.int .u16 src, .int .u16 dst, .int .u32 seq, .int .u32 ack, .int .u8 fl, .int .u16 win, .int .i64 mss, .int .i64 scale, .slice a n cap]] w fun e w' => e = .returned (.tuple #[]) ∧ ConnAt w' p x ∧ Mod [p] w w' := by
  have hX := hP.at_
  have hlt := hX.lt
  go_enter Tryz.func35, Tryz.ntmps35
  go_upto_region 2 with fail
  refine wp_name (fun W hW => ?_)
  have hX1 : ConnAt W p x := by
    rw [hW]
    exact hX.alloc _
  have hH1 : Blk W b 111 (hoseCells room ring first nn inn out) := by
    rw [hW]
    exact hP.hose.alloc _
  have hB : Blk W w.heap.size 28 [.int .u16 src, .int .u16 dst, .int .u32 seq, .int .u32 ack, .int .u8 fl, .int .u16 win, .int .i64 mss, .int .i64 scale, .slice a n cap] := by
    rw [hW]
    exact Blk.new w 28 _
  have hM : Mod [p] w W := by
    rw [hW]
    exact (Mod.refl _ _).alloc _
  have hP1 : PutPre W p b k x room nn ring first inn out := ⟨hX1, hP.out0, hP.inn, hP.kle, hP.shift, hH1, hP.n0, hP.nr, hP.room⟩
  clear hW
  have b3 := hB.cell 3
  have b4' := hB.cell 4
  simp at b3 b4'
  have c18 := hX1.iss
  have c21 := hX1.top
  go_quiet ((go_at_call 68; exact Calls.quiet_of_same (Calls.still (diff_spec _ _ _))))
  go_wp2_with fail
  first | go_end0 | refine bodyPost_ret (results_none rfl _ _ _) rfl ?_
  exact ⟨rfl, hX1.drewN _, hM.drewN _⟩

set_option maxRecDepth 100000 in
set_option maxHeartbeats 2000000 in
theorem opening_none2 (p b k : Nat) (w : World) (x : Conn) (room nn : Int) (ring : Value) (first inn out : Int) (hP : PutPre w p b k x room nn ring first inn out) (src dst seq ack fl win mss scale : Int) (a : Option Addr) (n cap : Nat)
    (bA : (bits BinOp.and .u8 fl 16 != 0) = true) (bR : (bits BinOp.and .u8 fl 4 == 0) = false) (hd : ¬ sdiff ack x.iss ≤ 0) (ht : 0 < sdiff ack x.top) :
    Calls Tryz.prog 35 #[.pointer (some ⟨p, 0, none⟩), .agg #[.int .u16 src, .int .u16 dst, .int .u32 seq, .int .u32 ack, .int .u8 fl, .int .u16 win, .int .i64 mss, .int .i64 scale, .slice a n cap]] w fun e w' => e = .returned (.tuple #[]) ∧ ConnAt w' p x ∧ Mod [p] w w' := by
  have hX := hP.at_
  have hlt := hX.lt
  go_enter Tryz.func35, Tryz.ntmps35
  go_upto_region 2 with fail
  refine wp_name (fun W hW => ?_)
  have hX1 : ConnAt W p x := by
    rw [hW]
    exact hX.alloc _
  have hH1 : Blk W b 111 (hoseCells room ring first nn inn out) := by
    rw [hW]
    exact hP.hose.alloc _
  have hB : Blk W w.heap.size 28 [.int .u16 src, .int .u16 dst, .int .u32 seq, .int .u32 ack, .int .u8 fl, .int .u16 win, .int .i64 mss, .int .i64 scale, .slice a n cap] := by
    rw [hW]
    exact Blk.new w 28 _
  have hM : Mod [p] w W := by
    rw [hW]
    exact (Mod.refl _ _).alloc _
  have hP1 : PutPre W p b k x room nn ring first inn out := ⟨hX1, hP.out0, hP.inn, hP.kle, hP.shift, hH1, hP.n0, hP.nr, hP.room⟩
  clear hW
  have b3 := hB.cell 3
  have b4' := hB.cell 4
  simp at b3 b4'
  have c18 := hX1.iss
  have c21 := hX1.top
  go_quiet ((go_at_call 68; exact Calls.quiet_of_same (Calls.still (diff_spec _ _ _))))
  go_wp2_with fail
  first | go_end0 | refine bodyPost_ret (results_none rfl _ _ _) rfl ?_
  exact ⟨rfl, hX1.drewN _, hM.drewN _⟩

set_option maxRecDepth 100000 in
set_option maxHeartbeats 2000000 in
theorem opening_none3 (p b k : Nat) (w : World) (x : Conn) (room nn : Int) (ring : Value) (first inn out : Int) (hP : PutPre w p b k x room nn ring first inn out) (src dst seq ack fl win mss scale : Int) (a : Option Addr) (n cap : Nat)
    (bA : (bits BinOp.and .u8 fl 16 != 0) = false) (bN : (bits BinOp.and .u8 fl 4 != 0) = true) :
    Calls Tryz.prog 35 #[.pointer (some ⟨p, 0, none⟩), .agg #[.int .u16 src, .int .u16 dst, .int .u32 seq, .int .u32 ack, .int .u8 fl, .int .u16 win, .int .i64 mss, .int .i64 scale, .slice a n cap]] w fun e w' => e = .returned (.tuple #[]) ∧ ConnAt w' p x ∧ Mod [p] w w' := by
  have hX := hP.at_
  have hlt := hX.lt
  go_enter Tryz.func35, Tryz.ntmps35
  go_upto_region 2 with fail
  refine wp_name (fun W hW => ?_)
  have hX1 : ConnAt W p x := by
    rw [hW]
    exact hX.alloc _
  have hH1 : Blk W b 111 (hoseCells room ring first nn inn out) := by
    rw [hW]
    exact hP.hose.alloc _
  have hB : Blk W w.heap.size 28 [.int .u16 src, .int .u16 dst, .int .u32 seq, .int .u32 ack, .int .u8 fl, .int .u16 win, .int .i64 mss, .int .i64 scale, .slice a n cap] := by
    rw [hW]
    exact Blk.new w 28 _
  have hM : Mod [p] w W := by
    rw [hW]
    exact (Mod.refl _ _).alloc _
  have hP1 : PutPre W p b k x room nn ring first inn out := ⟨hX1, hP.out0, hP.inn, hP.kle, hP.shift, hH1, hP.n0, hP.nr, hP.room⟩
  clear hW
  have b3 := hB.cell 3
  have b4' := hB.cell 4
  simp at b3 b4'
  have c18 := hX1.iss
  have c21 := hX1.top
  go_quiet ((go_at_call 68; exact Calls.quiet_of_same (Calls.still (diff_spec _ _ _))))
  go_wp2_with fail
  first | go_end0 | refine bodyPost_ret (results_none rfl _ _ _) rfl ?_
  exact ⟨rfl, hX1.drewN _, hM.drewN _⟩

set_option maxRecDepth 100000 in
set_option maxHeartbeats 2000000 in
theorem opening_none4 (p b k : Nat) (w : World) (x : Conn) (room nn : Int) (ring : Value) (first inn out : Int) (hP : PutPre w p b k x room nn ring first inn out) (src dst seq ack fl win mss scale : Int) (a : Option Addr) (n cap : Nat)
    (bA : (bits BinOp.and .u8 fl 16 != 0) = false) (bN : (bits BinOp.and .u8 fl 4 != 0) = false) (bS : (bits BinOp.and .u8 fl 2 == 0) = true) :
    Calls Tryz.prog 35 #[.pointer (some ⟨p, 0, none⟩), .agg #[.int .u16 src, .int .u16 dst, .int .u32 seq, .int .u32 ack, .int .u8 fl, .int .u16 win, .int .i64 mss, .int .i64 scale, .slice a n cap]] w fun e w' => e = .returned (.tuple #[]) ∧ ConnAt w' p x ∧ Mod [p] w w' := by
  have hX := hP.at_
  have hlt := hX.lt
  go_enter Tryz.func35, Tryz.ntmps35
  go_upto_region 2 with fail
  refine wp_name (fun W hW => ?_)
  have hX1 : ConnAt W p x := by
    rw [hW]
    exact hX.alloc _
  have hH1 : Blk W b 111 (hoseCells room ring first nn inn out) := by
    rw [hW]
    exact hP.hose.alloc _
  have hB : Blk W w.heap.size 28 [.int .u16 src, .int .u16 dst, .int .u32 seq, .int .u32 ack, .int .u8 fl, .int .u16 win, .int .i64 mss, .int .i64 scale, .slice a n cap] := by
    rw [hW]
    exact Blk.new w 28 _
  have hM : Mod [p] w W := by
    rw [hW]
    exact (Mod.refl _ _).alloc _
  have hP1 : PutPre W p b k x room nn ring first inn out := ⟨hX1, hP.out0, hP.inn, hP.kle, hP.shift, hH1, hP.n0, hP.nr, hP.room⟩
  clear hW
  have b3 := hB.cell 3
  have b4' := hB.cell 4
  simp at b3 b4'
  have c18 := hX1.iss
  have c21 := hX1.top
  go_quiet ((go_at_call 68; exact Calls.quiet_of_same (Calls.still (diff_spec _ _ _))))
  go_wp2_with fail
  first | go_end0 | refine bodyPost_ret (results_none rfl _ _ _) rfl ?_
  exact ⟨rfl, hX1.drewN _, hM.drewN _⟩

set_option maxRecDepth 100000 in
set_option maxHeartbeats 2000000 in
theorem opening_none5 (p b k : Nat) (w : World) (x : Conn) (room nn : Int) (ring : Value) (first inn out : Int) (hP : PutPre w p b k x room nn ring first inn out) (src dst seq ack fl win mss scale : Int) (a : Option Addr) (n cap : Nat)
    (bA : (bits BinOp.and .u8 fl 16 != 0) = true) (hd : ¬ sdiff ack x.iss ≤ 0) (ht : ¬ 0 < sdiff ack x.top) (bN : (bits BinOp.and .u8 fl 4 != 0) = false) (bS : (bits BinOp.and .u8 fl 2 == 0) = true) :
    Calls Tryz.prog 35 #[.pointer (some ⟨p, 0, none⟩), .agg #[.int .u16 src, .int .u16 dst, .int .u32 seq, .int .u32 ack, .int .u8 fl, .int .u16 win, .int .i64 mss, .int .i64 scale, .slice a n cap]] w fun e w' => e = .returned (.tuple #[]) ∧ ConnAt w' p x ∧ Mod [p] w w' := by
  have hX := hP.at_
  have hlt := hX.lt
  go_enter Tryz.func35, Tryz.ntmps35
  go_upto_region 2 with fail
  refine wp_name (fun W hW => ?_)
  have hX1 : ConnAt W p x := by
    rw [hW]
    exact hX.alloc _
  have hH1 : Blk W b 111 (hoseCells room ring first nn inn out) := by
    rw [hW]
    exact hP.hose.alloc _
  have hB : Blk W w.heap.size 28 [.int .u16 src, .int .u16 dst, .int .u32 seq, .int .u32 ack, .int .u8 fl, .int .u16 win, .int .i64 mss, .int .i64 scale, .slice a n cap] := by
    rw [hW]
    exact Blk.new w 28 _
  have hM : Mod [p] w W := by
    rw [hW]
    exact (Mod.refl _ _).alloc _
  have hP1 : PutPre W p b k x room nn ring first inn out := ⟨hX1, hP.out0, hP.inn, hP.kle, hP.shift, hH1, hP.n0, hP.nr, hP.room⟩
  clear hW
  have b3 := hB.cell 3
  have b4' := hB.cell 4
  simp at b3 b4'
  have c18 := hX1.iss
  have c21 := hX1.top
  go_quiet ((go_at_call 68; exact Calls.quiet_of_same (Calls.still (diff_spec _ _ _))))
  go_wp2_with fail
  first | go_end0 | refine bodyPost_ret (results_none rfl _ _ _) rfl ?_
  exact ⟨rfl, hX1.drewN _, hM.drewN _⟩

set_option maxRecDepth 100000 in
set_option maxHeartbeats 2000000 in
theorem opening_close (p b k : Nat) (w : World) (x : Conn) (room nn : Int) (ring : Value) (first inn out : Int) (hP : PutPre w p b k x room nn ring first inn out) (src dst seq ack fl win mss scale : Int) (a : Option Addr) (n cap : Nat)
    (bA : (bits BinOp.and .u8 fl 16 != 0) = true) (hd : ¬ sdiff ack x.iss ≤ 0) (ht : ¬ 0 < sdiff ack x.top) (bN : (bits BinOp.and .u8 fl 4 != 0) = true) :
    Calls Tryz.prog 35 #[.pointer (some ⟨p, 0, none⟩), .agg #[.int .u16 src, .int .u16 dst, .int .u32 seq, .int .u32 ack, .int .u8 fl, .int .u16 win, .int .i64 mss, .int .i64 scale, .slice a n cap]] w fun e w' => e = .returned (.tuple #[]) ∧ ConnAt w' p { x with state := 0, fault := 220, again := false, probe := false, wait := false, user := false } ∧ Mod [p] w w' := by
  have hX := hP.at_
  have hlt := hX.lt
  go_enter Tryz.func35, Tryz.ntmps35
  go_upto_region 2 with fail
  refine wp_name (fun W hW => ?_)
  have hX1 : ConnAt W p x := by
    rw [hW]
    exact hX.alloc _
  have hH1 : Blk W b 111 (hoseCells room ring first nn inn out) := by
    rw [hW]
    exact hP.hose.alloc _
  have hB : Blk W w.heap.size 28 [.int .u16 src, .int .u16 dst, .int .u32 seq, .int .u32 ack, .int .u8 fl, .int .u16 win, .int .i64 mss, .int .i64 scale, .slice a n cap] := by
    rw [hW]
    exact Blk.new w 28 _
  have hM : Mod [p] w W := by
    rw [hW]
    exact (Mod.refl _ _).alloc _
  have hP1 : PutPre W p b k x room nn ring first inn out := ⟨hX1, hP.out0, hP.inn, hP.kle, hP.shift, hH1, hP.n0, hP.nr, hP.room⟩
  clear hW
  have b3 := hB.cell 3
  have b4' := hB.cell 4
  simp at b3 b4'
  have c18 := hX1.iss
  have c21 := hX1.top
  go_quiet ((go_at_call 68; exact Calls.quiet_of_same (Calls.still (diff_spec _ _ _))))
  go_wp2_with (go_at_call 50; refine (close_spec p _ x 220 (hX1.drewN _)).mono ?_; rintro e w1 ⟨rfl, hX2, hM2⟩)
  first | go_end0 | refine bodyPost_ret (results_none rfl _ _ _) rfl ?_
  exact ⟨rfl, hX2, (hM.drewN _).trans hM2⟩

end Go.Proofs.YtpomnnfabpbmiaaGreat
