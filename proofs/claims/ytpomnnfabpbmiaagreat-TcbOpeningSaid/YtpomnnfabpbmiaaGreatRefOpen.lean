import Derived.Test.YtpomnnfabpbmiaaGreatStray
import Derived.Test.YtpomnnfabpbmiaaGreatHello
import Derived.Deep.CutRange
import Derived.Deep.DeepCutAuto
namespace Go.Proofs.YtpomnnfabpbmiaaGreat
open Go.RowKit
set_option linter.unusedVariables false

set_option maxRecDepth 100000 in
set_option maxHeartbeats 2000000 in
theorem ropen_bad0 (w : World) (iss src dst seq ack fl win mss scale : Int) (a : Option Addr) (n cap : Nat) (i0 : 0 ≤ iss) (i1 : iss < 4294967296) (bA : (bits BinOp.and .u8 fl 16 != 0) = true) (bR : (bits BinOp.and .u8 fl 4 != 0) = true) (hr : (ack == sadd iss 1) = false) :
    Calls Tryz.prog 12 #[.int .u32 iss, .agg #[.int .u16 src, .int .u16 dst, .int .u32 seq, .int .u32 ack, .int .u8 fl, .int .u16 win, .int .i64 mss, .int .i64 scale, .slice a n cap]] w fun e w' => e = .returned (.tuple #[.int .i64 1, .int .i64 0, .int .i64 0, .int .u32 0]) ∧ Mod [] w w' := by
  go_enter Tryz.func12, Tryz.ntmps12
  go_upto_region 1 with fail
  refine wp_name (fun W hW => ?_)
  have hB : Blk W w.heap.size 28 [.int .u16 src, .int .u16 dst, .int .u32 seq, .int .u32 ack, .int .u8 fl, .int .u16 win, .int .i64 mss, .int .i64 scale, .slice a n cap] := by
    rw [hW]
    exact Blk.new w 28 _
  have hM : Mod [] w W := by
    rw [hW]
    exact (Mod.refl _ _).alloc _
  clear hW
  have b3 := hB.cell 3
  have b4 := hB.cell 4
  simp at b3 b4
  go_quiet (fail)
  go_upto_region 2 with fail
  refine wp_name (fun W2 hW => ?_)
  have hB2 := hB.drewN nq
  rw [← hW] at hB2
  have hM2 := hM.drewN nq
  rw [← hW] at hM2
  clear hW b3 b4
  have b3 := hB2.cell 3
  have b4 := hB2.cell 4
  simp at b3 b4
  go_quiet ((go_at_call 15; exact Calls.quiet_of_same (Calls.still (radd_any _ _ _ i0 i1 (by omega) (by omega)))))
  go_wp2_with fail
  refine bodyPost_ret (v := .tuple #[.int .i64 1, .int .i64 0, .int .i64 0, .int .u32 0]) (by simp [results, Tryz.results12, go_sem]) rfl ⟨rfl, ?_⟩
  exact hM2.drewN _

set_option maxRecDepth 100000 in
set_option maxHeartbeats 2000000 in
theorem ropen_bad4 (w : World) (iss src dst seq ack fl win mss scale : Int) (a : Option Addr) (n cap : Nat) (i0 : 0 ≤ iss) (i1 : iss < 4294967296) (bA : (bits BinOp.and .u8 fl 16 != 0) = true) (bR : (bits BinOp.and .u8 fl 4 != 0) = false) (hr : (ack == sadd iss 1) = false) :
    Calls Tryz.prog 12 #[.int .u32 iss, .agg #[.int .u16 src, .int .u16 dst, .int .u32 seq, .int .u32 ack, .int .u8 fl, .int .u16 win, .int .i64 mss, .int .i64 scale, .slice a n cap]] w fun e w' => e = .returned (.tuple #[.int .i64 1, .int .i64 0, .int .i64 4, .int .u32 ack]) ∧ Mod [] w w' := by
  go_enter Tryz.func12, Tryz.ntmps12
  go_upto_region 1 with fail
  refine wp_name (fun W hW => ?_)
  have hB : Blk W w.heap.size 28 [.int .u16 src, .int .u16 dst, .int .u32 seq, .int .u32 ack, .int .u8 fl, .int .u16 win, .int .i64 mss, .int .i64 scale, .slice a n cap] := by
    rw [hW]
    exact Blk.new w 28 _
  have hM : Mod [] w W := by
    rw [hW]
    exact (Mod.refl _ _).alloc _
  clear hW
  have b3 := hB.cell 3
  have b4 := hB.cell 4
  simp at b3 b4
  go_quiet (fail)
  go_upto_region 2 with fail
  refine wp_name (fun W2 hW => ?_)
  have hB2 := hB.drewN nq
  rw [← hW] at hB2
  have hM2 := hM.drewN nq
  rw [← hW] at hM2
  clear hW b3 b4
  have b3 := hB2.cell 3
  have b4 := hB2.cell 4
  simp at b3 b4
  go_quiet ((go_at_call 15; exact Calls.quiet_of_same (Calls.still (radd_any _ _ _ i0 i1 (by omega) (by omega)))))
  go_wp2_with fail
  refine wp_name (fun W3 hW => ?_)
  have hB3 := hB2.drewN nq
  rw [← hW] at hB3
  have hM3 := hM2.drewN nq
  rw [← hW] at hM3
  clear hW b3 b4
  have b3 := hB3.cell 3
  simp at b3
  go_quiet (fail)
  go_wp2
  refine bodyPost_ret (v := .tuple #[.int .i64 1, .int .i64 0, .int .i64 4, .int .u32 ack]) (by simp [results, Tryz.results12, go_sem]) rfl ⟨rfl, ?_⟩
  exact hM3.drewN _

set_option maxRecDepth 100000 in
set_option maxHeartbeats 2000000 in
theorem ropen_refused (w : World) (iss src dst seq ack fl win mss scale : Int) (a : Option Addr) (n cap : Nat) (i0 : 0 ≤ iss) (i1 : iss < 4294967296) (bA : (bits BinOp.and .u8 fl 16 != 0) = true) (bR : (bits BinOp.and .u8 fl 4 != 0) = true) (hr : (ack == sadd iss 1) = true) :
    Calls Tryz.prog 12 #[.int .u32 iss, .agg #[.int .u16 src, .int .u16 dst, .int .u32 seq, .int .u32 ack, .int .u8 fl, .int .u16 win, .int .i64 mss, .int .i64 scale, .slice a n cap]] w fun e w' => e = .returned (.tuple #[.int .i64 0, .int .i64 220, .int .i64 0, .int .u32 0]) ∧ Mod [] w w' := by
  go_enter Tryz.func12, Tryz.ntmps12
  go_upto_region 1 with fail
  refine wp_name (fun W hW => ?_)
  have hB : Blk W w.heap.size 28 [.int .u16 src, .int .u16 dst, .int .u32 seq, .int .u32 ack, .int .u8 fl, .int .u16 win, .int .i64 mss, .int .i64 scale, .slice a n cap] := by
    rw [hW]
    exact Blk.new w 28 _
  have hM : Mod [] w W := by
    rw [hW]
    exact (Mod.refl _ _).alloc _
  clear hW
  have b3 := hB.cell 3
  have b4 := hB.cell 4
  simp at b3 b4
  go_quiet (fail)
  go_upto_region 2 with fail
  refine wp_name (fun W2 hW => ?_)
  have hB2 := hB.drewN nq
  rw [← hW] at hB2
  have hM2 := hM.drewN nq
  rw [← hW] at hM2
  clear hW b3 b4
  have b3 := hB2.cell 3
  have b4 := hB2.cell 4
  simp at b3 b4
  go_quiet ((go_at_call 15; exact Calls.quiet_of_same (Calls.still (radd_any _ _ _ i0 i1 (by omega) (by omega)))))
  go_wp2_with fail
  refine bodyPost_ret (v := .tuple #[.int .i64 0, .int .i64 220, .int .i64 0, .int .u32 0]) (by simp [results, Tryz.results12, go_sem]) rfl ⟨rfl, ?_⟩
  exact hM2.drewN _

set_option maxRecDepth 100000 in
set_option maxHeartbeats 2000000 in
theorem ropen_none3 (w : World) (iss src dst seq ack fl win mss scale : Int) (a : Option Addr) (n cap : Nat) (i0 : 0 ≤ iss) (i1 : iss < 4294967296) (bA : (bits BinOp.and .u8 fl 16 != 0) = false) (bR : (bits BinOp.and .u8 fl 4 != 0) = true) :
    Calls Tryz.prog 12 #[.int .u32 iss, .agg #[.int .u16 src, .int .u16 dst, .int .u32 seq, .int .u32 ack, .int .u8 fl, .int .u16 win, .int .i64 mss, .int .i64 scale, .slice a n cap]] w fun e w' => e = .returned (.tuple #[.int .i64 1, .int .i64 0, .int .i64 0, .int .u32 0]) ∧ Mod [] w w' := by
  go_enter Tryz.func12, Tryz.ntmps12
  go_upto_region 1 with fail
  refine wp_name (fun W hW => ?_)
  have hB : Blk W w.heap.size 28 [.int .u16 src, .int .u16 dst, .int .u32 seq, .int .u32 ack, .int .u8 fl, .int .u16 win, .int .i64 mss, .int .i64 scale, .slice a n cap] := by
    rw [hW]
    exact Blk.new w 28 _
  have hM : Mod [] w W := by
    rw [hW]
    exact (Mod.refl _ _).alloc _
  clear hW
  have b3 := hB.cell 3
  have b4 := hB.cell 4
  simp at b3 b4
  go_quiet (fail)
  go_upto_region 2 with fail
  refine wp_name (fun W2 hW => ?_)
  have hB2 := hB.drewN nq
  rw [← hW] at hB2
  have hM2 := hM.drewN nq
  rw [← hW] at hM2
  clear hW b3 b4
  have b3 := hB2.cell 3
  have b4 := hB2.cell 4
  simp at b3 b4
  go_quiet ((go_at_call 15; exact Calls.quiet_of_same (Calls.still (radd_any _ _ _ i0 i1 (by omega) (by omega)))))
  go_wp2_with fail
  refine bodyPost_ret (v := .tuple #[.int .i64 1, .int .i64 0, .int .i64 0, .int .u32 0]) (by simp [results, Tryz.results12, go_sem]) rfl ⟨rfl, ?_⟩
  exact hM2.drewN _

set_option maxRecDepth 100000 in
set_option maxHeartbeats 2000000 in
theorem ropen_none4 (w : World) (iss src dst seq ack fl win mss scale : Int) (a : Option Addr) (n cap : Nat) (i0 : 0 ≤ iss) (i1 : iss < 4294967296) (bA : (bits BinOp.and .u8 fl 16 != 0) = false) (bR : (bits BinOp.and .u8 fl 4 != 0) = false) (bS : (bits BinOp.and .u8 fl 2 != 0) = false) :
    Calls Tryz.prog 12 #[.int .u32 iss, .agg #[.int .u16 src, .int .u16 dst, .int .u32 seq, .int .u32 ack, .int .u8 fl, .int .u16 win, .int .i64 mss, .int .i64 scale, .slice a n cap]] w fun e w' => e = .returned (.tuple #[.int .i64 1, .int .i64 0, .int .i64 0, .int .u32 0]) ∧ Mod [] w w' := by
  go_enter Tryz.func12, Tryz.ntmps12
  go_upto_region 1 with fail
  refine wp_name (fun W hW => ?_)
  have hB : Blk W w.heap.size 28 [.int .u16 src, .int .u16 dst, .int .u32 seq, .int .u32 ack, .int .u8 fl, .int .u16 win, .int .i64 mss, .int .i64 scale, .slice a n cap] := by
    rw [hW]
    exact Blk.new w 28 _
  have hM : Mod [] w W := by
    rw [hW]
    exact (Mod.refl _ _).alloc _
  clear hW
  have b3 := hB.cell 3
  have b4 := hB.cell 4
  simp at b3 b4
  go_quiet (fail)
  go_upto_region 2 with fail
  refine wp_name (fun W2 hW => ?_)
  have hB2 := hB.drewN nq
  rw [← hW] at hB2
  have hM2 := hM.drewN nq
  rw [← hW] at hM2
  clear hW b3 b4
  have b3 := hB2.cell 3
  have b4 := hB2.cell 4
  simp at b3 b4
  go_quiet ((go_at_call 15; exact Calls.quiet_of_same (Calls.still (radd_any _ _ _ i0 i1 (by omega) (by omega)))))
  go_wp2_with fail
  refine bodyPost_ret (v := .tuple #[.int .i64 1, .int .i64 0, .int .i64 0, .int .u32 0]) (by simp [results, Tryz.results12, go_sem]) rfl ⟨rfl, ?_⟩
  exact hM2.drewN _

set_option maxRecDepth 100000 in
set_option maxHeartbeats 2000000 in
theorem ropen_none5 (w : World) (iss src dst seq ack fl win mss scale : Int) (a : Option Addr) (n cap : Nat) (i0 : 0 ≤ iss) (i1 : iss < 4294967296) (bA : (bits BinOp.and .u8 fl 16 != 0) = true) (bR : (bits BinOp.and .u8 fl 4 != 0) = false) (hr : (ack == sadd iss 1) = true) (bS : (bits BinOp.and .u8 fl 2 != 0) = false) :
    Calls Tryz.prog 12 #[.int .u32 iss, .agg #[.int .u16 src, .int .u16 dst, .int .u32 seq, .int .u32 ack, .int .u8 fl, .int .u16 win, .int .i64 mss, .int .i64 scale, .slice a n cap]] w fun e w' => e = .returned (.tuple #[.int .i64 1, .int .i64 0, .int .i64 0, .int .u32 0]) ∧ Mod [] w w' := by
  go_enter Tryz.func12, Tryz.ntmps12
  go_upto_region 1 with fail
  refine wp_name (fun W hW => ?_)
  have hB : Blk W w.heap.size 28 [.int .u16 src, .int .u16 dst, .int .u32 seq, .int .u32 ack, .int .u8 fl, .int .u16 win, .int .i64 mss, .int .i64 scale, .slice a n cap] := by
    rw [hW]
    exact Blk.new w 28 _
  have hM : Mod [] w W := by
    rw [hW]
    exact (Mod.refl _ _).alloc _
  clear hW
  have b3 := hB.cell 3
  have b4 := hB.cell 4
  simp at b3 b4
  go_quiet (fail)
  go_upto_region 2 with fail
  refine wp_name (fun W2 hW => ?_)
  have hB2 := hB.drewN nq
  rw [← hW] at hB2
  have hM2 := hM.drewN nq
  rw [← hW] at hM2
  clear hW b3 b4
  have b3 := hB2.cell 3
  have b4 := hB2.cell 4
  simp at b3 b4
  go_quiet ((go_at_call 15; exact Calls.quiet_of_same (Calls.still (radd_any _ _ _ i0 i1 (by omega) (by omega)))))
  go_wp2_with fail
  refine bodyPost_ret (v := .tuple #[.int .i64 1, .int .i64 0, .int .i64 0, .int .u32 0]) (by simp [results, Tryz.results12, go_sem]) rfl ⟨rfl, ?_⟩
  exact hM2.drewN _

set_option maxRecDepth 100000 in
set_option maxHeartbeats 2000000 in
theorem ropen_estab (w : World) (iss src dst seq ack fl win mss scale : Int) (a : Option Addr) (n cap : Nat) (i0 : 0 ≤ iss) (i1 : iss < 4294967296) (bA : (bits BinOp.and .u8 fl 16 != 0) = true) (bR : (bits BinOp.and .u8 fl 4 != 0) = false) (hr : (ack == sadd iss 1) = true) (bS : (bits BinOp.and .u8 fl 2 != 0) = true) :
    Calls Tryz.prog 12 #[.int .u32 iss, .agg #[.int .u16 src, .int .u16 dst, .int .u32 seq, .int .u32 ack, .int .u8 fl, .int .u16 win, .int .i64 mss, .int .i64 scale, .slice a n cap]] w fun e w' => e = .returned (.tuple #[.int .i64 3, .int .i64 0, .int .i64 16, .int .u32 (sadd iss 1)]) ∧ Mod [] w w' := by
  go_enter Tryz.func12, Tryz.ntmps12
  go_upto_region 1 with fail
  refine wp_name (fun W hW => ?_)
  have hB : Blk W w.heap.size 28 [.int .u16 src, .int .u16 dst, .int .u32 seq, .int .u32 ack, .int .u8 fl, .int .u16 win, .int .i64 mss, .int .i64 scale, .slice a n cap] := by
    rw [hW]
    exact Blk.new w 28 _
  have hM : Mod [] w W := by
    rw [hW]
    exact (Mod.refl _ _).alloc _
  clear hW
  have b3 := hB.cell 3
  have b4 := hB.cell 4
  simp at b3 b4
  go_quiet (fail)
  go_upto_region 2 with fail
  refine wp_name (fun W2 hW => ?_)
  have hB2 := hB.drewN nq
  rw [← hW] at hB2
  have hM2 := hM.drewN nq
  rw [← hW] at hM2
  clear hW b3 b4
  have b3 := hB2.cell 3
  have b4 := hB2.cell 4
  simp at b3 b4
  go_quiet ((go_at_call 15; exact Calls.quiet_of_same (Calls.still (radd_any _ _ _ i0 i1 (by omega) (by omega)))))
  go_wp2_with (go_at_call 15; refine (radd_any _ _ _ i0 i1 (by omega) (by omega)).mono ?_; rintro e w' ⟨rfl, rfl⟩)
  refine bodyPost_ret (v := .tuple #[.int .i64 3, .int .i64 0, .int .i64 16, .int .u32 (sadd iss 1)]) (by simp [results, Tryz.results12, go_sem]) rfl ⟨rfl, ?_⟩
  exact hM2.drewN _

set_option maxRecDepth 100000 in
set_option maxHeartbeats 2000000 in
theorem ropen_rcvd (w : World) (iss src dst seq ack fl win mss scale : Int) (a : Option Addr) (n cap : Nat) (i0 : 0 ≤ iss) (i1 : iss < 4294967296) (bA : (bits BinOp.and .u8 fl 16 != 0) = false) (bR : (bits BinOp.and .u8 fl 4 != 0) = false) (bS : (bits BinOp.and .u8 fl 2 != 0) = true) :
    Calls Tryz.prog 12 #[.int .u32 iss, .agg #[.int .u16 src, .int .u16 dst, .int .u32 seq, .int .u32 ack, .int .u8 fl, .int .u16 win, .int .i64 mss, .int .i64 scale, .slice a n cap]] w fun e w' => e = .returned (.tuple #[.int .i64 2, .int .i64 0, .int .i64 18, .int .u32 iss]) ∧ Mod [] w w' := by
  go_enter Tryz.func12, Tryz.ntmps12
  go_upto_region 1 with fail
  refine wp_name (fun W hW => ?_)
  have hB : Blk W w.heap.size 28 [.int .u16 src, .int .u16 dst, .int .u32 seq, .int .u32 ack, .int .u8 fl, .int .u16 win, .int .i64 mss, .int .i64 scale, .slice a n cap] := by
    rw [hW]
    exact Blk.new w 28 _
  have hM : Mod [] w W := by
    rw [hW]
    exact (Mod.refl _ _).alloc _
  clear hW
  have b3 := hB.cell 3
  have b4 := hB.cell 4
  simp at b3 b4
  go_quiet (fail)
  go_upto_region 2 with fail
  refine wp_name (fun W2 hW => ?_)
  have hB2 := hB.drewN nq
  rw [← hW] at hB2
  have hM2 := hM.drewN nq
  rw [← hW] at hM2
  clear hW b3 b4
  have b3 := hB2.cell 3
  have b4 := hB2.cell 4
  simp at b3 b4
  go_quiet ((go_at_call 15; exact Calls.quiet_of_same (Calls.still (radd_any _ _ _ i0 i1 (by omega) (by omega)))))
  go_wp2_with fail
  refine bodyPost_ret (v := .tuple #[.int .i64 2, .int .i64 0, .int .i64 18, .int .u32 iss]) (by simp [results, Tryz.results12, go_sem]) rfl ⟨rfl, ?_⟩
  exact hM2.drewN _

end Go.Proofs.YtpomnnfabpbmiaaGreat
