import Derived.Test.YtpomnnfabpbmiaaGreatStray
namespace Go.Proofs.YtpomnnfabpbmiaaGreat
open Go.RowKit
set_option linter.unusedVariables false

set_option maxRecDepth 100000 in
set_option maxHeartbeats 4000000 in
theorem stray_rst (src dst seq ack fl win mss scale : Int) (a : Option Addr) (n cap : Nat) (w : World) (b4 : (bits BinOp.and .u8 fl 4 != 0) = true) :
    Calls Tryz.prog 17 #[.agg #[.int .u16 src, .int .u16 dst, .int .u32 seq, .int .u32 ack, .int .u8 fl, .int .u16 win, .int .i64 mss, .int .i64 scale, .slice a n cap]] w fun e w' => e = .returned (.tuple #[.agg #[.int .u16 0, .int .u16 0, .int .u32 0, .int .u32 0, .int .u8 0, .int .u16 0, .int .i64 0, .int .i64 0, .slice none 0 0], .bool false]) ∧ Mod [] w w' := by
  go_enter Tryz.func17, Tryz.ntmps17
  go_wp2
  all_goals
    refine bodyPost_ret (v := .tuple #[.agg #[.int .u16 0, .int .u16 0, .int .u32 0, .int .u32 0, .int .u8 0, .int .u16 0, .int .i64 0, .int .i64 0, .slice none 0 0], .bool false]) (by simp [results, Tryz.results17, go_sem]) rfl ⟨rfl, ?_⟩
    repeat (first | (with_reducible exact Mod.refl _ _) | (with_reducible refine Mod.drew ?_) | (with_reducible refine Mod.alloc ?_ _))

set_option maxRecDepth 100000 in
set_option maxHeartbeats 4000000 in
theorem stray_ack (src dst seq ack fl win mss scale : Int) (a : Option Addr) (n cap : Nat) (w : World) (b4 : (bits BinOp.and .u8 fl 4 != 0) = false) (b16 : (bits BinOp.and .u8 fl 16 == 0) = false) :
    Calls Tryz.prog 17 #[.agg #[.int .u16 src, .int .u16 dst, .int .u32 seq, .int .u32 ack, .int .u8 fl, .int .u16 win, .int .i64 mss, .int .i64 scale, .slice a n cap]] w fun e w' => e = .returned (.tuple #[.agg #[.int .u16 dst, .int .u16 src, .int .u32 ack, .int .u32 0, .int .u8 4, .int .u16 0, .int .i64 0, .int .i64 0, .slice none 0 0], .bool true]) ∧ Mod [] w w' := by
  go_enter Tryz.func17, Tryz.ntmps17
  go_wp2
  all_goals
    refine bodyPost_ret (v := .tuple #[.agg #[.int .u16 dst, .int .u16 src, .int .u32 ack, .int .u32 0, .int .u8 4, .int .u16 0, .int .i64 0, .int .i64 0, .slice none 0 0], .bool true]) (by simp [results, Tryz.results17, go_sem]) rfl ⟨rfl, ?_⟩
    repeat (first | (with_reducible exact Mod.refl _ _) | (with_reducible refine Mod.drew ?_) | (with_reducible refine Mod.alloc ?_ _))

set_option maxRecDepth 100000 in
set_option maxHeartbeats 4000000 in
theorem stray_none (src dst seq ack fl win mss scale : Int) (a : Option Addr) (n cap : Nat) (w : World) (b4 : (bits BinOp.and .u8 fl 4 != 0) = false) (b16 : (bits BinOp.and .u8 fl 16 == 0) = true) (hn : n ≤ 1000) (s f : Bool) (b2 : (bits BinOp.and .u8 fl 2 != 0) = s) (b1 : (bits BinOp.and .u8 fl 1 != 0) = f) :
    Calls Tryz.prog 17 #[.agg #[.int .u16 src, .int .u16 dst, .int .u32 seq, .int .u32 ack, .int .u8 fl, .int .u16 win, .int .i64 mss, .int .i64 scale, .slice a n cap]] w fun e w' => e = .returned (.tuple #[.agg #[.int .u16 dst, .int .u16 src, .int .u32 0, .int .u32 (sadd seq (n + one s + one f)), .int .u8 20, .int .u16 0, .int .i64 0, .int .i64 0, .slice none 0 0], .bool true]) ∧ Mod [] w w' := by
  go_enter Tryz.func17, Tryz.ntmps17
  go_wp2
  go_region_with (first | (go_at_call 47; refine (len_any src dst seq ack fl win mss scale a n cap _ hn s f b2 b1).mono ?_; rintro e w' ⟨rfl, rfl⟩) | (go_at_call 46; refine (add_spec _ _ _).mono ?_; rintro e w' ⟨rfl, rfl⟩))
  all_goals
    go_wp2
    refine bodyPost_ret (v := .tuple #[.agg #[.int .u16 dst, .int .u16 src, .int .u32 0, .int .u32 (sadd seq (n + one s + one f)), .int .u8 20, .int .u16 0, .int .i64 0, .int .i64 0, .slice none 0 0], .bool true]) (by simp [results, Tryz.results17, go_sem]) rfl ⟨rfl, ?_⟩
    repeat (first | (with_reducible exact Mod.refl _ _) | (with_reducible refine Mod.drew ?_) | (with_reducible refine Mod.alloc ?_ _))

set_option maxRecDepth 100000 in
set_option maxHeartbeats 4000000 in
theorem rstray_rst (src dst seq ack fl win mss scale : Int) (a : Option Addr) (n cap : Nat) (w : World) (b4 : (bits BinOp.and .u8 fl 4 != 0) = true) :
    Calls Tryz.prog 18 #[.agg #[.int .u16 src, .int .u16 dst, .int .u32 seq, .int .u32 ack, .int .u8 fl, .int .u16 win, .int .i64 mss, .int .i64 scale, .slice a n cap]] w fun e w' => e = .returned (.tuple #[.agg #[.int .u16 0, .int .u16 0, .int .u32 0, .int .u32 0, .int .u8 0, .int .u16 0, .int .i64 0, .int .i64 0, .slice none 0 0], .bool false]) ∧ Mod [] w w' := by
  go_enter Tryz.func18, Tryz.ntmps18
  go_wp2
  all_goals
    refine bodyPost_ret (v := .tuple #[.agg #[.int .u16 0, .int .u16 0, .int .u32 0, .int .u32 0, .int .u8 0, .int .u16 0, .int .i64 0, .int .i64 0, .slice none 0 0], .bool false]) (by simp [results, Tryz.results18, go_sem]) rfl ⟨rfl, ?_⟩
    repeat (first | (with_reducible exact Mod.refl _ _) | (with_reducible refine Mod.drew ?_) | (with_reducible refine Mod.alloc ?_ _))

set_option maxRecDepth 100000 in
set_option maxHeartbeats 4000000 in
theorem rstray_ack (src dst seq ack fl win mss scale : Int) (a : Option Addr) (n cap : Nat) (w : World) (b4 : (bits BinOp.and .u8 fl 4 != 0) = false) (b16 : (bits BinOp.and .u8 fl 16 != 0) = true) :
    Calls Tryz.prog 18 #[.agg #[.int .u16 src, .int .u16 dst, .int .u32 seq, .int .u32 ack, .int .u8 fl, .int .u16 win, .int .i64 mss, .int .i64 scale, .slice a n cap]] w fun e w' => e = .returned (.tuple #[.agg #[.int .u16 dst, .int .u16 src, .int .u32 ack, .int .u32 0, .int .u8 4, .int .u16 0, .int .i64 0, .int .i64 0, .slice none 0 0], .bool true]) ∧ Mod [] w w' := by
  go_enter Tryz.func18, Tryz.ntmps18
  go_wp2
  all_goals
    refine bodyPost_ret (v := .tuple #[.agg #[.int .u16 dst, .int .u16 src, .int .u32 ack, .int .u32 0, .int .u8 4, .int .u16 0, .int .i64 0, .int .i64 0, .slice none 0 0], .bool true]) (by simp [results, Tryz.results18, go_sem]) rfl ⟨rfl, ?_⟩
    repeat (first | (with_reducible exact Mod.refl _ _) | (with_reducible refine Mod.drew ?_) | (with_reducible refine Mod.alloc ?_ _))

end Go.Proofs.YtpomnnfabpbmiaaGreat
