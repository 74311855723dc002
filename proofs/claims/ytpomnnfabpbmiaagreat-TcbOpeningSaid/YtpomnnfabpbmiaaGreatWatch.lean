import Derived.Test.YtpomnnfabpbmiaaGreatHello
import Derived.Deep.RegionHeld3
namespace Go.Proofs.YtpomnnfabpbmiaaGreat
open Go.RowKit
set_option linter.unusedVariables false

set_option maxHeartbeats 400000 in
theorem fault_spec (p : Nat) (w : World) (x : Conn) (hX : ConnAt w p x) :
    Calls Tryz.prog 14 #[.pointer (some ⟨p, 0, none⟩)] w fun e w' => e = .returned (.int .i64 x.fault) ∧ w = w' := by
  have c := hX.fault
  go_enter Tryz.func14, Tryz.ntmps14
  go_wp2
  go_ret
  exact ⟨rfl, rfl⟩

set_option maxRecDepth 100000 in
set_option maxHeartbeats 1000000 in
theorem waits_no (p s : Nat) (w : World) (x : Conn) (hX : ConnAt w p x) (hs : x.snd = .pointer (some ⟨s, 0, none⟩)) (hut : x.una = x.top) (hsh : x.shut = false) (room : Int) (ring : Value) (first hin hout : Int) (hS : Blk w s 111 (hoseCells room ring first 0 hin hout)) :
    Calls Tryz.prog 87 #[.pointer (some ⟨p, 0, none⟩)] w fun e w' => e = .returned (.bool false) ∧ ∃ m, w' = w.drewN m := by
  have c22 := hX.snd
  rw [hs] at c22
  have c19 := hX.una
  rw [hut] at c19
  have c21 := hX.top
  have c23 := hX.shut
  rw [hsh] at c23
  have HL : ∀ m, (w.drewN m).cell? ⟨s, 3, none⟩ = some (.int .i64 0) := fun m => hS.cell 3
  clear hs hut hsh
  go_enter Tryz.func87, Tryz.ntmps87
  go_wp2
  go_quiet ((go_at_call 45; exact Calls.quiet_of_same (Calls.still (len_spec s _ 0 (HL _)))))
  go_wp2
  go_ret
  exact ⟨rfl, nq, rfl⟩

set_option maxRecDepth 100000 in
set_option maxHeartbeats 1000000 in
theorem watch_off (p s : Nat) (w : World) (x : Conn) (hX : ConnAt w p x) (hs : x.snd = .pointer (some ⟨s, 0, none⟩)) (hut : x.una = x.top) (hsh : x.shut = false) (room : Int) (ring : Value) (first hin hout : Int) (hS : Blk w s 111 (hoseCells room ring first 0 hin hout)) :
    Calls Tryz.prog 70 #[.pointer (some ⟨p, 0, none⟩), .bool true] w fun e w' => e = .returned (.tuple #[]) ∧ ConnAt w' p { x with user := false } ∧ Mod [p] w w' := by
  have HS := Lib.hid hs
  have HU := Lib.hid hut
  have HH := Lib.hid hsh
  clear hs hut hsh
  go_enter Tryz.func70, Tryz.ntmps70
  go_wp2_with (go_at_call 87; refine (waits_no p s _ x hX HS.out HU.out HH.out room ring first hin hout hS).mono ?_; rintro e w1 ⟨rfl, m, rfl⟩; have c51 := ConnAt.user (hX.drewN m); have fz := ConnAt.fz (hX.drewN m))
  go_end0
  exact ⟨rfl, (hX.drewN m).set_user _, ((Mod.refl _ _).drewN m).setCell (.inl (by simp)) _⟩

set_option maxRecDepth 100000 in
set_option maxHeartbeats 1000000 in
theorem ack_spec (p b k : Nat) (w : World) (x : Conn) (room n : Int) (ring : Value) (first inn out : Int) (hP : PutPre w p b k x room n ring first inn out) :
    Calls Tryz.prog 37 #[.pointer (some ⟨p, 0, none⟩)] w fun e w' => e = .returned (.tuple #[]) ∧ PutOne w p x 16 x.top w' := by
  have c := hP.at_.top
  go_enter Tryz.func37, Tryz.ntmps37
  go_wp2_with (go_at_call 53; refine (put_ack p b k _ x x.top room n ring first inn out hP).mono ?_; rintro e w1 ⟨rfl, hO⟩)
  go_end0
  exact ⟨rfl, hO⟩

/-! a Vars: only Irs is told -/
set_option maxRecDepth 100000 in
set_option maxHeartbeats 2000000 in
theorem vars_irs (p b s : Nat) (w : World) (x : Conn) (hX : ConnAt w p x) (hs : x.snd = .pointer (some ⟨s, 0, none⟩)) (hb : x.inn = .pointer (some ⟨b, 0, none⟩)) (room n : Int) (ring : Value) (first hin hout : Int) (hB : Blk w b 111 (hoseCells room ring first n hin hout))
    (h0 : 0 ≤ n) (h1 : n ≤ room) (h2 : room ≤ 1048576) (room2 n2 : Int) (ring2 : Value) (first2 hin2 hout2 : Int) (hS : Blk w s 111 (hoseCells room2 ring2 first2 n2 hin2 hout2)) :
    Calls Tryz.prog 16 #[.pointer (some ⟨p, 0, none⟩)] w fun e w' => (∃ a0 a1 a2 a3 a5 a6 a7 a8 a9 : Value, e = .returned (.agg #[a0, a1, a2, a3, .int .u32 x.irs, a5, a6, a7, a8, a9])) ∧ Mod [] w w' := by
  have HS := Lib.hid hs
  have HI := Lib.hid hb
  clear hs hb
  have hlt := hX.lt
  go_enter Tryz.func16, Tryz.ntmps16
  go_wp2_with fail
  have hX1 := hX.alloc (.cells #[.int .u32 0, .int .u32 0, .int .u32 0, .int .u32 0, .int .u32 0, .int .u32 0, .int .i64 0, .int .i64 0, .int .i64 0, .int .i64 0] 51 (0, 0))
  have hB1 := hB.alloc (.cells #[.int .u32 0, .int .u32 0, .int .u32 0, .int .u32 0, .int .u32 0, .int .u32 0, .int .i64 0, .int .i64 0, .int .i64 0, .int .i64 0] 51 (0, 0))
  have hS1 := hS.alloc (.cells #[.int .u32 0, .int .u32 0, .int .u32 0, .int .u32 0, .int .u32 0, .int .u32 0, .int .i64 0, .int .i64 0, .int .i64 0, .int .i64 0] 51 (0, 0))
  have c18 := ConnAt.iss hX1
  have c19 := ConnAt.una hX1
  have c20 := ConnAt.nxt hX1
  have c21 := ConnAt.top hX1
  have c37 := ConnAt.irs hX1
  have c38 := ConnAt.rcv hX1
  have c24 := ConnAt.peer hX1
  have c22 := ConnAt.snd hX1
  rw [HS.out] at c22
  have c39 := ConnAt.inn hX1
  rw [HI.out] at c39
  have b0 := hB1.cell 0
  have b3 := hB1.cell 3
  have s3 := hS1.cell 3
  simp [hoseCells] at b0 b3 s3
  have fzz : ∀ k, (w.alloc (.cells #[.int .u32 0, .int .u32 0, .int .u32 0, .int .u32 0, .int .u32 0, .int .u32 0, .int .i64 0, .int .i64 0, .int .i64 0, .int .i64 0] 51 (0, 0))).frozen? ⟨w.heap.size, k, none⟩ = false := fun k => (Blk.new w 51 _).frozen k
  have hbl := hB.lt
  have hsl := hS.lt
  have n1 : w.heap.size ≠ p := by omega
  have n2' : p ≠ w.heap.size := by omega
  have n3 : w.heap.size ≠ b := by omega
  have n4 : b ≠ w.heap.size := by omega
  have n5 : w.heap.size ≠ s := by omega
  have n6 : s ≠ w.heap.size := by omega
  go_region_held3 (fun w' => w'.cell? ⟨p, 18, none⟩ = some (.int .u32 x.iss) ∧ w'.cell? ⟨p, 19, none⟩ = some (.int .u32 x.una) ∧ w'.cell? ⟨p, 20, none⟩ = some (.int .u32 x.nxt) ∧ w'.cell? ⟨p, 21, none⟩ = some (.int .u32 x.top) ∧ w'.cell? ⟨p, 37, none⟩ = some (.int .u32 x.irs) ∧ w'.cell? ⟨p, 38, none⟩ = some (.int .u32 x.rcv) ∧ w'.cell? ⟨p, 24, none⟩ = some (.int .i64 x.peer) ∧ w'.cell? ⟨p, 22, none⟩ = some (.pointer (some ⟨s, 0, none⟩)) ∧ w'.cell? ⟨p, 39, none⟩ = some (.pointer (some ⟨b, 0, none⟩)) ∧ w'.cell? ⟨b, 0, none⟩ = some (.int .i64 room) ∧ w'.cell? ⟨b, 3, none⟩ = some (.int .i64 n) ∧ w'.cell? ⟨s, 3, none⟩ = some (.int .i64 n2)) (go_keep) (first | (go_at_call 44; refine (room_spec b _ room n (by assumption) (by assumption) h0 h1 h2).mono ?_; rintro e w' ⟨rfl, m, rfl⟩) | (go_at_call 45; first | (refine (len_spec b _ n (by assumption)).mono ?_; rintro e w' ⟨rfl, rfl⟩) | (refine (len_spec s _ n2 (by assumption)).mono ?_; rintro e w' ⟨rfl, rfl⟩)))
  all_goals
    go_wp2
    refine bodyPost_ret (v := .agg #[.int .u32 x.iss, .int .u32 x.una, .int .u32 x.nxt, .int .u32 x.top, .int .u32 x.irs, .int .u32 x.rcv, .int .i64 (room - n), .int .i64 x.peer, .int .i64 n, .int .i64 n2]) (by simp [results, Tryz.results16, go_sem]) rfl ⟨⟨_, _, _, _, _, _, _, _, _, rfl⟩, ?_⟩
    repeat (first | (with_reducible exact Mod.refl _ _) | (with_reducible refine Mod.setCell ?_ (.inr (Nat.le_refl _)) _) | (with_reducible refine Mod.drew ?_) | (with_reducible refine Mod.drewN ?_ _) | (with_reducible refine Mod.alloc ?_ _))
end Go.Proofs.YtpomnnfabpbmiaaGreat
