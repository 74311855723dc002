import Derived.Test.YtpomnnfabpbmiaaLate
namespace Go.Proofs.Ytpomnnfabpbmiaa
open Go.RowKit
set_option linter.unusedVariables false

set_option maxRecDepth 100000 in
set_option maxHeartbeats 2000000 in
theorem next_none (p : Nat) (w : World) (x : Conn) (hX : ConnAt w p x) (hu : x.user = false) (hw : x.wait = false) (ha : x.again = false) (hpb : x.probe = false) :
    Calls Try.prog 10 #[.pointer (some ⟨p, 0, none⟩)] w fun e w' => e = .returned (.tuple #[.int .i64 0, .bool false]) ∧ Mod [] w w' := by
  have c0 := hX.userAt
  have c1 := hX.user
  have c2 := hX.waitAt
  have c3 := hX.wait
  have c4 := hX.againAt
  have c5 := hX.again
  have c6 := hX.probeAt
  have c7 := hX.probe
  rw [hu] at c1
  rw [hw] at c3
  rw [ha] at c5
  rw [hpb] at c7
  clear hu hw ha hpb
  go_enter Try.func10, Try.ntmps10
  go_wp2
  go_region
  go_wp2
  refine wp_loop_rounds 5 ?_
  rw [rounds_succ]
  go_wp2
  rw [rounds_succ]
  go_wp2
  rw [rounds_succ]
  go_wp2
  rw [rounds_succ]
  go_wp2
  rw [rounds_succ]
  go_wp2
  go_ret2
  exact ⟨rfl, by repeat (first | (with_reducible exact Mod.refl _ _) | (with_reducible refine Mod.drew ?_) | (with_reducible refine Mod.alloc ?_ _))⟩

set_option maxRecDepth 100000 in
set_option maxHeartbeats 4000000 in
theorem next_two (p : Nat) (w : World) (x : Conn) (hX : ConnAt w p x) (hu : x.user = true) (hw : x.wait = false) (ha : x.again = true) (hpb : x.probe = false) :
    Calls Try.prog 10 #[.pointer (some ⟨p, 0, none⟩)] w fun e w' => e = .returned (.tuple #[.int .i64 (min x.againAt x.userAt), .bool true]) ∧ Mod [] w w' := by
  have c0 := hX.userAt
  have c1 := hX.user
  have c2 := hX.waitAt
  have c3 := hX.wait
  have c4 := hX.againAt
  have c5 := hX.again
  have c6 := hX.probeAt
  have c7 := hX.probe
  rw [hu] at c1
  rw [hw] at c3
  rw [ha] at c5
  rw [hpb] at c7
  clear hu hw ha hpb
  by_cases hlt : x.againAt < x.userAt
  · have hm : min x.againAt x.userAt = x.againAt := by omega
    rw [hm]
    clear hm
    go_enter Try.func10, Try.ntmps10
    go_wp2
    go_region
    go_wp2
    refine wp_loop_rounds 5 ?_
    rw [rounds_succ]
    go_wp2
    rw [rounds_succ]
    go_wp2
    rw [rounds_succ]
    go_wp2
    rw [rounds_succ]
    go_wp2
    rw [rounds_succ]
    go_wp2
    go_ret2
    exact ⟨rfl, by repeat (first | (with_reducible exact Mod.refl _ _) | (with_reducible refine Mod.drew ?_) | (with_reducible refine Mod.alloc ?_ _))⟩
  · have hm : min x.againAt x.userAt = x.userAt := by omega
    rw [hm]
    clear hm
    go_enter Try.func10, Try.ntmps10
    go_wp2
    go_region
    go_wp2
    refine wp_loop_rounds 5 ?_
    rw [rounds_succ]
    go_wp2
    rw [rounds_succ]
    go_wp2
    rw [rounds_succ]
    go_wp2
    rw [rounds_succ]
    go_wp2
    rw [rounds_succ]
    go_wp2
    go_ret2
    exact ⟨rfl, by repeat (first | (with_reducible exact Mod.refl _ _) | (with_reducible refine Mod.drew ?_) | (with_reducible refine Mod.alloc ?_ _))⟩

end Go.Proofs.Ytpomnnfabpbmiaa
