import Derived.Test.YtpomnnfabpbmiaaGreatMade
namespace Go.Proofs.YtpomnnfabpbmiaaGreat
open Go.RowKit
set_option linter.unusedVariables false

set_option maxHeartbeats 400000 in
theorem in_yes (n lo hi : Int) (w : World) (h : lo ≤ n ∧ n ≤ hi) : Calls Tryz.prog 32 #[.int .i64 n, .int .i64 lo, .int .i64 hi] w (fun e w' => e = .returned (.bool true) ∧ w = w') := by
  obtain ⟨h1, h2⟩ := h
  go_enter Tryz.func32, Tryz.ntmps32
  go_wp2
  go_ret
  exact ⟨rfl, rfl⟩
set_option maxHeartbeats 400000 in
theorem in_no (n lo hi : Int) (w : World) (h : ¬ (lo ≤ n ∧ n ≤ hi)) : Calls Tryz.prog 32 #[.int .i64 n, .int .i64 lo, .int .i64 hi] w (fun e w' => e = .returned (.bool false) ∧ w = w') := by
  by_cases h1 : lo ≤ n
  · have h2 : ¬ n ≤ hi := fun h' => h ⟨h1, h'⟩
    clear h
    go_enter Tryz.func32, Tryz.ntmps32
    go_wp2
    go_ret
    exact ⟨rfl, rfl⟩
  · clear h
    go_enter Tryz.func32, Tryz.ntmps32
    go_wp2
    go_ret
    exact ⟨rfl, rfl⟩
set_option maxHeartbeats 400000 in
theorem right_yes (l m f : Int) (w : World) (h : 1 ≤ l ∧ l ≤ f ∧ f ≤ m ∧ m ≤ 1073741824) : Calls Tryz.prog 33 #[.int .i64 l, .int .i64 m, .int .i64 f] w (fun e w' => e = .returned (.bool true) ∧ w = w') := by
  obtain ⟨h1, h2, h3, h4⟩ := h
  go_enter Tryz.func33, Tryz.ntmps33
  go_wp2
  go_ret
  exact ⟨rfl, rfl⟩
set_option maxHeartbeats 400000 in
theorem right_no (l m f : Int) (w : World) (h : ¬ (1 ≤ l ∧ l ≤ f ∧ f ≤ m ∧ m ≤ 1073741824)) : Calls Tryz.prog 33 #[.int .i64 l, .int .i64 m, .int .i64 f] w (fun e w' => e = .returned (.bool false) ∧ w = w') := by
  by_cases h1 : 1 ≤ l
  · by_cases h2 : l ≤ f
    · by_cases h3 : f ≤ m
      · have h4 : ¬ m ≤ 1073741824 := fun h' => h ⟨h1, h2, h3, h'⟩
        clear h
        go_enter Tryz.func33, Tryz.ntmps33
        go_wp2
        go_ret
        exact ⟨rfl, rfl⟩
      · clear h
        go_enter Tryz.func33, Tryz.ntmps33
        go_wp2
        go_ret
        exact ⟨rfl, rfl⟩
    · clear h
      go_enter Tryz.func33, Tryz.ntmps33
      go_wp2
      go_ret
      exact ⟨rfl, rfl⟩
  · clear h
    go_enter Tryz.func33, Tryz.ntmps33
    go_wp2
    go_ret
    exact ⟨rfl, rfl⟩

end Go.Proofs.YtpomnnfabpbmiaaGreat
