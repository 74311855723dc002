import Derived.Test.YtpomnnfabpbmiaaGreatChk1
namespace Go.Proofs.YtpomnnfabpbmiaaGreat
open Go.RowKit

theorem within_yes (n lo hi : Int) (w : World) (h : lo ≤ n ∧ n ≤ hi) : Calls Tryz.prog 91 #[.int .i64 n, .int .i64 lo, .int .i64 hi] w (fun e w' => e = .returned (.bool true) ∧ w = w') :=
  (within_spec n lo hi w).mono fun e w' ⟨b, he, hb, hw⟩ => by cases b <;> simp_all
theorem within_no (n lo hi : Int) (w : World) (h : ¬ (lo ≤ n ∧ n ≤ hi)) : Calls Tryz.prog 91 #[.int .i64 n, .int .i64 lo, .int .i64 hi] w (fun e w' => e = .returned (.bool false) ∧ w = w') :=
  (within_spec n lo hi w).mono fun e w' ⟨b, he, hb, hw⟩ => by
    cases b
    · exact ⟨he, hw⟩
    · exact absurd (hb.1 rfl) h
theorem rtoNew_yes (least most first : Int) (w : World) (h : 1 ≤ least ∧ least ≤ first ∧ first ≤ most ∧ most ≤ 1073741824) : Calls Tryz.prog 63 #[.int .i64 least, .int .i64 most, .int .i64 first] w (fun e w' =>
    e = .returned (.tuple #[.pointer (some ⟨w.heap.size, 0, none⟩), .int .i64 0]) ∧ w.alloc (.cells #[.int .i64 least, .int .i64 most, .int .i64 0, .int .i64 0, .bool false, .int .i64 first, .int .i64 0] 113) = w') :=
  (rtoNew_spec least most first w).mono fun e w' ⟨p, r, he, hr⟩ => by
    rcases hr with ⟨_, hn, _⟩ | ⟨rfl, _, rfl, hw⟩
    · exact absurd h hn
    · exact ⟨he, hw⟩
theorem rtoNew_no (least most first : Int) (w : World) (h : ¬ (1 ≤ least ∧ least ≤ first ∧ first ≤ most ∧ most ≤ 1073741824)) : Calls Tryz.prog 63 #[.int .i64 least, .int .i64 most, .int .i64 first] w (fun e w' =>
    (∃ p, e = .returned (.tuple #[.pointer p, .int .i64 1])) ∧ w = w') :=
  (rtoNew_spec least most first w).mono fun e w' ⟨p, r, he, hr⟩ => by
    rcases hr with ⟨rfl, _, hw⟩ | ⟨rfl, hy, rfl, hw⟩
    · exact ⟨⟨p, he⟩, hw⟩
    · exact absurd hy h

/-- a number comes back, 0 where P holds, else 1; at most new blocks -/
def CodeIs (P : Prop) (w : World) (e : Ending) (w' : World) : Prop := ∃ r : Int, e = .returned (.int .i64 r) ∧ (r = 0 ∨ r = 1) ∧ (r = 0 ↔ P) ∧ Mod [] w w'

theorem codeIs_no {P : Prop} {w w' : World} (h : ¬ P) (m : Mod [] w w') : CodeIs P w (.returned (.int .i64 1)) w' := ⟨1, rfl, .inr rfl, by simp [h], m⟩
theorem codeIs_yes {P : Prop} {w w' : World} (h : P) (m : Mod [] w w') : CodeIs P w (.returned (.int .i64 0)) w' := ⟨0, rfl, .inl rfl, by simp [h], m⟩

set_option maxRecDepth 100000 in
set_option maxHeartbeats 1000000 in
theorem check_0 (c : Cfg) (w : World)  (h1 : ¬ (88 ≤ c.mss ∧ c.mss ≤ 65455)) :
    Calls Tryz.prog 60 #[.agg #[.int .i64 c.mss, .int .i64 c.snd, .int .i64 c.rcv, .int .i64 c.least, .int .i64 c.most, .int .i64 c.first, .int .i64 c.tries, .int .i64 c.msl, .int .i64 c.user]] w (CodeIs c.ok w) := by
  go_enter Tryz.func60, Tryz.ntmps60
  go_wp2_with (first | (go_at_call 91; (with_reducible refine (within_no _ _ _ _ h1).mono ?_); rintro e w' ⟨rfl, rfl⟩))
  go_ret
  exact codeIs_no (fun h => h1 ⟨h.m1, h.m2⟩) ((Mod.refl _ _).alloc _)

set_option maxRecDepth 100000 in
set_option maxHeartbeats 1000000 in
theorem check_1 (c : Cfg) (w : World) (h1 : 88 ≤ c.mss ∧ c.mss ≤ 65455) (h2 : ¬ (1 ≤ c.snd ∧ c.snd ≤ 1048576)) :
    Calls Tryz.prog 60 #[.agg #[.int .i64 c.mss, .int .i64 c.snd, .int .i64 c.rcv, .int .i64 c.least, .int .i64 c.most, .int .i64 c.first, .int .i64 c.tries, .int .i64 c.msl, .int .i64 c.user]] w (CodeIs c.ok w) := by
  go_enter Tryz.func60, Tryz.ntmps60
  go_wp2_with (first | (go_at_call 91; (with_reducible refine (within_yes _ _ _ _ h1).mono ?_); rintro e w' ⟨rfl, rfl⟩) | (go_at_call 91; (with_reducible refine (within_no _ _ _ _ h2).mono ?_); rintro e w' ⟨rfl, rfl⟩))
  go_ret
  exact codeIs_no (fun h => h2 ⟨h.s1, h.s2⟩) ((Mod.refl _ _).alloc _)

set_option maxRecDepth 100000 in
set_option maxHeartbeats 1000000 in
theorem check_2 (c : Cfg) (w : World) (h1 : 88 ≤ c.mss ∧ c.mss ≤ 65455) (h2 : 1 ≤ c.snd ∧ c.snd ≤ 1048576) (h3 : ¬ (1 ≤ c.rcv ∧ c.rcv ≤ 1048576)) :
    Calls Tryz.prog 60 #[.agg #[.int .i64 c.mss, .int .i64 c.snd, .int .i64 c.rcv, .int .i64 c.least, .int .i64 c.most, .int .i64 c.first, .int .i64 c.tries, .int .i64 c.msl, .int .i64 c.user]] w (CodeIs c.ok w) := by
  go_enter Tryz.func60, Tryz.ntmps60
  go_wp2_with (first | (go_at_call 91; (with_reducible refine (within_yes _ _ _ _ h1).mono ?_); rintro e w' ⟨rfl, rfl⟩) | (go_at_call 91; (with_reducible refine (within_yes _ _ _ _ h2).mono ?_); rintro e w' ⟨rfl, rfl⟩) | (go_at_call 91; (with_reducible refine (within_no _ _ _ _ h3).mono ?_); rintro e w' ⟨rfl, rfl⟩))
  go_ret
  exact codeIs_no (fun h => h3 ⟨h.r1, h.r2⟩) ((Mod.refl _ _).alloc _)

set_option maxRecDepth 100000 in
set_option maxHeartbeats 1000000 in
theorem check_3 (c : Cfg) (w : World) (h1 : 88 ≤ c.mss ∧ c.mss ≤ 65455) (h2 : 1 ≤ c.snd ∧ c.snd ≤ 1048576) (h3 : 1 ≤ c.rcv ∧ c.rcv ≤ 1048576) (h4 : ¬ (1 ≤ c.least ∧ c.least ≤ c.first ∧ c.first ≤ c.most ∧ c.most ≤ 1073741824)) :
    Calls Tryz.prog 60 #[.agg #[.int .i64 c.mss, .int .i64 c.snd, .int .i64 c.rcv, .int .i64 c.least, .int .i64 c.most, .int .i64 c.first, .int .i64 c.tries, .int .i64 c.msl, .int .i64 c.user]] w (CodeIs c.ok w) := by
  go_enter Tryz.func60, Tryz.ntmps60
  go_wp2_with (first | (go_at_call 91; (with_reducible refine (within_yes _ _ _ _ h1).mono ?_); rintro e w' ⟨rfl, rfl⟩) | (go_at_call 91; (with_reducible refine (within_yes _ _ _ _ h2).mono ?_); rintro e w' ⟨rfl, rfl⟩) | (go_at_call 91; (with_reducible refine (within_yes _ _ _ _ h3).mono ?_); rintro e w' ⟨rfl, rfl⟩) | (go_at_call 63; (with_reducible refine (rtoNew_no _ _ _ _ h4).mono ?_); rintro e w' ⟨⟨p, rfl⟩, rfl⟩))
  go_ret
  exact codeIs_no (fun h => h4 ⟨h.l1, h.l2, h.l3, by have := h.l4; omega⟩) ((Mod.refl _ _).alloc _)

set_option maxRecDepth 100000 in
set_option maxHeartbeats 1000000 in
theorem check_4 (c : Cfg) (w : World) (h1 : 88 ≤ c.mss ∧ c.mss ≤ 65455) (h2 : 1 ≤ c.snd ∧ c.snd ≤ 1048576) (h3 : 1 ≤ c.rcv ∧ c.rcv ≤ 1048576) (h4 : 1 ≤ c.least ∧ c.least ≤ c.first ∧ c.first ≤ c.most ∧ c.most ≤ 1073741824) (h5 : ¬ (c.most ≤ 1048576)) :
    Calls Tryz.prog 60 #[.agg #[.int .i64 c.mss, .int .i64 c.snd, .int .i64 c.rcv, .int .i64 c.least, .int .i64 c.most, .int .i64 c.first, .int .i64 c.tries, .int .i64 c.msl, .int .i64 c.user]] w (CodeIs c.ok w) := by
  go_enter Tryz.func60, Tryz.ntmps60
  go_wp2_with (first | (go_at_call 91; (with_reducible refine (within_yes _ _ _ _ h1).mono ?_); rintro e w' ⟨rfl, rfl⟩) | (go_at_call 91; (with_reducible refine (within_yes _ _ _ _ h2).mono ?_); rintro e w' ⟨rfl, rfl⟩) | (go_at_call 91; (with_reducible refine (within_yes _ _ _ _ h3).mono ?_); rintro e w' ⟨rfl, rfl⟩) | (go_at_call 63; (with_reducible refine (rtoNew_yes _ _ _ _ h4).mono ?_); rintro e w' ⟨rfl, rfl⟩))
  go_ret
  exact codeIs_no (fun h => by have := h.l4; omega) (((Mod.refl _ _).alloc _).alloc _)

set_option maxRecDepth 100000 in
set_option maxHeartbeats 1000000 in
theorem check_5 (c : Cfg) (w : World) (h1 : 88 ≤ c.mss ∧ c.mss ≤ 65455) (h2 : 1 ≤ c.snd ∧ c.snd ≤ 1048576) (h3 : 1 ≤ c.rcv ∧ c.rcv ≤ 1048576) (h4 : 1 ≤ c.least ∧ c.least ≤ c.first ∧ c.first ≤ c.most ∧ c.most ≤ 1073741824) (h5 : c.most ≤ 1048576) (h6 : ¬ (1 ≤ c.tries ∧ c.tries ≤ 30)) :
    Calls Tryz.prog 60 #[.agg #[.int .i64 c.mss, .int .i64 c.snd, .int .i64 c.rcv, .int .i64 c.least, .int .i64 c.most, .int .i64 c.first, .int .i64 c.tries, .int .i64 c.msl, .int .i64 c.user]] w (CodeIs c.ok w) := by
  go_enter Tryz.func60, Tryz.ntmps60
  go_wp2_with (first | (go_at_call 91; (with_reducible refine (within_yes _ _ _ _ h1).mono ?_); rintro e w' ⟨rfl, rfl⟩) | (go_at_call 91; (with_reducible refine (within_yes _ _ _ _ h2).mono ?_); rintro e w' ⟨rfl, rfl⟩) | (go_at_call 91; (with_reducible refine (within_yes _ _ _ _ h3).mono ?_); rintro e w' ⟨rfl, rfl⟩) | (go_at_call 63; (with_reducible refine (rtoNew_yes _ _ _ _ h4).mono ?_); rintro e w' ⟨rfl, rfl⟩) | (go_at_call 91; (with_reducible refine (within_no _ _ _ _ h6).mono ?_); rintro e w' ⟨rfl, rfl⟩))
  go_ret
  exact codeIs_no (fun h => h6 ⟨h.t1, h.t2⟩) (((Mod.refl _ _).alloc _).alloc _)

set_option maxRecDepth 100000 in
set_option maxHeartbeats 1000000 in
theorem check_6 (c : Cfg) (w : World) (h1 : 88 ≤ c.mss ∧ c.mss ≤ 65455) (h2 : 1 ≤ c.snd ∧ c.snd ≤ 1048576) (h3 : 1 ≤ c.rcv ∧ c.rcv ≤ 1048576) (h4 : 1 ≤ c.least ∧ c.least ≤ c.first ∧ c.first ≤ c.most ∧ c.most ≤ 1073741824) (h5 : c.most ≤ 1048576) (h6 : 1 ≤ c.tries ∧ c.tries ≤ 30) (h7 : ¬ (1 ≤ c.msl ∧ c.msl ≤ 1048576)) :
    Calls Tryz.prog 60 #[.agg #[.int .i64 c.mss, .int .i64 c.snd, .int .i64 c.rcv, .int .i64 c.least, .int .i64 c.most, .int .i64 c.first, .int .i64 c.tries, .int .i64 c.msl, .int .i64 c.user]] w (CodeIs c.ok w) := by
  go_enter Tryz.func60, Tryz.ntmps60
  go_wp2_with (first | (go_at_call 91; (with_reducible refine (within_yes _ _ _ _ h1).mono ?_); rintro e w' ⟨rfl, rfl⟩) | (go_at_call 91; (with_reducible refine (within_yes _ _ _ _ h2).mono ?_); rintro e w' ⟨rfl, rfl⟩) | (go_at_call 91; (with_reducible refine (within_yes _ _ _ _ h3).mono ?_); rintro e w' ⟨rfl, rfl⟩) | (go_at_call 63; (with_reducible refine (rtoNew_yes _ _ _ _ h4).mono ?_); rintro e w' ⟨rfl, rfl⟩) | (go_at_call 91; (with_reducible refine (within_yes _ _ _ _ h6).mono ?_); rintro e w' ⟨rfl, rfl⟩) | (go_at_call 91; (with_reducible refine (within_no _ _ _ _ h7).mono ?_); rintro e w' ⟨rfl, rfl⟩))
  go_ret
  exact codeIs_no (fun h => h7 ⟨h.n1, h.n2⟩) (((Mod.refl _ _).alloc _).alloc _)

set_option maxRecDepth 100000 in
set_option maxHeartbeats 1000000 in
theorem check_7 (c : Cfg) (w : World) (h1 : 88 ≤ c.mss ∧ c.mss ≤ 65455) (h2 : 1 ≤ c.snd ∧ c.snd ≤ 1048576) (h3 : 1 ≤ c.rcv ∧ c.rcv ≤ 1048576) (h4 : 1 ≤ c.least ∧ c.least ≤ c.first ∧ c.first ≤ c.most ∧ c.most ≤ 1073741824) (h5 : c.most ≤ 1048576) (h6 : 1 ≤ c.tries ∧ c.tries ≤ 30) (h7 : 1 ≤ c.msl ∧ c.msl ≤ 1048576) (h8 : ¬ (1 ≤ c.user ∧ c.user ≤ 1048576)) :
    Calls Tryz.prog 60 #[.agg #[.int .i64 c.mss, .int .i64 c.snd, .int .i64 c.rcv, .int .i64 c.least, .int .i64 c.most, .int .i64 c.first, .int .i64 c.tries, .int .i64 c.msl, .int .i64 c.user]] w (CodeIs c.ok w) := by
  go_enter Tryz.func60, Tryz.ntmps60
  go_wp2_with (first | (go_at_call 91; (with_reducible refine (within_yes _ _ _ _ h1).mono ?_); rintro e w' ⟨rfl, rfl⟩) | (go_at_call 91; (with_reducible refine (within_yes _ _ _ _ h2).mono ?_); rintro e w' ⟨rfl, rfl⟩) | (go_at_call 91; (with_reducible refine (within_yes _ _ _ _ h3).mono ?_); rintro e w' ⟨rfl, rfl⟩) | (go_at_call 63; (with_reducible refine (rtoNew_yes _ _ _ _ h4).mono ?_); rintro e w' ⟨rfl, rfl⟩) | (go_at_call 91; (with_reducible refine (within_yes _ _ _ _ h6).mono ?_); rintro e w' ⟨rfl, rfl⟩) | (go_at_call 91; (with_reducible refine (within_yes _ _ _ _ h7).mono ?_); rintro e w' ⟨rfl, rfl⟩) | (go_at_call 91; (with_reducible refine (within_no _ _ _ _ h8).mono ?_); rintro e w' ⟨rfl, rfl⟩))
  go_ret
  exact codeIs_no (fun h => h8 ⟨h.u1, h.u2⟩) (((Mod.refl _ _).alloc _).alloc _)

set_option maxRecDepth 100000 in
set_option maxHeartbeats 1000000 in
theorem check_8 (c : Cfg) (w : World) (h1 : 88 ≤ c.mss ∧ c.mss ≤ 65455) (h2 : 1 ≤ c.snd ∧ c.snd ≤ 1048576) (h3 : 1 ≤ c.rcv ∧ c.rcv ≤ 1048576) (h4 : 1 ≤ c.least ∧ c.least ≤ c.first ∧ c.first ≤ c.most ∧ c.most ≤ 1073741824) (h5 : c.most ≤ 1048576) (h6 : 1 ≤ c.tries ∧ c.tries ≤ 30) (h7 : 1 ≤ c.msl ∧ c.msl ≤ 1048576) (h8 : 1 ≤ c.user ∧ c.user ≤ 1048576) :
    Calls Tryz.prog 60 #[.agg #[.int .i64 c.mss, .int .i64 c.snd, .int .i64 c.rcv, .int .i64 c.least, .int .i64 c.most, .int .i64 c.first, .int .i64 c.tries, .int .i64 c.msl, .int .i64 c.user]] w (CodeIs c.ok w) := by
  go_enter Tryz.func60, Tryz.ntmps60
  go_wp2_with (first | (go_at_call 91; (with_reducible refine (within_yes _ _ _ _ h1).mono ?_); rintro e w' ⟨rfl, rfl⟩) | (go_at_call 91; (with_reducible refine (within_yes _ _ _ _ h2).mono ?_); rintro e w' ⟨rfl, rfl⟩) | (go_at_call 91; (with_reducible refine (within_yes _ _ _ _ h3).mono ?_); rintro e w' ⟨rfl, rfl⟩) | (go_at_call 63; (with_reducible refine (rtoNew_yes _ _ _ _ h4).mono ?_); rintro e w' ⟨rfl, rfl⟩) | (go_at_call 91; (with_reducible refine (within_yes _ _ _ _ h6).mono ?_); rintro e w' ⟨rfl, rfl⟩) | (go_at_call 91; (with_reducible refine (within_yes _ _ _ _ h7).mono ?_); rintro e w' ⟨rfl, rfl⟩) | (go_at_call 91; (with_reducible refine (within_yes _ _ _ _ h8).mono ?_); rintro e w' ⟨rfl, rfl⟩))
  go_ret
  exact codeIs_yes ⟨h1.1, h1.2, h2.1, h2.2, h3.1, h3.2, h4.1, h4.2.1, h4.2.2.1, h5, h6.1, h6.2, h7.1, h7.2, h8.1, h8.2⟩ (((Mod.refl _ _).alloc _).alloc _)

theorem check_spec (c : Cfg) (w : World) : Calls Tryz.prog 60 #[.agg #[.int .i64 c.mss, .int .i64 c.snd, .int .i64 c.rcv, .int .i64 c.least, .int .i64 c.most, .int .i64 c.first, .int .i64 c.tries, .int .i64 c.msl, .int .i64 c.user]] w (CodeIs c.ok w) := by
  by_cases h1 : 88 ≤ c.mss ∧ c.mss ≤ 65455
  case neg => exact check_0 c w h1
  by_cases h2 : 1 ≤ c.snd ∧ c.snd ≤ 1048576
  case neg => exact check_1 c w h1 h2
  by_cases h3 : 1 ≤ c.rcv ∧ c.rcv ≤ 1048576
  case neg => exact check_2 c w h1 h2 h3
  by_cases h4 : 1 ≤ c.least ∧ c.least ≤ c.first ∧ c.first ≤ c.most ∧ c.most ≤ 1073741824
  case neg => exact check_3 c w h1 h2 h3 h4
  by_cases h5 : c.most ≤ 1048576
  case neg => exact check_4 c w h1 h2 h3 h4 h5
  by_cases h6 : 1 ≤ c.tries ∧ c.tries ≤ 30
  case neg => exact check_5 c w h1 h2 h3 h4 h5 h6
  by_cases h7 : 1 ≤ c.msl ∧ c.msl ≤ 1048576
  case neg => exact check_6 c w h1 h2 h3 h4 h5 h6 h7
  by_cases h8 : 1 ≤ c.user ∧ c.user ≤ 1048576
  case neg => exact check_7 c w h1 h2 h3 h4 h5 h6 h7 h8
  exact check_8 c w h1 h2 h3 h4 h5 h6 h7 h8

end Go.Proofs.YtpomnnfabpbmiaaGreat
