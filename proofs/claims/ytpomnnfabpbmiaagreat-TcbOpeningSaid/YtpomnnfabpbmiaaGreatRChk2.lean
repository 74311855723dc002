import Derived.Test.YtpomnnfabpbmiaaGreatRChk
namespace Go.Proofs.YtpomnnfabpbmiaaGreat
open Go.RowKit
set_option linter.unusedVariables false

set_option maxRecDepth 100000 in
set_option maxHeartbeats 2000000 in
theorem rcheck_no0 (c : Cfg) (w : World)  (h0 : ¬ (88 ≤ c.mss ∧ c.mss ≤ 65455)) : Calls Tryz.prog 9 #[.agg #[.int .i64 c.mss, .int .i64 c.snd, .int .i64 c.rcv, .int .i64 c.least, .int .i64 c.most, .int .i64 c.first, .int .i64 c.tries, .int .i64 c.msl, .int .i64 c.user]] w (fun e w' => e = .returned (.int .i64 1) ∧ Mod [] w w') := by
  have H0 := Lib.hid h0
  clear h0
  go_enter Tryz.func9, Tryz.ntmps9
  go_wp2_with fail
  refine (in_no _ _ _ _ H0.out).mono ?_
  rintro e w' ⟨rfl, rfl⟩
  go_wp2_with fail
  go_ret
  exact ⟨rfl, (Mod.refl _ _).alloc _⟩

set_option maxRecDepth 100000 in
set_option maxHeartbeats 2000000 in
theorem rcheck_no1 (c : Cfg) (w : World) (h0 : 88 ≤ c.mss ∧ c.mss ≤ 65455) (h1 : ¬ (1 ≤ c.snd ∧ c.snd ≤ 1048576)) : Calls Tryz.prog 9 #[.agg #[.int .i64 c.mss, .int .i64 c.snd, .int .i64 c.rcv, .int .i64 c.least, .int .i64 c.most, .int .i64 c.first, .int .i64 c.tries, .int .i64 c.msl, .int .i64 c.user]] w (fun e w' => e = .returned (.int .i64 1) ∧ Mod [] w w') := by
  have H0 := Lib.hid h0
  have H1 := Lib.hid h1
  clear h0 h1
  go_enter Tryz.func9, Tryz.ntmps9
  go_wp2_with fail
  refine (in_yes _ _ _ _ H0.out).mono ?_
  rintro e w' ⟨rfl, rfl⟩
  go_wp2_with fail
  refine (in_no _ _ _ _ H1.out).mono ?_
  rintro e w' ⟨rfl, rfl⟩
  go_wp2_with fail
  go_ret
  exact ⟨rfl, (Mod.refl _ _).alloc _⟩

set_option maxRecDepth 100000 in
set_option maxHeartbeats 2000000 in
theorem rcheck_no2 (c : Cfg) (w : World) (h0 : 88 ≤ c.mss ∧ c.mss ≤ 65455) (h1 : 1 ≤ c.snd ∧ c.snd ≤ 1048576) (h2 : ¬ (1 ≤ c.rcv ∧ c.rcv ≤ 1048576)) : Calls Tryz.prog 9 #[.agg #[.int .i64 c.mss, .int .i64 c.snd, .int .i64 c.rcv, .int .i64 c.least, .int .i64 c.most, .int .i64 c.first, .int .i64 c.tries, .int .i64 c.msl, .int .i64 c.user]] w (fun e w' => e = .returned (.int .i64 1) ∧ Mod [] w w') := by
  have H0 := Lib.hid h0
  have H1 := Lib.hid h1
  have H2 := Lib.hid h2
  clear h0 h1 h2
  go_enter Tryz.func9, Tryz.ntmps9
  go_wp2_with fail
  refine (in_yes _ _ _ _ H0.out).mono ?_
  rintro e w' ⟨rfl, rfl⟩
  go_wp2_with fail
  refine (in_yes _ _ _ _ H1.out).mono ?_
  rintro e w' ⟨rfl, rfl⟩
  go_wp2_with fail
  refine (in_no _ _ _ _ H2.out).mono ?_
  rintro e w' ⟨rfl, rfl⟩
  go_wp2_with fail
  go_ret
  exact ⟨rfl, (Mod.refl _ _).alloc _⟩

set_option maxRecDepth 100000 in
set_option maxHeartbeats 2000000 in
theorem rcheck_no3 (c : Cfg) (w : World) (h0 : 88 ≤ c.mss ∧ c.mss ≤ 65455) (h1 : 1 ≤ c.snd ∧ c.snd ≤ 1048576) (h2 : 1 ≤ c.rcv ∧ c.rcv ≤ 1048576) (h3 : ¬ (1 ≤ c.least ∧ c.least ≤ c.first ∧ c.first ≤ c.most ∧ c.most ≤ 1073741824)) : Calls Tryz.prog 9 #[.agg #[.int .i64 c.mss, .int .i64 c.snd, .int .i64 c.rcv, .int .i64 c.least, .int .i64 c.most, .int .i64 c.first, .int .i64 c.tries, .int .i64 c.msl, .int .i64 c.user]] w (fun e w' => e = .returned (.int .i64 1) ∧ Mod [] w w') := by
  have H0 := Lib.hid h0
  have H1 := Lib.hid h1
  have H2 := Lib.hid h2
  have H3 := Lib.hid h3
  clear h0 h1 h2 h3
  go_enter Tryz.func9, Tryz.ntmps9
  go_wp2_with fail
  refine (in_yes _ _ _ _ H0.out).mono ?_
  rintro e w' ⟨rfl, rfl⟩
  go_wp2_with fail
  refine (in_yes _ _ _ _ H1.out).mono ?_
  rintro e w' ⟨rfl, rfl⟩
  go_wp2_with fail
  refine (in_yes _ _ _ _ H2.out).mono ?_
  rintro e w' ⟨rfl, rfl⟩
  go_wp2_with fail
  refine (right_no _ _ _ _ H3.out).mono ?_
  rintro e w' ⟨rfl, rfl⟩
  go_wp2_with fail
  go_ret
  exact ⟨rfl, (Mod.refl _ _).alloc _⟩

set_option maxRecDepth 100000 in
set_option maxHeartbeats 2000000 in
theorem rcheck_no4 (c : Cfg) (w : World) (h0 : 88 ≤ c.mss ∧ c.mss ≤ 65455) (h1 : 1 ≤ c.snd ∧ c.snd ≤ 1048576) (h2 : 1 ≤ c.rcv ∧ c.rcv ≤ 1048576) (h3 : 1 ≤ c.least ∧ c.least ≤ c.first ∧ c.first ≤ c.most ∧ c.most ≤ 1073741824) (h4 : ¬ (c.most ≤ 1048576)) : Calls Tryz.prog 9 #[.agg #[.int .i64 c.mss, .int .i64 c.snd, .int .i64 c.rcv, .int .i64 c.least, .int .i64 c.most, .int .i64 c.first, .int .i64 c.tries, .int .i64 c.msl, .int .i64 c.user]] w (fun e w' => e = .returned (.int .i64 1) ∧ Mod [] w w') := by
  have H0 := Lib.hid h0
  have H1 := Lib.hid h1
  have H2 := Lib.hid h2
  have H3 := Lib.hid h3
  clear h0 h1 h2 h3
  go_enter Tryz.func9, Tryz.ntmps9
  go_wp2_with fail
  refine (in_yes _ _ _ _ H0.out).mono ?_
  rintro e w' ⟨rfl, rfl⟩
  go_wp2_with fail
  refine (in_yes _ _ _ _ H1.out).mono ?_
  rintro e w' ⟨rfl, rfl⟩
  go_wp2_with fail
  refine (in_yes _ _ _ _ H2.out).mono ?_
  rintro e w' ⟨rfl, rfl⟩
  go_wp2_with fail
  refine (right_yes _ _ _ _ H3.out).mono ?_
  rintro e w' ⟨rfl, rfl⟩
  go_wp2_with fail
  go_ret
  exact ⟨rfl, (Mod.refl _ _).alloc _⟩

set_option maxRecDepth 100000 in
set_option maxHeartbeats 2000000 in
theorem rcheck_no5 (c : Cfg) (w : World) (h0 : 88 ≤ c.mss ∧ c.mss ≤ 65455) (h1 : 1 ≤ c.snd ∧ c.snd ≤ 1048576) (h2 : 1 ≤ c.rcv ∧ c.rcv ≤ 1048576) (h3 : 1 ≤ c.least ∧ c.least ≤ c.first ∧ c.first ≤ c.most ∧ c.most ≤ 1073741824) (h4 : c.most ≤ 1048576) (h5 : ¬ (1 ≤ c.tries ∧ c.tries ≤ 30)) : Calls Tryz.prog 9 #[.agg #[.int .i64 c.mss, .int .i64 c.snd, .int .i64 c.rcv, .int .i64 c.least, .int .i64 c.most, .int .i64 c.first, .int .i64 c.tries, .int .i64 c.msl, .int .i64 c.user]] w (fun e w' => e = .returned (.int .i64 1) ∧ Mod [] w w') := by
  have H0 := Lib.hid h0
  have H1 := Lib.hid h1
  have H2 := Lib.hid h2
  have H3 := Lib.hid h3
  have H5 := Lib.hid h5
  clear h0 h1 h2 h3 h5
  go_enter Tryz.func9, Tryz.ntmps9
  go_wp2_with fail
  refine (in_yes _ _ _ _ H0.out).mono ?_
  rintro e w' ⟨rfl, rfl⟩
  go_wp2_with fail
  refine (in_yes _ _ _ _ H1.out).mono ?_
  rintro e w' ⟨rfl, rfl⟩
  go_wp2_with fail
  refine (in_yes _ _ _ _ H2.out).mono ?_
  rintro e w' ⟨rfl, rfl⟩
  go_wp2_with fail
  refine (right_yes _ _ _ _ H3.out).mono ?_
  rintro e w' ⟨rfl, rfl⟩
  go_wp2_with fail
  refine (in_no _ _ _ _ H5.out).mono ?_
  rintro e w' ⟨rfl, rfl⟩
  go_wp2_with fail
  go_ret
  exact ⟨rfl, (Mod.refl _ _).alloc _⟩

set_option maxRecDepth 100000 in
set_option maxHeartbeats 2000000 in
theorem rcheck_no6 (c : Cfg) (w : World) (h0 : 88 ≤ c.mss ∧ c.mss ≤ 65455) (h1 : 1 ≤ c.snd ∧ c.snd ≤ 1048576) (h2 : 1 ≤ c.rcv ∧ c.rcv ≤ 1048576) (h3 : 1 ≤ c.least ∧ c.least ≤ c.first ∧ c.first ≤ c.most ∧ c.most ≤ 1073741824) (h4 : c.most ≤ 1048576) (h5 : 1 ≤ c.tries ∧ c.tries ≤ 30) (h6 : ¬ (1 ≤ c.msl ∧ c.msl ≤ 1048576)) : Calls Tryz.prog 9 #[.agg #[.int .i64 c.mss, .int .i64 c.snd, .int .i64 c.rcv, .int .i64 c.least, .int .i64 c.most, .int .i64 c.first, .int .i64 c.tries, .int .i64 c.msl, .int .i64 c.user]] w (fun e w' => e = .returned (.int .i64 1) ∧ Mod [] w w') := by
  have H0 := Lib.hid h0
  have H1 := Lib.hid h1
  have H2 := Lib.hid h2
  have H3 := Lib.hid h3
  have H5 := Lib.hid h5
  have H6 := Lib.hid h6
  clear h0 h1 h2 h3 h5 h6
  go_enter Tryz.func9, Tryz.ntmps9
  go_wp2_with fail
  refine (in_yes _ _ _ _ H0.out).mono ?_
  rintro e w' ⟨rfl, rfl⟩
  go_wp2_with fail
  refine (in_yes _ _ _ _ H1.out).mono ?_
  rintro e w' ⟨rfl, rfl⟩
  go_wp2_with fail
  refine (in_yes _ _ _ _ H2.out).mono ?_
  rintro e w' ⟨rfl, rfl⟩
  go_wp2_with fail
  refine (right_yes _ _ _ _ H3.out).mono ?_
  rintro e w' ⟨rfl, rfl⟩
  go_wp2_with fail
  refine (in_yes _ _ _ _ H5.out).mono ?_
  rintro e w' ⟨rfl, rfl⟩
  go_wp2_with fail
  refine (in_no _ _ _ _ H6.out).mono ?_
  rintro e w' ⟨rfl, rfl⟩
  go_wp2_with fail
  go_ret
  exact ⟨rfl, (Mod.refl _ _).alloc _⟩

set_option maxRecDepth 100000 in
set_option maxHeartbeats 2000000 in
theorem rcheck_no7 (c : Cfg) (w : World) (h0 : 88 ≤ c.mss ∧ c.mss ≤ 65455) (h1 : 1 ≤ c.snd ∧ c.snd ≤ 1048576) (h2 : 1 ≤ c.rcv ∧ c.rcv ≤ 1048576) (h3 : 1 ≤ c.least ∧ c.least ≤ c.first ∧ c.first ≤ c.most ∧ c.most ≤ 1073741824) (h4 : c.most ≤ 1048576) (h5 : 1 ≤ c.tries ∧ c.tries ≤ 30) (h6 : 1 ≤ c.msl ∧ c.msl ≤ 1048576) (h7 : ¬ (1 ≤ c.user ∧ c.user ≤ 1048576)) : Calls Tryz.prog 9 #[.agg #[.int .i64 c.mss, .int .i64 c.snd, .int .i64 c.rcv, .int .i64 c.least, .int .i64 c.most, .int .i64 c.first, .int .i64 c.tries, .int .i64 c.msl, .int .i64 c.user]] w (fun e w' => e = .returned (.int .i64 1) ∧ Mod [] w w') := by
  have H0 := Lib.hid h0
  have H1 := Lib.hid h1
  have H2 := Lib.hid h2
  have H3 := Lib.hid h3
  have H5 := Lib.hid h5
  have H6 := Lib.hid h6
  have H7 := Lib.hid h7
  clear h0 h1 h2 h3 h5 h6 h7
  go_enter Tryz.func9, Tryz.ntmps9
  go_wp2_with fail
  refine (in_yes _ _ _ _ H0.out).mono ?_
  rintro e w' ⟨rfl, rfl⟩
  go_wp2_with fail
  refine (in_yes _ _ _ _ H1.out).mono ?_
  rintro e w' ⟨rfl, rfl⟩
  go_wp2_with fail
  refine (in_yes _ _ _ _ H2.out).mono ?_
  rintro e w' ⟨rfl, rfl⟩
  go_wp2_with fail
  refine (right_yes _ _ _ _ H3.out).mono ?_
  rintro e w' ⟨rfl, rfl⟩
  go_wp2_with fail
  refine (in_yes _ _ _ _ H5.out).mono ?_
  rintro e w' ⟨rfl, rfl⟩
  go_wp2_with fail
  refine (in_yes _ _ _ _ H6.out).mono ?_
  rintro e w' ⟨rfl, rfl⟩
  go_wp2_with fail
  refine (in_no _ _ _ _ H7.out).mono ?_
  rintro e w' ⟨rfl, rfl⟩
  go_wp2_with fail
  go_ret
  exact ⟨rfl, (Mod.refl _ _).alloc _⟩

theorem rcheck_no (c : Cfg) (w : World) (h : ¬ c.ok) : Calls Tryz.prog 9 #[.agg #[.int .i64 c.mss, .int .i64 c.snd, .int .i64 c.rcv, .int .i64 c.least, .int .i64 c.most, .int .i64 c.first, .int .i64 c.tries, .int .i64 c.msl, .int .i64 c.user]] w (fun e w' => e = .returned (.int .i64 1) ∧ Mod [] w w') := by
  by_cases h0 : 88 ≤ c.mss ∧ c.mss ≤ 65455
  case neg => exact rcheck_no0 c w h0
  by_cases h1 : 1 ≤ c.snd ∧ c.snd ≤ 1048576
  case neg => exact rcheck_no1 c w h0 h1
  by_cases h2 : 1 ≤ c.rcv ∧ c.rcv ≤ 1048576
  case neg => exact rcheck_no2 c w h0 h1 h2
  by_cases h3 : 1 ≤ c.least ∧ c.least ≤ c.first ∧ c.first ≤ c.most ∧ c.most ≤ 1073741824
  case neg => exact rcheck_no3 c w h0 h1 h2 h3
  by_cases h4 : c.most ≤ 1048576
  case neg => exact rcheck_no4 c w h0 h1 h2 h3 h4
  by_cases h5 : 1 ≤ c.tries ∧ c.tries ≤ 30
  case neg => exact rcheck_no5 c w h0 h1 h2 h3 h4 h5
  by_cases h6 : 1 ≤ c.msl ∧ c.msl ≤ 1048576
  case neg => exact rcheck_no6 c w h0 h1 h2 h3 h4 h5 h6
  by_cases h7 : 1 ≤ c.user ∧ c.user ≤ 1048576
  case neg => exact rcheck_no7 c w h0 h1 h2 h3 h4 h5 h6 h7
  exact absurd ⟨by omega, by omega, by omega, by omega, by omega, by omega, by omega, by omega, by omega, by omega, by omega, by omega, by omega, by omega, by omega, by omega⟩ h

end Go.Proofs.YtpomnnfabpbmiaaGreat
