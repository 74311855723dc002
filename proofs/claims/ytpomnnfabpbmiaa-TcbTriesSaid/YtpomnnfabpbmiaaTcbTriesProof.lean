/-
  TcbTries: whatever the settings and the tick, the law returns true: a SYN that nobody answers goes out again just at the document's ticks, and is given up at its end. No condition.
-/
import Derived.Test.YtpomnnfabpbmiaaLaw2
import Derived.Test.YtpomnnfabpbmiaaRowKitX
namespace Go.Proofs.Ytpomnnfabpbmiaa
open Go.ChangeShapes Go.WideShapes Go.ChangeAt Go.RowKit
set_option linter.unusedVariables false

theorem own : ownKnob Try.prog.godebug = none := by kernel_rfl
theorem cellsCfg : Try.prog.cellsOf 23 = 9 := by kernel_rfl
theorem cellsInt : Try.prog.cellsOf 3 = 1 := by kernel_rfl

theorem list9 {α : Type} {l : List α} (h : l.length = 9) : ∃ a b c d e f g i j, l = [a, b, c, d, e, f, g, i, j] := by
  match l, h with
  | [a, b, c, d, e, f, g, i, j], _ => exact ⟨a, b, c, d, e, f, g, i, j, rfl⟩

theorem laidOutOk : laidOutB Try.prog = true := by kernel_rfl

set_option maxRecDepth 100000 in
/-- the settings, as a value -/
theorem open_cfg {H : Type} {enc : TypeId × Value → H} {W W2 : World} {r : Reach} {b0 base : Nat} {sp : Nat → Bool} {held : Bool} {v : Value} {d : DataW H} {ps : List MemPlace} (hv : Value.okWide Try.prog W r b0 23 v) (h : DataW.Trod enc Try.prog W2 base sp held 23 v d ps) :
    ∃ c : Cfg, v = .agg #[.int .i64 c.mss, .int .i64 c.snd, .int .i64 c.rcv, .int .i64 c.least, .int .i64 c.most, .int .i64 c.first, .int .i64 c.tries, .int .i64 c.msl, .int .i64 c.user] := by
  obtain ⟨cs, rfl, hsz⟩ := okWide_struct Try.underlying23 hv
  obtain ⟨fuel, hf⟩ := h
  obtain ⟨hl, n, hfs⟩ := trod_fields Try.underlying23 hf
  have e : (Value.agg cs).cells.toList = cs.toList := by simp [Value.cells]
  rw [e] at hfs
  have hl9 : cs.toList.length = 9 := by rw [Array.length_toList, hsz]; exact cellsCfg
  obtain ⟨c0, c1, c2, c3, c4, c5, c6, c7, c8, hcs⟩ := list9 hl9
  rw [hcs] at hfs
  simp only [List.mem_cons, List.not_mem_nil, or_false, forall_eq_or_imp, forall_eq, cellsInt] at hfs
  obtain ⟨⟨y0, h0⟩, ⟨y1, h1⟩, ⟨y2, h2⟩, ⟨y3, h3⟩, ⟨y4, h4⟩, ⟨y5, h5⟩, ⟨y6, h6⟩, ⟨y7, h7⟩, ⟨y8, h8⟩⟩ := hfs
  obtain ⟨a0, e0, _, _⟩ := DataW.trod_int Try.underlying3 h0
  obtain ⟨a1, e1, _, _⟩ := DataW.trod_int Try.underlying3 h1
  obtain ⟨a2, e2, _, _⟩ := DataW.trod_int Try.underlying3 h2
  obtain ⟨a3, e3, _, _⟩ := DataW.trod_int Try.underlying3 h3
  obtain ⟨a4, e4, _, _⟩ := DataW.trod_int Try.underlying3 h4
  obtain ⟨a5, e5, _, _⟩ := DataW.trod_int Try.underlying3 h5
  obtain ⟨a6, e6, _, _⟩ := DataW.trod_int Try.underlying3 h6
  obtain ⟨a7, e7, _, _⟩ := DataW.trod_int Try.underlying3 h7
  obtain ⟨a8, e8, _, _⟩ := DataW.trod_int Try.underlying3 h8
  simp at e0 e1 e2 e3 e4 e5 e6 e7 e8
  subst e0 e1 e2 e3 e4 e5 e6 e7 e8
  refine ⟨⟨a0, a1, a2, a3, a4, a5, a6, a7, a8⟩, ?_⟩
  have : cs = #[.int .i64 a0, .int .i64 a1, .int .i64 a2, .int .i64 a3, .int .i64 a4, .int .i64 a5, .int .i64 a6, .int .i64 a7, .int .i64 a8] := by
    apply Array.toList_inj.1
    rw [hcs]
  rw [this]

theorem law_all (c : Cfg) (now : Int) (w : World) :
    Calls Try.prog 3 #[.agg #[.int .i64 c.mss, .int .i64 c.snd, .int .i64 c.rcv, .int .i64 c.least, .int .i64 c.most, .int .i64 c.first, .int .i64 c.tries, .int .i64 c.msl, .int .i64 c.user], .int .i64 now] w fun e w' => e = .returned (.bool true) ∧ Mod [] w w' := by
  by_cases hc : c.ok
  · by_cases h0 : now < 0
    · exact law_bad c now w (.inr ⟨hc, .inl h0⟩)
    · by_cases h1 : 1099511627776 < now
      · exact law_bad c now w (.inr ⟨hc, .inr h1⟩)
      · by_cases h2 : 1099507433472 < now
        · exact law_late c now w hc (by omega) (by omega) h2
        · exact law_main c now w hc (by omega) (by omega)
  · exact law_bad c now w (.inl hc)

set_option maxRecDepth 100000 in
theorem lifted (os : Os) (started : os.Started) (H : Type) (enc : TypeId × Value → H) :
    ReturnsInHanded {} Try.checked os 3 .any (Rows.tcbTriesSpec.pre6 enc Try.prog Try.f3 Rows.tcbTriesRow.domain false) (Rows.tcbTriesSpec.post enc Try.prog Try.f3 false true false false) := by
  refine returnsInHanded_of_change (C := Try.checked) own started (by kernel_rfl) Try.func3
    (ChangeSpec.witness6 (enc := enc) (C := Try.checked) false ⟨#[], #[.agg #[.int .i64 0, .int .i64 0, .int .i64 0, .int .i64 0, .int .i64 0, .int .i64 0, .int .i64 0, .int .i64 0, .int .i64 0], .int .i64 0], []⟩ 8 (by kernel_rfl) (by kernel_rfl) (by kernel_rfl) (by kernel_rfl)) ?_
  intro W base args ds gs before hval0 hW hcnd _
  have hval : ∀ (j : Nat) t v, Try.f3.params[j]? = some t → args[j]? = some v → Value.okWide Try.prog W .any base t v := hval0
  have hW' := hW
  obtain ⟨p, q, hA0, hV, rfl, hfz, hnd⟩ := hW
  have hA : DataW.TrodAll enc Try.prog W 0 (fun _ => true) true Try.f3.params.toList args.toList ds p := hA0
  rw [Try.params3] at hA hval
  have hAll := hA
  obtain ⟨v0, v1, d0, d1, p0, p1, rfl, rfl, rfl, h0, h1⟩ := trodAll_two hA
  obtain ⟨rfl, rfl⟩ := trodVars_none hV
  obtain ⟨c, rfl⟩ := open_cfg (hval 0 23 v0 rfl rfl) h0
  obtain ⟨now, rfl, _, _, _⟩ := open_int Try.underlying3 (hval 1 3 v1 rfl rfl) h1
  have hlt : ∀ x ∈ (p0 ++ p1), x.block < W.heap.size := fun x hx => hW'.lt x (by simpa using hx)
  clear hA0 hval0
  refine (law_all c now W).mono fun e W' ⟨he, hM⟩ => ?_
  subst he
  have bel : Below W.heap.size W W' := hM.below (Nat.le_refl _) (by simp)
  have hT := below_trodAll laidOutOk bel _ _ _ _ (by intro t ht; simp at ht; rcases ht with rfl | rfl <;> exact ⟨by kernel_rfl, of_decide_eq_true (by kernel_rfl)⟩) hlt hAll
  refine ⟨_, rfl, _, _, _, [], p0 ++ p1, [], hW', ?_, ?_, rfl, bel.frame _, fun h => by cases h⟩
  · exact trodAll_cons_mk (shut_bool Try.underlying4 _) trodAll_mk0
  · rw [Try.params3]
    exact hT

theorem TcbTries_holds : Rows.TcbTriesSaid :=
  OpenClaim.holds_of_wide 3 Try.f3 rfl rfl rfl rfl rfl rfl rfl ⟨rfl, rfl, rfl, rfl, rfl⟩ rfl rfl rfl rfl rfl (by kernel_rfl) Try.func3 (by kernel_rfl)
    (of_decide_eq_true (by kernel_rfl)) (by unfold Func.isWrapper; first | (rw [if_pos (by decide +kernel)]; kernel_rfl) | (rw [if_neg (by decide +kernel)]; exact ⟨rfl, rfl⟩))
    (fun os started H enc _ => lifted os started H enc)

#print axioms TcbTries_holds
end Go.Proofs.Ytpomnnfabpbmiaa
