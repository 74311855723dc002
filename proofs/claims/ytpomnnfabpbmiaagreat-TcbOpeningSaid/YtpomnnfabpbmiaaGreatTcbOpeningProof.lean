/-
  TcbOpening: whatever the settings, the first number and the segment, the law returns true: what a segment does to a side that has sent its SYN alone is what the document says. No condition.
-/
import Derived.Test.YtpomnnfabpbmiaaGreatOpenLaw3
import Derived.Test.YtpomnnfabpbmiaaGreatRowKitX
namespace Go.Proofs.YtpomnnfabpbmiaaGreat
open Go.ChangeShapes Go.WideShapes Go.ChangeAt Go.RowKit
set_option linter.unusedVariables false
namespace Openings
theorem own : ownKnob Tryz.prog.godebug = none := by kernel_rfl
theorem laidOutOk : laidOutB Tryz.prog = true := by kernel_rfl
theorem cellsSeg : Tryz.prog.cellsOf 28 = 9 := by kernel_rfl
theorem cells64 : Tryz.prog.cellsOf 3 = 1 := by kernel_rfl
theorem cells8 : Tryz.prog.cellsOf 5 = 1 := by kernel_rfl
theorem cells16 : Tryz.prog.cellsOf 25 = 1 := by kernel_rfl
theorem cells32 : Tryz.prog.cellsOf 24 = 1 := by kernel_rfl
theorem cellsB : Tryz.prog.cellsOf 26 = 1 := by kernel_rfl

theorem cellsCfg : Tryz.prog.cellsOf 23 = 9 := by kernel_rfl

theorem list9 {α : Type} {l : List α} (h : l.length = 9) : ∃ a b c d e f g i j, l = [a, b, c, d, e, f, g, i, j] := by
  match l, h with
  | [a, b, c, d, e, f, g, i, j], _ => exact ⟨a, b, c, d, e, f, g, i, j, rfl⟩
theorem trod_slice_cell {H : Type} {enc : TypeId × Value → H} {P : Program} {w : World} {base : Nat} {spare : Nat → Bool} {held : Bool} {fuel : Nat} {t e : TypeId} {c : Value} {x : DataW H × List MemPlace}
    (ht : P.underlying t = some (.slice e)) (h : DataW.trod enc P w base spare held fuel t [c] = some x) : ∃ a n cap, c = .slice a n cap ∧ n ≤ maxLen := by
  cases fuel with
  | zero => simp [DataW.trod] at h
  | succ k =>
    simp only [DataW.trod, ht] at h
    split at h <;> simp_all
    all_goals exact ⟨_, _, ⟨rfl, rfl⟩, by first | exact Nat.zero_le _ | omega⟩

set_option maxRecDepth 100000 in
theorem open_seg {H : Type} {enc : TypeId × Value → H} {W W2 : World} {r : Reach} {b0 base : Nat} {sp : Nat → Bool} {held : Bool} {v : Value} {d : DataW H} {ps : List MemPlace} (hv : Value.okWide Tryz.prog W r b0 28 v) (h : DataW.Trod enc Tryz.prog W2 base sp held 28 v d ps) :
    ∃ (src dst seq ack fl win mss scale : Int) (a : Option Addr) (n cap : Nat), v = .agg #[.int .u16 src, .int .u16 dst, .int .u32 seq, .int .u32 ack, .int .u8 fl, .int .u16 win, .int .i64 mss, .int .i64 scale, .slice a n cap] ∧
      n ≤ maxLen ∧ (Lit.int .u8 fl).wf = true ∧ (Lit.int .u32 seq).wf = true ∧ (Lit.int .u32 ack).wf = true ∧ (Lit.int .u16 win).wf = true := by
  obtain ⟨cs, rfl, hsz⟩ := okWide_struct Tryz.underlying28 hv
  obtain ⟨fuel, hf⟩ := h
  obtain ⟨hl, n, hfs⟩ := trod_fields Tryz.underlying28 hf
  have e : (Value.agg cs).cells.toList = cs.toList := by simp [Value.cells]
  rw [e] at hfs
  have hl9 : cs.toList.length = 9 := by rw [Array.length_toList, hsz]; exact cellsSeg
  obtain ⟨c0, c1, c2, c3, c4, c5, c6, c7, c8, hcs⟩ := list9 hl9
  rw [hcs] at hfs
  simp only [List.mem_cons, List.not_mem_nil, or_false, forall_eq_or_imp, forall_eq, cells64, cells8, cells16, cells32, cellsB] at hfs
  obtain ⟨⟨y0, h0⟩, ⟨y1, h1⟩, ⟨y2, h2⟩, ⟨y3, h3⟩, ⟨y4, h4⟩, ⟨y5, h5⟩, ⟨y6, h6⟩, ⟨y7, h7⟩, ⟨y8, h8⟩⟩ := hfs
  obtain ⟨a0, e0, _, _⟩ := DataW.trod_int Tryz.underlying25 h0
  obtain ⟨a1, e1, _, _⟩ := DataW.trod_int Tryz.underlying25 h1
  obtain ⟨a2, e2, _, w2⟩ := DataW.trod_int Tryz.underlying24 h2
  obtain ⟨a3, e3, _, w3⟩ := DataW.trod_int Tryz.underlying24 h3
  obtain ⟨a4, e4, _, w4⟩ := DataW.trod_int Tryz.underlying5 h4
  obtain ⟨a5, e5, _, w5⟩ := DataW.trod_int Tryz.underlying25 h5
  obtain ⟨a6, e6, _, _⟩ := DataW.trod_int Tryz.underlying3 h6
  obtain ⟨a7, e7, _, _⟩ := DataW.trod_int Tryz.underlying3 h7
  obtain ⟨a, k, cap, e8, hk⟩ := trod_slice_cell Tryz.underlying26 (by simpa using h8)
  simp at e0 e1 e2 e3 e4 e5 e6 e7
  subst e0 e1 e2 e3 e4 e5 e6 e7 e8
  refine ⟨a0, a1, a2, a3, a4, a5, a6, a7, a, k, cap, ?_, hk, w4, w2, w3, w5⟩
  have : cs = #[.int .u16 a0, .int .u16 a1, .int .u32 a2, .int .u32 a3, .int .u8 a4, .int .u16 a5, .int .i64 a6, .int .i64 a7, .slice a k cap] := by
    apply Array.toList_inj.1
    rw [hcs]
  rw [this]

set_option maxRecDepth 100000 in
/-- the settings, as a value -/
theorem open_cfg {H : Type} {enc : TypeId × Value → H} {W W2 : World} {r : Reach} {b0 base : Nat} {sp : Nat → Bool} {held : Bool} {v : Value} {d : DataW H} {ps : List MemPlace} (hv : Value.okWide Tryz.prog W r b0 23 v) (h : DataW.Trod enc Tryz.prog W2 base sp held 23 v d ps) :
    ∃ c : Cfg, v = .agg #[.int .i64 c.mss, .int .i64 c.snd, .int .i64 c.rcv, .int .i64 c.least, .int .i64 c.most, .int .i64 c.first, .int .i64 c.tries, .int .i64 c.msl, .int .i64 c.user] := by
  obtain ⟨cs, rfl, hsz⟩ := okWide_struct Tryz.underlying23 hv
  obtain ⟨fuel, hf⟩ := h
  obtain ⟨hl, n, hfs⟩ := trod_fields Tryz.underlying23 hf
  have e : (Value.agg cs).cells.toList = cs.toList := by simp [Value.cells]
  rw [e] at hfs
  have hl9 : cs.toList.length = 9 := by rw [Array.length_toList, hsz]; exact cellsCfg
  obtain ⟨c0, c1, c2, c3, c4, c5, c6, c7, c8, hcs⟩ := list9 hl9
  rw [hcs] at hfs
  simp only [List.mem_cons, List.not_mem_nil, or_false, forall_eq_or_imp, forall_eq, cells64] at hfs
  obtain ⟨⟨y0, h0⟩, ⟨y1, h1⟩, ⟨y2, h2⟩, ⟨y3, h3⟩, ⟨y4, h4⟩, ⟨y5, h5⟩, ⟨y6, h6⟩, ⟨y7, h7⟩, ⟨y8, h8⟩⟩ := hfs
  obtain ⟨a0, e0, _, _⟩ := DataW.trod_int Tryz.underlying3 h0
  obtain ⟨a1, e1, _, _⟩ := DataW.trod_int Tryz.underlying3 h1
  obtain ⟨a2, e2, _, _⟩ := DataW.trod_int Tryz.underlying3 h2
  obtain ⟨a3, e3, _, _⟩ := DataW.trod_int Tryz.underlying3 h3
  obtain ⟨a4, e4, _, _⟩ := DataW.trod_int Tryz.underlying3 h4
  obtain ⟨a5, e5, _, _⟩ := DataW.trod_int Tryz.underlying3 h5
  obtain ⟨a6, e6, _, _⟩ := DataW.trod_int Tryz.underlying3 h6
  obtain ⟨a7, e7, _, _⟩ := DataW.trod_int Tryz.underlying3 h7
  obtain ⟨a8, e8, _, _⟩ := DataW.trod_int Tryz.underlying3 h8
  simp at e0 e1 e2 e3 e4 e5 e6 e7 e8
  subst e0 e1 e2 e3 e4 e5 e6 e7 e8
  refine ⟨⟨a0, a1, a2, a3, a4, a5, a6, a7, a8⟩, ?_⟩
  have : cs = #[.int .i64 a0, .int .i64 a1, .int .i64 a2, .int .i64 a3, .int .i64 a4, .int .i64 a5, .int .i64 a6, .int .i64 a7, .int .i64 a8] := by
    apply Array.toList_inj.1
    rw [hcs]
  rw [this]

theorem law_all (c : Cfg) (iss src dst seq ack fl win mss scale : Int) (a : Option Addr) (n cap : Nat) (w : World) (hm : n ≤ 9223372036854775807) (i0 : 0 ≤ iss) (i1 : iss < 4294967296) (a0 : 0 ≤ ack) (a1 : ack < 4294967296) (z0 : 0 ≤ seq) (z1 : seq < 4294967296) :
    Calls Tryz.prog 3 #[.agg #[.int .i64 c.mss, .int .i64 c.snd, .int .i64 c.rcv, .int .i64 c.least, .int .i64 c.most, .int .i64 c.first, .int .i64 c.tries, .int .i64 c.msl, .int .i64 c.user], .int .u32 iss, .agg #[.int .u16 src, .int .u16 dst, .int .u32 seq, .int .u32 ack, .int .u8 fl, .int .u16 win, .int .i64 mss, .int .i64 scale, .slice a n cap]] w fun e w' => e = .returned (.bool true) ∧ Mod [] w w' := by
  by_cases hin : (n : Int) ≤ 1000 ∧ 0 ≤ scale ∧ scale ≤ 15 ∧ 0 ≤ mss ∧ mss ≤ 65535
  · obtain ⟨h1, h2, h3, h4, h5⟩ := hin
    by_cases hc : c.ok
    · exact olaw_main c iss src dst seq ack fl win mss scale a n cap w h1 h2 h3 h4 h5 hc i0 i1 a0 a1 z0 z1
    · exact olaw_bad c iss src dst seq ack fl win mss scale a n cap w h1 h2 h3 h4 h5 hc
  · exact olaw_out c iss src dst seq ack fl win mss scale a n cap w (by omega) hm

set_option maxRecDepth 100000 in
theorem lifted (os : Os) (started : os.Started) (H : Type) (enc : TypeId × Value → H) :
    ReturnsInHanded {} Tryz.checked os 3 .any (Rows.tcbOpeningSpec.pre6 enc Tryz.prog Tryz.f3 Rows.tcbOpeningRow.domain false) (Rows.tcbOpeningSpec.post enc Tryz.prog Tryz.f3 false true false false) := by
  refine returnsInHanded_of_change (C := Tryz.checked) own started (by kernel_rfl) Tryz.func3
    (ChangeSpec.witness6 (enc := enc) (C := Tryz.checked) false ⟨#[], #[.agg #[.int .i64 0, .int .i64 0, .int .i64 0, .int .i64 0, .int .i64 0, .int .i64 0, .int .i64 0, .int .i64 0, .int .i64 0], .int .u32 0, .agg #[.int .u16 0, .int .u16 0, .int .u32 0, .int .u32 0, .int .u8 0, .int .u16 0, .int .i64 0, .int .i64 0, .slice none 0 0]], []⟩ 8 (by kernel_rfl) (by kernel_rfl) (by kernel_rfl) (by kernel_rfl)) ?_
  intro W base args ds gs before hval0 hW hcnd _
  have hval : ∀ (j : Nat) t v, Tryz.f3.params[j]? = some t → args[j]? = some v → Value.okWide Tryz.prog W .any base t v := hval0
  have hW' := hW
  obtain ⟨p, q, hA0, hV, rfl, hfz, hnd⟩ := hW
  have hA : DataW.TrodAll enc Tryz.prog W 0 (fun _ => true) true Tryz.f3.params.toList args.toList ds p := hA0
  rw [Tryz.params3] at hA hval
  have hAll := hA
  obtain ⟨v0, v1, v2, d0, d1, d2, p0, p1, p2, rfl, rfl, rfl, h0, h1, h2⟩ := trodAll_three hA
  obtain ⟨rfl, rfl⟩ := trodVars_none hV
  obtain ⟨c, rfl⟩ := open_cfg (hval 0 23 v0 rfl rfl) h0
  obtain ⟨iss, rfl, _, _, wi⟩ := open_int Tryz.underlying24 (hval 1 24 v1 rfl rfl) h1
  obtain ⟨src, dst, seq, ack, fl, win, mss, scale, a, n, cap, rfl, hn, wfl, wsq, wak, _⟩ := open_seg (hval 2 28 v2 rfl rfl) h2
  have hlt : ∀ x ∈ (p0 ++ p1 ++ p2), x.block < W.heap.size := fun x hx => hW'.lt x (by simpa using hx)
  clear hA0 hval0
  have b1 := Go.bounds_u32 wi
  have b2 := Go.bounds_u32 wsq
  have b3 := Go.bounds_u32 wak
  refine (law_all c iss src dst seq ack fl win mss scale a n cap W (by unfold maxLen at hn; omega) (by omega) (by omega) (by omega) (by omega) (by omega) (by omega)).mono fun e W' ⟨he, hM⟩ => ?_
  subst he
  have bel : Below W.heap.size W W' := hM.below (Nat.le_refl _) (by simp)
  have hT := below_trodAll laidOutOk bel _ _ _ _ (by intro t ht; simp at ht; rcases ht with rfl | rfl | rfl <;> exact ⟨by kernel_rfl, of_decide_eq_true (by kernel_rfl)⟩) hlt hAll
  refine ⟨_, rfl, _, _, _, [], p0 ++ p1 ++ p2, [], hW', ?_, ?_, rfl, bel.frame _, fun h => by cases h⟩
  · exact trodAll_cons_mk (shut_bool Tryz.underlying4 _) trodAll_mk0
  · rw [Tryz.params3]
    exact hT

end Openings

theorem TcbOpening_holds : Rows.TcbOpeningSaid :=
  OpenClaim.holds_of_wide 3 Tryz.f3 rfl rfl rfl rfl rfl rfl rfl ⟨rfl, rfl, rfl, rfl, rfl⟩ rfl rfl rfl rfl rfl (by kernel_rfl) Tryz.func3 (by kernel_rfl)
    (of_decide_eq_true (by kernel_rfl)) (by unfold Func.isWrapper; first | (rw [if_pos (by decide +kernel)]; kernel_rfl) | (rw [if_neg (by decide +kernel)]; exact ⟨rfl, rfl⟩))
    (fun os started H enc _ => Openings.lifted os started H enc)

#print axioms TcbOpening_holds
end Go.Proofs.YtpomnnfabpbmiaaGreat
