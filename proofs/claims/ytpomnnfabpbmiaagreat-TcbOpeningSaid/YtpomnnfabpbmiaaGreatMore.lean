import Derived.Test.YtpomnnfabpbmiaaGreatBase
import Derived.Deep.RegionLawGrows
namespace Go.Proofs.YtpomnnfabpbmiaaGreat
open Go.RowKit

theorem Blk.new' {w : World} {n : Nat} (hn : n = w.heap.size) (t : TypeId) (cs : List Value) : Blk (w.alloc (.cells cs.toArray t (0, 0))) n t cs := hn ▸ Blk.new w t cs

theorem Blk.ne {w : World} {b b' : Nat} {t t' : TypeId} {cs cs' : List Value} (h : Blk w b t cs) (h' : Blk w b' t' cs') (hn : t ≠ t') : b ≠ b' := by
  rintro rfl
  unfold Blk at h h'
  rw [h] at h'
  simp only [Option.some.injEq, Obj.cells.injEq] at h'
  exact hn h'.2.1

/-- 'x.f = append(x.f, v)', x.f nil, v in a block of its own, as one step of a region that draws. -/
theorem step_first {P : Program} {ops : Array Oper} {o : Oper} {a : Act} {w : World} {K : Act → World → Prop} {Q : Exit → Act → World → Prop} {E : Prop}
    (hg : o.guard = none) (s x : Operand) (t : TypeId) (hop : o.op = Op.call { callee := Callee.builtin Builtin.append, args := #[s, x], argTypes := #[t, t] })
    (e : TypeId) (i : TypeInfo) (z : Value) (size bytes : Nat) (h1 : P.underlying t = some (.slice e)) (h2 : P.info? e = some i) (h3 : i.zero = some z) (h4 : i.size = size) (h5 : i.bytes = bytes) (h6 : z.cells.size = size) (h7 : 0 < size)
    (hs : a.eval s = .slice none 0 0) (b c : Nat) (hx : a.eval x = .slice (some ⟨b, 0, none⟩) 1 c) (cs : List Value) (hB : Blk w b e cs) (hn : cs.length = size) (h1c : ∀ u ∈ cs, u.oneCell' = true) (hbytes : bytes ≤ 1000)
    (hK : ∀ (g cap : Nat) (rest : List Value) (w' : World), Blk w' g e (cs ++ rest) → w.heap.size ≤ g → w.grownBy w' none → K (a.put o.dst (.slice (some ⟨g, 0, none⟩) 1 cap)) w') :
    if Region.wanted o (yielded ops a.tmps) = true then Oper.wp P o a w K Q else E := by
  refine step_append_grows hg s x t hop e i z size bytes h1 h2 h3 h4 h5 h6 h7 none 0 0 [] hs (fun _ => ⟨rfl, rfl⟩) (by simp) (by intro _ h; cases h) ⟨b, 0, none⟩ 1 c cs hx (by omega) hB.cells h1c (by omega) (by unfold maxLen; omega) (by omega) ?_
  intro v' w' hown hgrow
  obtain ⟨g, cap, rest, rfl, hg', hBg, _⟩ := row_blk hown (by omega)
  exact hK g cap rest w' hBg hg' hgrow

end Go.Proofs.YtpomnnfabpbmiaaGreat
