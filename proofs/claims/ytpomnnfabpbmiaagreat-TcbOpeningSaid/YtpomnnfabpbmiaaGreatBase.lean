import Derived.Test.YtpomnnfabpbmiaaGreatRows
import Derived.WalkKit
import Derived.ProofKit
import Derived.OpenShut
import Derived.Lib.Hide
import Derived.BigQuiet
import Derived.Deep.QuietTactic
import Derived.WalkLawsBesides
namespace Go.Proofs.YtpomnnfabpbmiaaGreat
open Go.RowKit

/-- Block b of w: the cells cs, of element type t, nothing frozen. -/
def Blk (w : World) (b : Nat) (t : TypeId) (cs : List Value) : Prop := w.heap[b]? = some (.cells cs.toArray t (0, 0))

theorem Blk.lt {w : World} {b : Nat} {t : TypeId} {cs : List Value} (h : Blk w b t cs) : b < w.heap.size := by
  have := h
  unfold Blk at this
  exact (Array.getElem?_eq_some_iff.1 this).1

theorem Blk.cell {w : World} {b : Nat} {t : TypeId} {cs : List Value} (h : Blk w b t cs) (k : Nat) : w.cell? ⟨b, k, none⟩ = cs[k]? := by
  unfold Blk at h
  simp [World.cell?, h]

theorem Blk.frozen {w : World} {b : Nat} {t : TypeId} {cs : List Value} (h : Blk w b t cs) (k : Nat) : w.frozen? ⟨b, k, none⟩ = false := by
  unfold Blk at h
  simp [World.frozen?, h]

theorem Blk.drew {w : World} {b : Nat} {t : TypeId} {cs : List Value} (h : Blk w b t cs) : Blk w.drew b t cs := h
theorem Blk.alloc {w : World} {b : Nat} {t : TypeId} {cs : List Value} (h : Blk w b t cs) (o : Obj) : Blk (w.alloc o) b t cs := by
  unfold Blk
  rw [Below.heap_alloc _ _ _ h.lt]; exact h
theorem Blk.new (w : World) (t : TypeId) (cs : List Value) : Blk (w.alloc (.cells cs.toArray t (0, 0))) w.heap.size t cs := by
  show (w.heap.push (.cells cs.toArray t (0, 0)))[w.heap.size]? = _
  simp
theorem Blk.set {w : World} {b : Nat} {t : TypeId} {cs : List Value} (h : Blk w b t cs) (k : Nat) (v : Value) : Blk (w.setCell ⟨b, k, none⟩ v) b t (cs.set k v) := by
  unfold Blk at h ⊢
  simp only [World.setCell, Array.getElem?_modify, if_true, h, Option.map_some]
  simp
theorem Blk.other {w : World} {b : Nat} {t : TypeId} {cs : List Value} (h : Blk w b t cs) {a : Addr} (hn : b ≠ a.block) (v : Value) : Blk (w.setCell a v) b t cs := by
  unfold Blk
  rw [Below.heap_setCell _ _ _ _ hn]; exact h

/-- w' is w but for the blocks of S and new ones. -/
structure Mod (S : List Nat) (w w' : World) : Prop where
  os : w'.os = w.os
  tape : w'.tape = w.tape
  output : w'.output = w.output
  size : w.heap.size ≤ w'.heap.size
  block : ∀ k, k < w.heap.size → k ∉ S → w'.heap[k]? = w.heap[k]?

theorem Mod.refl (S : List Nat) (w : World) : Mod S w w := ⟨rfl, rfl, rfl, Nat.le_refl _, fun _ _ _ => rfl⟩
theorem Mod.trans {S : List Nat} {a b c : World} (h : Mod S a b) (k : Mod S b c) : Mod S a c :=
  ⟨k.os.trans h.os, k.tape.trans h.tape, k.output.trans h.output, Nat.le_trans h.size k.size, fun i hi hs => (k.block i (Nat.lt_of_lt_of_le hi h.size) hs).trans (h.block i hi hs)⟩
/-- A later step may turn blocks that were not there at first. -/
theorem Mod.then {S T : List Nat} {a b c : World} (h : Mod S a b) (k : Mod T b c) (hT : ∀ x ∈ T, x ∈ S ∨ a.heap.size ≤ x) : Mod S a c :=
  ⟨k.os.trans h.os, k.tape.trans h.tape, k.output.trans h.output, Nat.le_trans h.size k.size, fun i hi hs => (k.block i (Nat.lt_of_lt_of_le hi h.size) (fun hm => by
    rcases hT i hm with h1 | h1
    · exact hs h1
    · omega)).trans (h.block i hi hs)⟩
theorem Mod.drew {S : List Nat} {a w : World} (h : Mod S a w) : Mod S a w.drew := ⟨h.os, h.tape, h.output, h.size, h.block⟩
theorem Mod.alloc {S : List Nat} {a w : World} (h : Mod S a w) (o : Obj) : Mod S a (w.alloc o) :=
  ⟨h.os, h.tape, h.output, Nat.le_trans h.size (by simp), fun i hi hs => (Below.heap_alloc w o i (Nat.lt_of_lt_of_le hi h.size)).trans (h.block i hi hs)⟩
theorem Mod.setCell {S : List Nat} {a w : World} (h : Mod S a w) {p : Addr} (hp : p.block ∈ S ∨ a.heap.size ≤ p.block) (u : Value) : Mod S a (w.setCell p u) :=
  ⟨h.os, h.tape, h.output, Nat.le_trans h.size (by simp [World.setCell]), fun i hi hs => (Below.heap_setCell w p u i (fun e => by
    rcases hp with h1 | h1
    · exact hs (e ▸ h1)
    · omega)).trans (h.block i hi hs)⟩
theorem Mod.blk {S : List Nat} {a w : World} (h : Mod S a w) {b : Nat} {t : TypeId} {cs : List Value} (hb : Blk a b t cs) (hS : b ∉ S) : Blk w b t cs :=
  (h.block b hb.lt hS).trans hb
theorem Mod.below {S : List Nat} {a w : World} (h : Mod S a w) {B : Nat} (hB : B ≤ a.heap.size) (hS : ∀ x ∈ S, B ≤ x) : Below B a w :=
  ⟨h.os, h.tape, h.output, h.size, fun i hi => h.block i (by omega) (fun hm => by have := hS i hm; omega)⟩
theorem Mod.mono {S T : List Nat} {a w : World} (h : Mod S a w) (hST : ∀ x ∈ S, x ∈ T) : Mod T a w :=
  ⟨h.os, h.tape, h.output, h.size, fun i hi hs => h.block i hi (fun hm => hs (hST i hm))⟩

/-- Behind an append or a make of the call's own. -/
theorem Mod.grown {S : List Nat} {a w w' : World} {row : Option Nat} (h : Mod S a w) (g : w.grownBy w' row) (hr : ∀ k, row = some k → k ∈ S ∨ a.heap.size ≤ k) : Mod S a w' :=
  ⟨g.os.trans h.os, g.tape.trans h.tape, g.output.trans h.output, Nat.le_trans h.size g.size, fun i hi hs => (g.block i (Nat.lt_of_lt_of_le hi h.size) (fun e => by
    rcases hr i e.symm with h1 | h1
    · exact hs h1
    · omega)).trans (h.block i hi hs)⟩
theorem Blk.grown {w w' : World} {row : Option Nat} {b : Nat} {t : TypeId} {cs : List Value} (h : Blk w b t cs) (g : w.grownBy w' row) (hr : some b ≠ row) : Blk w' b t cs :=
  (g.block b h.lt hr).trans h
/-- An owned row, as a block: its cells, and what there is beyond. -/
theorem row_blk {w : World} {base : Nat} {e : TypeId} {size : Nat} {v : Value} {n : Nat} {xs : List Value} (h : w.ownsRow base e size v n xs) (hn : 0 < n) :
    ∃ g cap rest, v = .slice (some ⟨g, 0, none⟩) n cap ∧ base ≤ g ∧ Blk w g e (xs ++ rest) ∧ n ≤ cap := by
  rcases h.2 with ⟨_, h0⟩ | ⟨g, cap, cur, hv, hg, hh, hnc, _, _, hx⟩
  · omega
  · refine ⟨g, cap, cur.toList.drop (n * size), hv, hg, ?_, hnc⟩
    unfold Blk
    rw [hh, ← hx, List.take_append_drop]
theorem Blk.cells {w : World} {b : Nat} {t : TypeId} {cs : List Value} (h : Blk w b t cs) : ∀ j u, cs[j]? = some u → w.cell? (Addr.add ⟨b, 0, none⟩ j) = some u := by
  intro j u hu
  rw [Addr.add_lit, Nat.zero_add, h.cell j]
  exact hu

end Go.Proofs.YtpomnnfabpbmiaaGreat
