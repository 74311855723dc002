import Derived.Test.YtpomnnfabpbmiaaConn
import Derived.Test.YtpomnnfabpbmiaaMore
namespace Go.Proofs.Ytpomnnfabpbmiaa
open Go.RowKit
set_option linter.unusedVariables false

/-! the document's ticks: what is waited for the k-th answer; the tick of the k-th try -/
def Cfg.wt (c : Cfg) : Nat → Int
  | 0 => c.first
  | k + 1 => min (2 * c.wt k) c.most
def Cfg.tk (c : Cfg) (now : Int) : Nat → Int
  | 0 => now
  | k + 1 => c.tk now k + c.wt k

theorem wt_bd (c : Cfg) (h : c.ok) : ∀ k, 1 ≤ c.wt k ∧ c.wt k ≤ 1048576
  | 0 => by have := h.l1; have := h.l2; have := h.l3; have := h.l4; simp only [Cfg.wt]; omega
  | k + 1 => by have := wt_bd c h k; have := h.l1; have := h.l2; have := h.l3; have := h.l4; simp only [Cfg.wt]; omega

theorem tk_bd (c : Cfg) (now : Int) (h : c.ok) : ∀ k : Nat, now ≤ c.tk now k ∧ c.tk now k ≤ now + k * 1048576
  | 0 => by simp [Cfg.tk]
  | k + 1 => by have := tk_bd c now h k; have := wt_bd c h k; simp only [Cfg.tk]; omega

theorem info_int : (Try.prog.info? 3).map (fun i => (i.zero, i.size, i.bytes)) = some (some (.int .i64 0), 1, 8) := by kernel_rfl

/-- the ticks, as values -/
def tkList (c : Cfg) (now : Int) (m : Nat) : List Value := (List.range m).map fun j => .int .i64 (c.tk now (j + 1))

theorem tkList_snoc (c : Cfg) (now : Int) (m : Nat) : tkList c now (m + 1) = tkList c now m ++ [.int .i64 (c.tk now (m + 1))] := by
  unfold tkList
  rw [List.range_succ, List.map_append]
  rfl
theorem tkList_len (c : Cfg) (now : Int) (m : Nat) : (tkList c now m).length = m := by simp [tkList]

/-- what the reference tells -/
def TriesPost (c : Cfg) (now : Int) (w : World) (e : Ending) (w' : World) : Prop :=
  ∃ (m : Nat) (fin : Int) (v : Value), e = .returned (.tuple #[v, .int .i64 fin]) ∧ (m : Int) ≤ c.tries ∧ (∀ j : Nat, j < m → c.tk now (j + 1) < now + c.user) ∧
    ((fin = now + c.user ∧ now + c.user ≤ c.tk now (m + 1)) ∨ ((m : Int) = c.tries ∧ c.tk now (m + 1) < now + c.user ∧ fin = c.tk now (m + 1))) ∧
    w'.ownsRow (w.heap.size + 1) 3 1 v m (tkList c now m) ∧ Mod [] w w'

/-- the loop's relation -/
def TriesRel (c : Cfg) (now : Int) (w : World) (l wt at_ i : Value) (wr : World) : Prop :=
  ∃ k : Nat, (k : Int) ≤ c.tries ∧ i = .int .i64 k ∧ at_ = .int .i64 (c.tk now k) ∧ wt = .int .i64 (c.wt k) ∧ (∀ j : Nat, j < k → c.tk now (j + 1) < now + c.user) ∧
    wr.ownsRow (w.heap.size + 1) 3 1 l k (tkList c now k) ∧ Blk wr w.heap.size 23 c.vals ∧ Mod [] w wr

set_option maxRecDepth 100000 in
set_option maxHeartbeats 2000000 in
theorem tries_spec (c : Cfg) (now : Int) (w : World) (hc : c.ok) (hn : 0 ≤ now ∧ now ≤ 1099511627776) :
    Calls Try.prog 8 #[.agg #[.int .i64 c.mss, .int .i64 c.snd, .int .i64 c.rcv, .int .i64 c.least, .int .i64 c.most, .int .i64 c.first, .int .i64 c.tries, .int .i64 c.msl, .int .i64 c.user], .int .i64 now] w (TriesPost c now w) := by
  have HC := Lib.hid hc
  obtain ⟨m1, m2, s1, s2, r1, r2, l1, l2, l3, l4, t1, t2, n1, n2, u1, u2⟩ := hc
  obtain ⟨hn1, hn2⟩ := hn
  obtain ⟨i0, hi, hz0, hz1, hz2⟩ := info_parts info_int
  go_enter Try.func8, Try.ntmps8
  go_wp2
  go_loopw [6, 7, 8, 9] (fun l wt at_ i wr => TriesRel c now w l wt at_ i wr) (fun _ _ _ i _ => 31 - (intOf i).toNat)
  case atStart =>
    exact ⟨0, by omega, rfl, rfl, rfl, by intro j hj; omega, World.ownsRow_nil _ _ _ _, Blk.new w _ c.vals, (Mod.refl _ _).alloc _⟩
  case round =>
    obtain ⟨k, hk, rfl, rfl, rfl, hlt, hown, hB, hM⟩ := hrel
    have b4 : wr.cell? ⟨w.heap.size, 4, none⟩ = some (.int .i64 c.most) := hB.cell 4
    have b6 : wr.cell? ⟨w.heap.size, 6, none⟩ = some (.int .i64 c.tries) := hB.cell 6
    have b8 : wr.cell? ⟨w.heap.size, 8, none⟩ = some (.int .i64 c.user) := hB.cell 8
    have hw := wt_bd c HC.out k
    have ht := tk_bd c now HC.out k
    by_cases hA : now + c.user ≤ c.tk now k + c.wt k
    · go_wp2
      go_quiet (fail)
      go_wp2
      go_ret2
      exact ⟨k, now + c.user, u6, rfl, hk, hlt, .inl ⟨rfl, hA⟩, hown, hM.drewN nq⟩
    · by_cases hB' : (k : Int) = c.tries
      · have hb : ((k : Int) == c.tries) = true := by simpa using hB'
        have HK := Lib.hid hB'
        clear hB'
        go_wp2
        go_ret2
        exact ⟨k, c.tk now k + c.wt k, u6, rfl, hk, hlt, .inr ⟨HK.out, by simp only [Cfg.tk]; omega, rfl⟩, hown, hM⟩
      · have hb : ((k : Int) == c.tries) = false := by simpa using hB'
        have hk' : (k : Int) + 1 ≤ c.tries := by omega
        have hlt' : ∀ j : Nat, j < k + 1 → c.tk now (j + 1) < now + c.user := by
          intro j hj
          by_cases e : j = k
          · subst e; simp only [Cfg.tk]; omega
          · exact hlt j (by omega)
        have HL := Lib.hid hlt'
        have HLL := Lib.hid hlt
        clear hlt hlt' hB'
        have hl0 : w.heap.size < wr.heap.size := hB.lt
        have hkk : k ≤ 30 := by omega
        by_cases h2 : c.most < 2 * c.wt k
        · have e2 : c.wt (k + 1) = c.most := by simp only [Cfg.wt]; omega
          have HE := Lib.hid e2
          clear e2
          go_wp2_with (at_builtin; refine wpList_append_own _ rfl _ _ 38 rfl (w.heap.size + 1) 3 i0 (.int .i64 0) 1 8 Try.underlying38 hi hz0 hz1 hz2 rfl (by decide) _ _ _ rfl (hown.alloc _) ⟨wr.heap.size, 0, none⟩ 1 1 [.int .i64 (c.tk now k + c.wt k)] rfl rfl (Blk.new wr _ [.int .i64 (c.tk now k + c.wt k)]).cells (by simp [Value.oneCell']) (by unfold maxLen; omega) (by omega) (by simp; omega) ?_)
          intro v' w1 hown1 hgrow _
          have hB1 : Blk w1 w.heap.size 23 c.vals := Blk.grown (hB.alloc _) hgrow (by intro e; rcases hown.2 with ⟨h0, _⟩ | ⟨g, cap, cur, h0, hg, _⟩ <;> rw [h0] at e <;> simp [Value.ownBlock] at e; omega)
          have hM1 : Mod [] w w1 := (hM.alloc _).grown hgrow (by intro j e; rcases hown.2 with ⟨h0, _⟩ | ⟨g, cap, cur, h0, hg, _⟩ <;> rw [h0] at e <;> simp [Value.ownBlock] at e; right; omega)
          rw [show tkList c now k ++ [.int .i64 (c.tk now k + c.wt k)] = tkList c now (k + 1) from (tkList_snoc c now k).symm] at hown1
          have b4' : w1.cell? ⟨w.heap.size, 4, none⟩ = some (.int .i64 c.most) := hB1.cell 4
          clear b4 b6 b8 hown hB hM
          go_wp2
          go_roundw
          case rel => exact ⟨k + 1, by omega, by go_num, rfl, by rw [HE.out], HL.out, hown1, hB1, hM1⟩
          case measure => simp [intOf]; omega
        · have e2 : c.wt (k + 1) = 2 * c.wt k := by simp only [Cfg.wt]; omega
          have HE := Lib.hid e2
          clear e2
          go_wp2_with (at_builtin; refine wpList_append_own _ rfl _ _ 38 rfl (w.heap.size + 1) 3 i0 (.int .i64 0) 1 8 Try.underlying38 hi hz0 hz1 hz2 rfl (by decide) _ _ _ rfl (hown.alloc _) ⟨wr.heap.size, 0, none⟩ 1 1 [.int .i64 (c.tk now k + c.wt k)] rfl rfl (Blk.new wr _ [.int .i64 (c.tk now k + c.wt k)]).cells (by simp [Value.oneCell']) (by unfold maxLen; omega) (by omega) (by simp; omega) ?_)
          intro v' w1 hown1 hgrow _
          have hB1 : Blk w1 w.heap.size 23 c.vals := Blk.grown (hB.alloc _) hgrow (by intro e; rcases hown.2 with ⟨h0, _⟩ | ⟨g, cap, cur, h0, hg, _⟩ <;> rw [h0] at e <;> simp [Value.ownBlock] at e; omega)
          have hM1 : Mod [] w w1 := (hM.alloc _).grown hgrow (by intro j e; rcases hown.2 with ⟨h0, _⟩ | ⟨g, cap, cur, h0, hg, _⟩ <;> rw [h0] at e <;> simp [Value.ownBlock] at e; right; omega)
          rw [show tkList c now k ++ [.int .i64 (c.tk now k + c.wt k)] = tkList c now (k + 1) from (tkList_snoc c now k).symm] at hown1
          have b4' : w1.cell? ⟨w.heap.size, 4, none⟩ = some (.int .i64 c.most) := hB1.cell 4
          clear b4 b6 b8 hown hB hM
          go_wp2
          go_roundw
          case rel => exact ⟨k + 1, by omega, by go_num, rfl, by rw [HE.out], HL.out, hown1, hB1, hM1⟩
          case measure => simp [intOf]; omega

end Go.Proofs.Ytpomnnfabpbmiaa
