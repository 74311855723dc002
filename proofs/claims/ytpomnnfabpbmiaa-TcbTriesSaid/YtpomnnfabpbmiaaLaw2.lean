import Derived.Test.YtpomnnfabpbmiaaLaw1
namespace Go.Proofs.Ytpomnnfabpbmiaa
open Go.RowKit
set_option linter.unusedVariables false

theorem Mod.row {S : List Nat} {a w : World} (m : Mod S a w) {base : Nat} {e : TypeId} {size : Nat} {v : Value} {n : Nat} {xs : List Value} (h : a.ownsRow base e size v n xs) (hS : ∀ x ∈ S, x < base) : w.ownsRow base e size v n xs := by
  refine ⟨h.1, ?_⟩
  rcases h.2 with h | ⟨g, cap, cur, hv, hg, hh, hr⟩
  · exact .inl h
  · refine .inr ⟨g, cap, cur, hv, hg, ?_, hr⟩
    rw [m.block g (Array.getElem?_eq_some_iff.1 hh).1 (fun hm => by have := hS g hm; omega)]
    exact hh
theorem DoneAt.alloc {w : World} {p b : Nat} {room f : Int} (h : DoneAt w p b room f) (o : Obj) : DoneAt (w.alloc o) p b room f := h.mod ((Mod.refl [] w).alloc o) (by simp) (by simp)

/-- the loop's relation -/
def RoundRel (c : Cfg) (now : Int) (w : World) (p b r m g : Nat) (rest : List Value) (i : Value) (wr : World) : Prop :=
  ∃ k : Nat, k ≤ m ∧ i = .int .i64 k ∧ SynAt wr p b r c now k (c.tk now k) (.slice none 0 0) ∧ Blk wr g 3 (tkList c now m ++ rest) ∧ Mod [] w wr

theorem tk_cell {c : Cfg} {now : Int} {m k g : Nat} {w : World} {rest : List Value} (h : Blk w g 3 (tkList c now m ++ rest)) (hk : k < m) : w.cell? ⟨g, k, none⟩ = some (.int .i64 (c.tk now (k + 1))) := by
  rw [h.cell k, List.getElem?_append_left (by rw [tkList_len]; exact hk)]
  simp [tkList, hk]

set_option maxRecDepth 100000 in
set_option maxHeartbeats 8000000 in
theorem law_main (c : Cfg) (now : Int) (w : World) (hc : c.ok) (hn1 : 0 ≤ now) (hl : now ≤ 1099507433472) :
    Calls Try.prog 3 #[.agg #[.int .i64 c.mss, .int .i64 c.snd, .int .i64 c.rcv, .int .i64 c.least, .int .i64 c.most, .int .i64 c.first, .int .i64 c.tries, .int .i64 c.msl, .int .i64 c.user], .int .i64 now] w fun e w' => e = .returned (.bool true) ∧ Mod [] w w' := by
  have hn2 : now ≤ 1099511627776 := by omega
  have HC := Lib.hid hc
  clear hc
  go_enter Try.func3, Try.ntmps3
  go_upto_region 1 with fail
  go_cut [5, 6] (fun x e wx => OpenCut c now w x e wx)
  case first =>
    go_region_with (first | (go_at_call 5; refine (quad_spec _).mono ?_; rintro e w1 ⟨rfl, hM1⟩; have b0 : ∀ j, w1.cell? ⟨w.heap.size, j, none⟩ = c.vals[j]? := fun j => (hM1.blk (Blk.drew (Blk.new w 23 c.vals)) (by simp)).cell j; have b0' := b0 0; have b1' := b0 1; have b2' := b0 2; have b3' := b0 3; have b4' := b0 4; have b5' := b0 5; have b6' := b0 6; have b7' := b0 7; have b8' := b0 8; clear b0; simp [Cfg.vals] at b0' b1' b2' b3' b4' b5' b6' b7' b8') | (go_at_call 4; refine (open_ok c _ _ _ _ _ _ _ HC.out ⟨by omega, by omega⟩).mono ?_; rintro e w2 ⟨p, b, r, s, e2, g2, g, cap, rfl, hX, hH, hR, hp, hb, hr, hM2⟩))
    all_goals
      go_wp2_with fail
      go_meet
      exact openCut_of hM1 hX hH hR hp hb hr hM2
  case rest =>
    obtain ⟨p, b, r, out, rfl, rfl, hS, hB, hp, hb, hr, hM⟩ := hcut
    have b0 : wc.cell? ⟨w.heap.size, 0, none⟩ = some (.int .i64 c.mss) := hB.cell 0
    have b1 : wc.cell? ⟨w.heap.size, 1, none⟩ = some (.int .i64 c.snd) := hB.cell 1
    have b2 : wc.cell? ⟨w.heap.size, 2, none⟩ = some (.int .i64 c.rcv) := hB.cell 2
    have b3 : wc.cell? ⟨w.heap.size, 3, none⟩ = some (.int .i64 c.least) := hB.cell 3
    have b4 : wc.cell? ⟨w.heap.size, 4, none⟩ = some (.int .i64 c.most) := hB.cell 4
    have b5 : wc.cell? ⟨w.heap.size, 5, none⟩ = some (.int .i64 c.first) := hB.cell 5
    have b6 : wc.cell? ⟨w.heap.size, 6, none⟩ = some (.int .i64 c.tries) := hB.cell 6
    have b7 : wc.cell? ⟨w.heap.size, 7, none⟩ = some (.int .i64 c.msl) := hB.cell 7
    have b8 : wc.cell? ⟨w.heap.size, 8, none⟩ = some (.int .i64 c.user) := hB.cell 8
    go_wp2_with (go_at_call 6; refine (code_spec _ _).mono ?_; rintro e w' ⟨rfl, rfl⟩)
    refine (tries_spec c now _ HC.out ⟨hn1, hn2⟩).mono ?_
    rintro e w1 ⟨m, fin, v, rfl, hm, hlt, hfin, hown, hM1⟩
    have hS1 := hS.mod hM1 (by simp) (by simp) (by simp)
    clear b0 b1 b2 b3 b4 b5 b6 b7 b8
    have hplt := hS.lt
    have hrlt := hS.rto.lt
    go_wp2_with fail
    refine (syn_out hS1).mono ?_
    rintro e w2 ⟨rfl, hS2, hM2⟩
    have hown2 := hM2.row hown (by simp; omega)
    have hMm : Mod [] w w2 := (hM.trans hM1).then hM2 (by simp; omega)
    go_wp2_with fail
    rcases hown2.2 with ⟨rfl, rfl⟩ | ⟨g, cap, cur, rfl, hgb, hh, hmc, hcm, _, hcur⟩
    · refine wp_loop_rounds 1 ?_
      rw [rounds_succ]
      have hSm := hS2
      clear hS2 hS1 hS hown hown2
      have hwm := wt_bd c HC.out 0
      have htm := tk_bd c now HC.out 0
      have htk : c.tk now (0 + 1) = c.tk now 0 + c.wt 0 := rfl
      have hu := HC.out.u1
      have hu2 := HC.out.u2
      have hmt := HC.out.t2
      have hlast : c.tk now 0 < now + c.user := by
        simp only [Cfg.tk]; omega
      have hfe : min (c.tk now (0 + 1)) (now + c.user) = fin := by
        rcases hfin with ⟨h1, h2⟩ | ⟨_, h1, h2⟩ <;> omega
      have hf1 : c.tk now 0 ≤ fin - 1 := by rcases hfin with ⟨h1, h2⟩ | ⟨_, h1, h2⟩ <;> omega
      have hf2 : fin ≤ now + c.user := by omega
      have hf3 : fin ≤ c.tk now (0 + 1) := by omega
      have hf4 : 0 ≤ fin := by omega
      have hf5 : fin ≤ 1099511627776 := by omega
      have HF := Lib.hid hfe
      have HFIN := Lib.hid hfin
      have HTK := Lib.hid htk
      clear hfe hfin htk
      have hpw : w.heap.size < p := hp
      go_wp2_with fail
      have hN := syn_next hSm
      rw [HF.out] at hN
      refine hN.mono ?_
      rintro e wA ⟨rfl, hSA, hMA⟩
      clear hN
      go_wp2_with fail
      refine (syn_tick0 hSA (fin - 1) hf1 (by omega) (by omega) (by omega)).mono ?_
      rintro e wB ⟨rfl, hSB, hMB⟩
      go_wp2_with (go_at_call 12; refine (syn_state hSB).mono ?_; rintro e w' ⟨rfl, rfl⟩)
      refine (syn_fin HC.out hn1 hSB fin (by omega) (by omega) HFIN.out).mono ?_
      rintro e wC ⟨rfl, hDC, hMC⟩
      go_wp2_with fail
      refine (done_next hDC).mono ?_
      rintro e wD ⟨rfl, hDD, hMD⟩
      go_wp2_with fail
      refine (done_send1 (hDD.alloc _) fin _ hf5).mono ?_
      rintro e wE ⟨rfl, hDE, hME⟩
      go_wp2_with fail
      refine (done_send2 (hDE.alloc _) fin _ hf5).mono ?_
      rintro e wF ⟨rfl, hDF, hMF⟩
      go_wp2_with fail
      refine (done_recv hDF fin hf5).mono ?_
      rintro e wG ⟨rfl, hDG, hMG⟩
      go_wp2_with (first | (go_at_call 12; refine (done_state hDG).mono ?_; rintro e w' ⟨rfl, rfl⟩) | (go_at_call 6; refine (code_spec _ _).mono ?_; rintro e w' ⟨rfl, rfl⟩) | (go_at_call 15; refine (done_shut hDG fin).mono ?_; rintro e w' ⟨rfl, rfl⟩) | (go_at_call 7; refine (live_spec _).mono ?_; rintro e wH ⟨rfl, hMH⟩))
      go_ret
      refine ⟨rfl, ?_⟩
      have hS1 : ∀ x ∈ [p, r], x ∈ ([] : List Nat) ∨ w.heap.size ≤ x := by simp; omega
      have hS2 : ∀ x ∈ [p], x ∈ ([] : List Nat) ∨ w.heap.size ≤ x := by simp; omega
      exact (((((((hMm.then hMA hS1).then hMB hS1).then hMC hS1).then hMD hS2).alloc _).then hME hS2).alloc _).then hMF hS2 |>.then hMG hS2 |>.trans hMH
    · have hgp : g ≠ p := by omega
      have hgr : g ≠ r := by omega
      have hBg : Blk w2 g 3 (tkList c now m ++ cur.toList.drop (m * 1)) := by
        unfold Blk
        rw [hh, ← hcur, List.take_append_drop]
      clear hown hown2 hS1 hh
      go_loopw [9] (fun i wr => RoundRel c now w p b r m g (cur.toList.drop (m * 1)) i wr) (fun i _ => m - (intOf i).toNat)
      case atStart => exact ⟨0, by omega, rfl, hS2, hBg, hMm⟩
      case round =>
        obtain ⟨k, hk, rfl, hSk, hBk, hMk⟩ := hrel
        by_cases hkm : k < m
        · have hwk := wt_bd c HC.out k
          have htk0 := tk_bd c now HC.out k
          have htk : c.tk now (k + 1) = c.tk now k + c.wt k := rfl
          have hu := HC.out.u1
          have hu2 := HC.out.u2
          have hmt := HC.out.t2
          have hlk := hlt k hkm
          have hfe : min (c.tk now (k + 1)) (now + c.user) = c.tk now (k + 1) := by omega
          have h0 : 0 ≤ c.tk now (k + 1) := by omega
          have h1 : c.tk now (k + 1) ≤ 1099511627776 := by omega
          have h2 : c.tk now k ≤ c.tk now (k + 1) - 1 := by omega
          have h3 : c.tk now (k + 1) - 1 < c.tk now (k + 1) := by omega
          have h4 : c.tk now (k + 1) - 1 < now + c.user := by omega
          have hkt : (k : Int) + 1 ≤ c.tries := by omega
          have hS1' : ∀ x ∈ [p, r], x ∈ ([] : List Nat) ∨ w.heap.size ≤ x := by simp; omega
          have HF := Lib.hid hfe
          have HTK := Lib.hid htk
          have HLT := Lib.hid hlt
          have HFIN := Lib.hid hfin
          have HS1 := Lib.hid hS1'
          clear hfe htk hlt hfin hS1'
          go_wp2_with fail
          have hN := syn_next hSk
          rw [HF.out] at hN
          refine hN.mono ?_
          rintro e wA ⟨rfl, hSA, hMA⟩
          clear hN
          have hBA := hMA.blk hBk (by simp; exact ⟨hgp, hgr⟩)
          have cA := tk_cell hBA hkm
          go_wp2_with fail
          refine (syn_tick0 hSA (c.tk now (k + 1) - 1) h2 h3 h4 (by omega)).mono ?_
          rintro e wB ⟨rfl, hSB, hMB⟩
          have hBB := hMB.blk hBA (by simp; exact ⟨hgp, hgr⟩)
          have cB := tk_cell hBB hkm
          clear cA
          go_wp2_with fail
          refine (syn_out hSB).mono ?_
          rintro e wC ⟨rfl, hSC, hMC⟩
          have hBC := hMC.blk hBB (by simp; exact ⟨hgp, hgr⟩)
          have cC := tk_cell hBC hkm
          clear cB
          go_wp2_with (go_at_call 12; refine (syn_state hSC).mono ?_; rintro e w' ⟨rfl, rfl⟩)
          refine (syn_tick1 HC.out hn1 hSC (by omega) (by omega) hlk (by omega) hkt).mono ?_
          rintro e wD ⟨rfl, g2, cap2, out2, ⟨rfl, src, dst, ack, win, mss, scale, rest, hB2⟩, hSD, hg2, hMD⟩
          have hBD := hMD.blk hBC (by simp; exact ⟨hgp, hgr⟩)
          clear cC
          go_wp2_with fail
          have hpD := hSC.lt
          have hrD := hSC.rto.lt
          refine (syn_out hSD).mono ?_
          rintro e wE ⟨rfl, hSE, hME⟩
          have hBE := hME.blk hBD (by simp; exact ⟨hgp, hgr⟩)
          have hB3 := hME.blk hB2 (by simp; omega)
          have c4 : wE.cell? ⟨g2, 4, none⟩ = some (.int .u8 2) := hB3.cell 4
          have c2 : wE.cell? ⟨g2, 2, none⟩ = some (.int .u32 7) := hB3.cell 2
          go_wp2
          go_roundw
          case rel => exact ⟨k + 1, by omega, by go_num, hSE, hBE, (((((hMk.then hMA HS1.out).then hMB HS1.out).then hMC HS1.out).then hMD HS1.out).then hME HS1.out)⟩
          case measure => simp [intOf]; omega
        · have hkm' : k = m := by omega
          subst hkm'
          have hSm := hSk
          have hMm' := hMk
          clear hSk hMm hMk hS2 hS hBk hBg
          have hMm := hMm'
          clear hMm'
          have hwm := wt_bd c HC.out k
          have htm := tk_bd c now HC.out k
          have htk : c.tk now (k + 1) = c.tk now k + c.wt k := rfl
          have hu := HC.out.u1
          have hu2 := HC.out.u2
          have hmt := HC.out.t2
          have hlast : c.tk now k < now + c.user := by
            cases k with
            | zero => simp only [Cfg.tk]; omega
            | succ j => exact hlt j (by omega)
          have hfe : min (c.tk now (k + 1)) (now + c.user) = fin := by
            rcases hfin with ⟨h1, h2⟩ | ⟨_, h1, h2⟩ <;> omega
          have hf1 : c.tk now k ≤ fin - 1 := by rcases hfin with ⟨h1, h2⟩ | ⟨_, h1, h2⟩ <;> omega
          have hf2 : fin ≤ now + c.user := by omega
          have hf3 : fin ≤ c.tk now (k + 1) := by omega
          have hf4 : 0 ≤ fin := by omega
          have hf5 : fin ≤ 1099511627776 := by omega
          have HF := Lib.hid hfe
          have HFIN := Lib.hid hfin
          have HTK := Lib.hid htk
          clear hfe hfin htk
          have hpw : w.heap.size < p := hp
          go_wp2_with fail
          have hN := syn_next hSm
          rw [HF.out] at hN
          refine hN.mono ?_
          rintro e wA ⟨rfl, hSA, hMA⟩
          clear hN
          go_wp2_with fail
          refine (syn_tick0 hSA (fin - 1) hf1 (by omega) (by omega) (by omega)).mono ?_
          rintro e wB ⟨rfl, hSB, hMB⟩
          go_wp2_with (go_at_call 12; refine (syn_state hSB).mono ?_; rintro e w' ⟨rfl, rfl⟩)
          refine (syn_fin HC.out hn1 hSB fin (by omega) (by omega) HFIN.out).mono ?_
          rintro e wC ⟨rfl, hDC, hMC⟩
          go_wp2_with fail
          refine (done_next hDC).mono ?_
          rintro e wD ⟨rfl, hDD, hMD⟩
          go_wp2_with fail
          refine (done_send1 (hDD.alloc _) fin _ hf5).mono ?_
          rintro e wE ⟨rfl, hDE, hME⟩
          go_wp2_with fail
          refine (done_send2 (hDE.alloc _) fin _ hf5).mono ?_
          rintro e wF ⟨rfl, hDF, hMF⟩
          go_wp2_with fail
          refine (done_recv hDF fin hf5).mono ?_
          rintro e wG ⟨rfl, hDG, hMG⟩
          go_wp2_with (first | (go_at_call 12; refine (done_state hDG).mono ?_; rintro e w' ⟨rfl, rfl⟩) | (go_at_call 6; refine (code_spec _ _).mono ?_; rintro e w' ⟨rfl, rfl⟩) | (go_at_call 15; refine (done_shut hDG fin).mono ?_; rintro e w' ⟨rfl, rfl⟩) | (go_at_call 7; refine (live_spec _).mono ?_; rintro e wH ⟨rfl, hMH⟩))
          go_ret
          refine ⟨rfl, ?_⟩
          have hS1 : ∀ x ∈ [p, r], x ∈ ([] : List Nat) ∨ w.heap.size ≤ x := by simp; omega
          have hS2 : ∀ x ∈ [p], x ∈ ([] : List Nat) ∨ w.heap.size ≤ x := by simp; omega
          exact (((((((hMm.then hMA hS1).then hMB hS1).then hMC hS1).then hMD hS2).alloc _).then hME hS2).alloc _).then hMF hS2 |>.then hMG hS2 |>.trans hMH

end Go.Proofs.Ytpomnnfabpbmiaa
