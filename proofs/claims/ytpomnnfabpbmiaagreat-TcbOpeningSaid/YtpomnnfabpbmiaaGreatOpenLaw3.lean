import Derived.Test.YtpomnnfabpbmiaaGreatOpenLaw2
import Derived.Deep.RegionWith
import Derived.StillTailTactics
import Derived.Test.YtpomnnfabpbmiaaGreatStray
namespace Go.Proofs.YtpomnnfabpbmiaaGreat
open Go.RowKit
set_option linter.unusedVariables false

/-- behind Open -/
def OpCut (c : Cfg) (iss src dst seq ack fl win mss scale : Int) (a : Option Addr) (n cap : Nat) (w : World) (x e : Value) (wx : World) : Prop :=
  ∃ p b r s e2 g2 g gc : Nat, x = .pointer (some ⟨p, 0, none⟩) ∧ e = .int .i64 0 ∧ ConnAt wx p (opened c 1 1000 2 80 iss 0 s b e2 r g2 (.slice (some ⟨g, 0, none⟩) 1 gc)) ∧
    Blk wx b 111 (hoseCells c.rcv (.slice none 0 0) 0 0 0 0) ∧ Blk wx r 113 (rtoCells c.least c.most 0 0 false c.first 0) ∧ Blk wx s 111 (hoseCells c.snd (.slice none 0 0) 0 0 0 0) ∧
    Blk wx (w.heap.size + 1) 28 [.int .u16 src, .int .u16 dst, .int .u32 seq, .int .u32 ack, .int .u8 fl, .int .u16 win, .int .i64 mss, .int .i64 scale, .slice a n cap] ∧
    w.heap.size + 2 ≤ p ∧ Mod [] w wx

theorem opCut_of {c : Cfg} {iss src dst seq ack fl win mss scale : Int} {a : Option Addr} {n cap : Nat} {w w1 w2 : World} {p b r s e2 g2 g gc : Nat}
    (hM1 : Mod [] ((w.alloc (.cells c.vals.toArray 23 (0, 0))).alloc (.cells #[.int .u16 src, .int .u16 dst, .int .u32 seq, .int .u32 ack, .int .u8 fl, .int .u16 win, .int .i64 mss, .int .i64 scale, .slice a n cap] 28 (0, 0))).drew w1)
    (hX : ConnAt w2 p (opened c 1 1000 2 80 iss 0 s b e2 r g2 (.slice (some ⟨g, 0, none⟩) 1 gc))) (hH : Blk w2 b 111 (hoseCells c.rcv (.slice none 0 0) 0 0 0 0)) (hR : Blk w2 r 113 (rtoCells c.least c.most 0 0 false c.first 0)) (hS : Blk w2 s 111 (hoseCells c.snd (.slice none 0 0) 0 0 0 0))
    (hp : w1.heap.size ≤ p) (hM2 : Mod [] w1 w2) : OpCut c iss src dst seq ack fl win mss scale a n cap w (.pointer (some ⟨p, 0, none⟩)) (.int .i64 0) w2 := by
  have hsz := hM1.size
  simp at hsz
  exact ⟨p, b, r, s, e2, g2, g, gc, rfl, rfl, hX, hH, hR, hS, hM2.blk (hM1.blk (Blk.drew (Blk.new' (by simp) 28 [.int .u16 src, .int .u16 dst, .int .u32 seq, .int .u32 ack, .int .u8 fl, .int .u16 win, .int .i64 mss, .int .i64 scale, .slice a n cap])) (by simp)) (by simp), by omega, ((((Mod.refl [] w).alloc _).alloc _).drew.trans hM1).trans hM2⟩

/-- behind a name that no tactic opens: the elaborator would run the goal (its guards) at each step -/
structure Shut (p : Prop) : Prop where
  out : p
theorem hs_free {P : Program} {ops : Array Oper} {w : World} {Q : Act → Prop} {a : Act} {o : Oper} {rest : List Oper} (hg : o.guard = none)
    (h : ∀ K : Act → Prop, (∀ a, Shut (wpStill P ops w Q rest a) → K a) → o.still P a w K) : Shut (wpStill P ops w Q (o :: rest) a) :=
  ⟨wpStill_step (fun K hK => by
    rw [if_pos (by unfold Region.wanted; rw [hg])]
    exact h K (fun a ha => hK a ha.out))⟩
theorem hs_skip {P : Program} {ops : Array Oper} {w : World} {Q : Act → Prop} {a : Act} {o : Oper} {rest : List Oper} (j : Nat) (b : Bool) (v : Option Bool) (hg : o.guard = some (j, b)) (hy : yielded ops a.tmps j = v) (hv : v ≠ some b)
    (h : Shut (wpStill P ops w Q rest (a.put o.dst undef))) : Shut (wpStill P ops w Q (o :: rest) a) :=
  ⟨wpStill_step (fun K hK => by
    rw [if_neg (by unfold Region.wanted; rw [hg]; simp only [hy]; simpa using hv)]
    exact hK _ h.out)⟩
theorem hs_nil {P : Program} {ops : Array Oper} {w : World} {Q : Act → Prop} {a : Act} (h : Q a) : Shut (wpStill P ops w Q [] a) := ⟨wpStill_nil h⟩
/-- one segment went out -/
def OpTail (c : Cfg) (seq fl' at_ : Int) (w : World) (sg x fl at' l : Value) (wx : World) : Prop :=
  ∃ (p b s g gc : Nat) (y : Conn) (ack win mss scale lp rp : Int) (rest : List Value), sg = .pointer (some ⟨w.heap.size + 1, 0, none⟩) ∧ x = .pointer (some ⟨p, 0, none⟩) ∧ fl = .int .i64 fl' ∧ at' = .int .u32 at_ ∧ l = .slice (some ⟨g, 0, none⟩) 1 gc ∧
    ConnAt wx p y ∧ y.snd = .pointer (some ⟨s, 0, none⟩) ∧ y.inn = .pointer (some ⟨b, 0, none⟩) ∧ Blk wx b 111 (hoseCells c.rcv (.slice none 0 0) 0 0 0 0) ∧ Blk wx s 111 (hoseCells c.snd (.slice none 0 0) 0 0 0 0) ∧
    (∃ cs, Blk wx (w.heap.size + 1) 28 cs ∧ cs[2]? = some (.int .u32 seq)) ∧ Blk wx g 28 (segCells lp rp at_ ack fl' win mss scale (.slice none 0 0) ++ rest) ∧ (fl' ≠ 4 → ack = sadd seq 1 ∧ y.irs = seq) ∧ Mod [] w wx

set_option maxRecDepth 100000 in
set_option maxHeartbeats 20000000 in
theorem olaw_main (c : Cfg) (iss src dst seq ack fl win mss scale : Int) (a : Option Addr) (n cap : Nat) (w : World) (hn : (n : Int) ≤ 1000) (hs0 : 0 ≤ scale) (hs1 : scale ≤ 15) (hm0 : 0 ≤ mss) (hm1 : mss ≤ 65535) (hc : c.ok) (i0 : 0 ≤ iss) (i1 : iss < 4294967296) (a0 : 0 ≤ ack) (a1 : ack < 4294967296) (z0 : 0 ≤ seq) (z1 : seq < 4294967296) :
    Calls Tryz.prog 3 #[.agg #[.int .i64 c.mss, .int .i64 c.snd, .int .i64 c.rcv, .int .i64 c.least, .int .i64 c.most, .int .i64 c.first, .int .i64 c.tries, .int .i64 c.msl, .int .i64 c.user], .int .u32 iss, .agg #[.int .u16 src, .int .u16 dst, .int .u32 seq, .int .u32 ack, .int .u8 fl, .int .u16 win, .int .i64 mss, .int .i64 scale, .slice a n cap]] w fun e w' => e = .returned (.bool true) ∧ Mod [] w w' := by
  have HC := Lib.hid hc
  have hrv : 0 ≤ c.rcv ∧ c.rcv ≤ 1048576 := ⟨by have := hc.r1; omega, hc.r2⟩
  clear hc
  obtain ⟨st, ft, fl', at_, hin, href, f0, f1⟩ := open_both iss src dst seq ack fl win mss scale a n cap i0 i1 a0 a1 hs0 hs1 hm0 hm1
  have HIN := Lib.hid hin
  have HREF := Lib.hid href
  clear hin href
  go_enter Tryz.func3, Tryz.ntmps3
  go_upto_region 3 with (fail)
  go_cut [7, 8] (fun x e wx => OpCut c iss src dst seq ack fl win mss scale a n cap w x e wx)
  case first =>
    go_region_with (first | (go_at_call 7; refine (quad_spec _).mono ?_; rintro e w1 ⟨rfl, hM1⟩; have b0 : ∀ j, w1.cell? ⟨w.heap.size, j, none⟩ = c.vals[j]? := fun j => (hM1.blk (Blk.drew ((Blk.new w 23 c.vals).alloc _)) (by simp)).cell j; have b0' := b0 0; have b1' := b0 1; have b2' := b0 2; have b3' := b0 3; have b4' := b0 4; have b5' := b0 5; have b6' := b0 6; have b7' := b0 7; have b8' := b0 8; clear b0; simp [Cfg.vals] at b0' b1' b2' b3' b4' b5' b6' b7' b8') | (go_at_call 6; refine (open_ok2 c _ _ _ _ _ _ _ HC.out ⟨by omega, by omega⟩).mono ?_; rintro e w2 ⟨p, b, r, s, e2, g2, g, gc, rfl, hX, hH, hR, hp, hb, hr, hM2, hS⟩))
    all_goals
      go_wp2_with fail
      go_meet
      exact opCut_of hM1 hX hH hR hS hp hM2
  case rest =>
    obtain ⟨p, b, r, s, e2, g2, g, gc, rfl, rfl, hX, hH, hR, hS, hSeg, hp, hM⟩ := hcut
    have hTop : (opened c 1 1000 2 80 iss 0 s b e2 r g2 (.slice (some ⟨g, 0, none⟩) 1 gc)).top = sadd iss 1 := top_open iss i0 i1
    have HTop := Lib.hid hTop
    clear hTop
    go_wp2_with (go_at_call 8; refine (code_spec _ _).mono ?_; rintro e w' ⟨rfl, rfl⟩)
    refine (out_spec p _ _ hX).mono ?_
    rintro e w3 ⟨rfl, hX3, hM3⟩
    have hS3 := hM3.blk hSeg (by simp; omega)
    have q0 := hS3.cell 0
    have q1 := hS3.cell 1
    have q2 := hS3.cell 2
    have q3 := hS3.cell 3
    have q4 := hS3.cell 4
    have q5 := hS3.cell 5
    have q6 := hS3.cell 6
    have q7 := hS3.cell 7
    have q8 := hS3.cell 8
    simp at q0 q1 q2 q3 q4 q5 q6 q7 q8
    have hbp : b ≠ p := hH.ne hX (by decide)
    have hrp : r ≠ p := hR.ne hX (by decide)
    have hsp : s ≠ p := hS.ne hX (by decide)
    have hpre : SynPre w3 p b s r c iss { (opened c 1 1000 2 80 iss 0 s b e2 r g2 (.slice (some ⟨g, 0, none⟩) 1 gc)) with out := .slice none 0 0 } :=
      { put := { at_ := hX3, out0 := rfl, inn := rfl, kle := by omega, shift := rfl, hose := hM3.blk hH (by simpa using hbp), n0 := by omega, nr := by omega, room := by omega }, state := rfl, fault := rfl, now := rfl, snd := rfl, sndB := hM3.blk hS (by simpa using hsp), shut := rfl, iss_ := rfl, top := HTop.out, cmss := rfl, crcv := rfl, rto := rfl, rtoB := hM3.blk hR (by simpa using hrp), rp := hrp }
    go_wp2_with fail
    refine (HIN.out c w3 p b s r _ HC.out hpre).mono ?_
    rintro e w4 ⟨rfl, y, hY, hst, hft, hyb, hys, hM4, hout⟩
    have hMm : Mod [] w w4 := (hM.then hM3 (by simp; omega)).then hM4 (by simp; omega)
    have hS4 := hM4.blk hS3 (by simp; omega)
    clear q0 q1 q2 q3 q4 q5 q6 q7 q8 hpre
    have q0 := hS4.cell 0
    have q1 := hS4.cell 1
    have q2 := hS4.cell 2
    have q3 := hS4.cell 3
    have q4 := hS4.cell 4
    have q5 := hS4.cell 5
    have q6 := hS4.cell 6
    have q7 := hS4.cell 7
    have q8 := hS4.cell 8
    simp at q0 q1 q2 q3 q4 q5 q6 q7 q8
    have HST := Lib.hid hst
    have HFT := Lib.hid hft
    have HYB := Lib.hid hyb
    have HYS := Lib.hid hys
    have HOUT := Lib.hid hout
    clear hst hft hyb hys hout
    go_wp2_with fail
    refine (HREF.out _).mono ?_
    rintro e w5 ⟨rfl, hM5⟩
    have hY5 := hY.mod hM5 (by simp)
    go_wp2_with fail
    refine (out_spec p _ _ hY5).mono ?_
    rintro e w6 ⟨rfl, hY6, hM6⟩
    clear q0 q1 q2 q3 q4 q5 q6 q7 q8
    have hM6' : Mod [] w w6 := (hMm.trans hM5).then hM6 (by simp; omega)
    go_wp2_with fail
    refine (state_spec p _ _ hY6).mono ?_
    rintro e w' ⟨rfl, rfl⟩
    rw [show ({ y with out := .slice none 0 0 } : Conn).state = y.state from rfl, HST.out]
    go_wp2_with fail
    refine (fault_spec p _ _ hY6).mono ?_
    rintro e w' ⟨rfl, rfl⟩
    rw [show ({ y with out := .slice none 0 0 } : Conn).fault = y.fault from rfl, HFT.out]
    rcases HOUT.out with ⟨hf0, hl⟩ | ⟨hf0, g', gc', ack', win', mss', scale', lp', rp', rest, hl, hG, hlast⟩
    · have hb0 : (fl' == 0) = true := by simpa using hf0
      have HF0 := Lib.hid hf0
      clear hf0
      go_wp2_with (first | (go_at_call 8; refine (code_spec _ _).mono ?_; rintro e w' ⟨rfl, rfl⟩) | (go_at_call 5; refine (live_spec _).mono ?_; rintro e w7 ⟨rfl, hM7⟩))
      go_ret
      exact ⟨rfl, hM6'.trans hM7⟩
    · have hb0 : (fl' == 0) = false := by simpa using hf0
      have hG6 := hM6.blk (hM5.blk hG (by simp)) (by simp; exact hG.ne hY (by decide))
      have hH6 := hM6.blk (hM5.blk (hM4.blk (hM3.blk hH (by simpa using hbp)) (by simpa using hbp)) (by simp)) (by simpa using hbp)
      have hSn6 := hM6.blk (hM5.blk (hM4.blk (hM3.blk hS (by simpa using hsp)) (by simpa using hsp)) (by simp)) (by simpa using hsp)
      have hSg6 := hM6.blk (hM5.blk hS4 (by simp)) (by simp; omega)
      go_upto_region 14 with (go_at_call 8; refine (code_spec _ _).mono ?_; rintro e w' ⟨rfl, rfl⟩)
      go_cut [5, 7, 11, 12, 13, 95] (fun sg x f t l o wx => o = .bool false ∧ OpTail c seq fl' at_ w sg x f t l wx)
      case first =>
        go_wp2_with fail
        go_meet
        exact ⟨rfl, p, b, s, g', gc', _, ack', win', mss', scale', lp', rp', rest, rfl, rfl, rfl, rfl, rfl, hY6, HYS.out, HYB.out, hH6, hSn6, ⟨_, hSg6, rfl⟩, hG6, hlast, hM6'⟩
      case rest =>
        clear hM6' hG6 hH6 hSn6 hSg6 hlast hY6 hM6 hM5 hY5 hY hMm hM4 hM3 hX3 hX hH hR hS hSeg hM hS3 hS4 hG hbp hrp hsp hp hl
        obtain ⟨rfl, p1, b1, s1, g1, gc1, y1, ack1, win1, mss1, scale1, lp1, rp1, rest1, rfl, rfl, rfl, rfl, rfl, hY, hys, hyb, hH, hS, ⟨cs, hSg, hcs⟩, hG, hlast, hM⟩ := hcut
        have q2 : wc.cell? ⟨w.heap.size + 1, 2, none⟩ = some (.int .u32 seq) := (hSg.cell 2).trans hcs
        have g2' : wc.cell? ⟨g1, 2, none⟩ = some (.int .u32 at_) := hG.cell 2
        have g3' : wc.cell? ⟨g1, 3, none⟩ = some (.int .u32 ack1) := hG.cell 3
        have g4' : wc.cell? ⟨g1, 4, none⟩ = some (.int .u8 fl') := hG.cell 4
        have g8' : wc.cell? ⟨g1, 8, none⟩ = some (.slice none 0 0) := hG.cell 8
        have HLAST := Lib.hid hlast
        clear hlast
        have HYS := Lib.hid hys
        have HYB := Lib.hid hyb
        have HCS := Lib.hid hcs
        clear hys hyb hcs
        have w1' : IntKind.i64.wrap fl' = fl' := IntWalk.i64_in _ (by omega)
        by_cases hf4 : fl' = 4
        · subst hf4
          clear hb0 f0 f1 w1' HIN HREF hrv HLAST
          go_wp2_with fail
          refine wp_region_still_tail 21 (by kernel_rfl) (by kernel_rfl) (Shut.out ?_)
          simp only [List.take_succ_cons, List.take_zero, List.drop_succ_cons, List.drop_zero]
          iterate 3 (refine hs_free rfl (fun K hK => ?_); simp [go_sem]; refine hK _ ?_; clear hK K)
          iterate 9 (refine hs_skip 2 false (some true) rfl (by rfl) (by decide) ?_; simp only [Act.put, List.setIfInBounds_toArray, List.set_cons_succ, List.set_cons_zero])
          iterate 6 (refine hs_skip 11 true none rfl (by rfl) (by decide) ?_; simp only [Act.put, List.setIfInBounds_toArray, List.set_cons_succ, List.set_cons_zero])
          refine hs_skip 2 false (some true) rfl (by rfl) (by decide) ?_; simp only [Act.put, List.setIfInBounds_toArray, List.set_cons_succ, List.set_cons_zero]
          iterate 2 (refine hs_free rfl (fun K hK => ?_); simp [go_sem]; refine hK _ ?_; clear hK K)
          refine hs_nil ?_
          change wpList _ _ _ _ _ wc.drew
          go_wp2_with (go_at_call 5; refine (live_spec _).mono ?_; rintro e w7 ⟨rfl, hM7⟩)
          go_ret
          exact ⟨rfl, hM.drew.trans hM7⟩
        · have hb4 : (fl' == 4) = false := by simpa using hf4
          obtain ⟨hack, hir⟩ := HLAST.out hf4
          have HIR := Lib.hid hir
          rw [hack] at g3'
          clear hf4 hack hir hb0 HIN HREF HLAST HTop HST HFT HOUT
          have hfd : ∀ (v0 v1 v2 v3 v5 v6 v7 v8 v9 : Value) (W : World), (Instr.field 51 (.agg #[v0, v1, v2, v3, .int .u32 seq, v5, v6, v7, v8, v9]) 4).run Tryz.prog W = .ok (.int .u32 seq) W := fun _ _ _ _ _ _ _ _ _ _ => by kernel_rfl
          go_wp2_with fail
          go_region_with (first | (go_at_call 5; refine (live_spec _).mono ?_; rintro e w7 ⟨rfl, hM7⟩) | (go_at_call 15; refine (radd_any _ _ _ z0 z1 (by omega) (by omega)).mono ?_; rintro e w' ⟨rfl, rfl⟩) | (go_at_call 16; refine (vars_irs p1 b1 s1 _ _ hY.drew HYS.out HYB.out c.rcv 0 (.slice none 0 0) 0 0 0 hH.drew (by omega) (by omega) (by omega) _ _ _ _ _ _ hS.drew).mono ?_; rintro e w8 ⟨⟨v0, v1, v2, v3, v5, v6, v7, v8, v9, rfl⟩, hM8⟩; rw [HIR.out]; have q2' : w8.cell? ⟨w.heap.size + 1, 2, none⟩ = some (.int .u32 seq) := ((hM8.blk hSg.drew (by simp)).cell 2).trans HCS.out))
          all_goals
            go_wp2
            go_ret
            exact ⟨rfl, (hM.drew.trans hM8).trans hM7⟩
end Go.Proofs.YtpomnnfabpbmiaaGreat
