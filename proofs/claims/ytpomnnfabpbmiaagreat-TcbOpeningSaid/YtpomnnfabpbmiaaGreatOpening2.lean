import Derived.Test.YtpomnnfabpbmiaaGreatOpening
namespace Go.Proofs.YtpomnnfabpbmiaaGreat
open Go.RowKit
set_option linter.unusedVariables false

/-- one segment goes out -/
def OneOut (w : World) (p : Nat) (x : Conn) (seq st fl at_ : Int) (w' : World) : Prop :=
  ∃ (y : Conn) (g cap : Nat) (ack win mss scale : Int) (rest : List Value), ConnAt w' p y ∧ y.state = st ∧ y.fault = x.fault ∧ y.inn = x.inn ∧ y.snd = x.snd ∧ y.out = .slice (some ⟨g, 0, none⟩) 1 cap ∧
    Blk w' g 28 (segCells x.lp x.rp at_ ack fl win mss scale (.slice none 0 0) ++ rest) ∧ (fl ≠ 4 → ack = sadd seq 1 ∧ y.irs = seq) ∧ Mod [p] w w'

set_option maxRecDepth 100000 in
set_option maxHeartbeats 2000000 in
theorem opening_rcvd (p b k : Nat) (w : World) (x : Conn) (room nn : Int) (ring : Value) (first inn out : Int) (hP : PutPre w p b k x room nn ring first inn out) (src dst seq ack fl win mss scale : Int) (a : Option Addr) (n cap : Nat)
    (bA : (bits BinOp.and .u8 fl 16 != 0) = false) (bN : (bits BinOp.and .u8 fl 4 != 0) = false) (bS : (bits BinOp.and .u8 fl 2 == 0) = false) (hk : k = 0) (hs0 : 0 ≤ scale) (hs1 : scale ≤ 15) (hm0 : 0 ≤ mss) (hm1 : mss ≤ 65535) (hc0 : 1 ≤ x.cmss) (hc1 : x.cmss ≤ 65455) (hr0 : 0 ≤ x.crcv) (hr1 : x.crcv ≤ 1048576) (r : Nat) (least most mean off : Int) (known : Bool) (rnow backs : Int) (hR : Blk w r 113 (rtoCells least most mean off known rnow backs)) (hxr : x.rto = .pointer (some ⟨r, 0, none⟩)) (hrp : r ≠ p) (t0 : 0 ≤ x.now) (t1 : x.now ≤ 1099511627776) (t2 : 0 ≤ rnow) (t3 : rnow ≤ 1048576) :
    Calls Tryz.prog 35 #[.pointer (some ⟨p, 0, none⟩), .agg #[.int .u16 src, .int .u16 dst, .int .u32 seq, .int .u32 ack, .int .u8 fl, .int .u16 win, .int .i64 mss, .int .i64 scale, .slice a n cap]] w fun e w' => e = .returned (.tuple #[]) ∧ OneOut w p x seq 2 18 x.iss w' := by
  have hsi : x.shiftIn = 0 := by rw [hP.shift, hk]; rfl
  have HSI := Lib.hid hsi
  have HXR := Lib.hid hxr
  clear hsi hxr hk
  have hX := hP.at_
  have hlt := hX.lt
  go_enter Tryz.func35, Tryz.ntmps35
  go_upto_region 2 with fail
  refine wp_name (fun W hW => ?_)
  have hX1 : ConnAt W p x := by
    rw [hW]
    exact hX.alloc _
  have hH1 : Blk W b 111 (hoseCells room ring first nn inn out) := by
    rw [hW]
    exact hP.hose.alloc _
  have hB : Blk W w.heap.size 28 [.int .u16 src, .int .u16 dst, .int .u32 seq, .int .u32 ack, .int .u8 fl, .int .u16 win, .int .i64 mss, .int .i64 scale, .slice a n cap] := by
    rw [hW]
    exact Blk.new w 28 _
  have hM : Mod [p] w W := by
    rw [hW]
    exact (Mod.refl _ _).alloc _
  have hP1 : PutPre W p b k x room nn ring first inn out := ⟨hX1, hP.out0, hP.inn, hP.kle, hP.shift, hH1, hP.n0, hP.nr, hP.room⟩
  clear hW
  have b0' := hB.cell 0
  have b1' := hB.cell 1
  have b2' := hB.cell 2
  have b3' := hB.cell 3
  have b4' := hB.cell 4
  have b5' := hB.cell 5
  have b6' := hB.cell 6
  have b7' := hB.cell 7
  have b8' := hB.cell 8
  simp at b0' b1' b2' b3' b4' b5' b6' b7' b8'
  have c18 := hX1.iss
  have c21 := hX1.top
  have hR1 : Blk W r 113 (rtoCells least most mean off known rnow backs) := hM.blk hR (by simp; exact hrp)
  go_quiet ((go_at_call 68; exact Calls.quiet_of_same (Calls.still (diff_spec _ _ _))))
  go_wp2_with (go_at_call 69; refine (greet_spec p _ x src dst seq ack fl win mss scale a n cap (hX1.drewN _) HSI.out hs0 hs1 hm0 hm1 hc0 hc1 hr0 hr1).mono ?_; rintro e w2 ⟨rfl, m2, so, pe, k2, g2, sc, hk2, hX2, hM2⟩; have c13 := ConnAt.state hX2; have c30 := ConnAt.scaled hX2; have fz2 := ConnAt.fz hX2)
  have hX3 := ConnAt.set_state hX2 2
  have hpb : b ≠ p := hP.hose.ne hX (by decide)
  have hH3 := (hM2.blk (hH1.drewN _) (by simp; exact hpb)).other (a := ⟨p, 13, none⟩) hpb (.int .i64 2)
  have hR3 := (hM2.blk (hR1.drewN _) (by simp; exact hrp)).other (a := ⟨p, 13, none⟩) hrp (.int .i64 2)
  have hM3 := ((hM.drewN _).trans hM2).setCell (p := ⟨p, 13, none⟩) (.inl (by simp)) (.int .i64 2)
  cases sc
  · refine (hello_rcvd0 p b k2 r _ _ room nn ring first inn out ⟨hX3, hP.out0, hP.inn, hk2, rfl, hH3, hP.n0, hP.nr, hP.room⟩ rfl least most mean off known rnow backs hR3 HXR.out hrp t0 t1 t2 t3 hr0 hr1).mono ?_
    rintro e w4 ⟨rfl, g, cap2, ack2, win2, mss2, scale2, rest, hX4, hg, hB4, hack, hM4⟩
    go_wp2
    first | go_end0 | refine bodyPost_ret (results_none rfl _ _ _) rfl ?_
    exact ⟨rfl, _, g, cap2, ack2, win2, mss2, scale2, rest, hX4, rfl, rfl, rfl, rfl, rfl, hB4, fun _ => ⟨hack (by decide), rfl⟩, hM3.trans hM4⟩
  · refine (hello_rcvd1 p b k2 r _ _ room nn ring first inn out ⟨hX3, hP.out0, hP.inn, hk2, rfl, hH3, hP.n0, hP.nr, hP.room⟩ rfl least most mean off known rnow backs hR3 HXR.out hrp t0 t1 t2 t3 hr0 hr1).mono ?_
    rintro e w4 ⟨rfl, g, cap2, ack2, win2, mss2, scale2, rest, hX4, hg, hB4, hack, hM4⟩
    go_wp2
    first | go_end0 | refine bodyPost_ret (results_none rfl _ _ _) rfl ?_
    exact ⟨rfl, _, g, cap2, ack2, win2, mss2, scale2, rest, hX4, rfl, rfl, rfl, rfl, rfl, hB4, fun _ => ⟨hack (by decide), rfl⟩, hM3.trans hM4⟩

set_option maxRecDepth 100000 in
set_option maxHeartbeats 2000000 in
theorem opening_estab (p b k : Nat) (w : World) (x : Conn) (room nn : Int) (ring : Value) (first inn out : Int) (hP : PutPre w p b k x room nn ring first inn out) (src dst seq ack fl win mss scale : Int) (a : Option Addr) (n cap : Nat)
    (bA : (bits BinOp.and .u8 fl 16 != 0) = true) (hd : ¬ sdiff ack x.iss ≤ 0) (ht : ¬ 0 < sdiff ack x.top) (bN : (bits BinOp.and .u8 fl 4 != 0) = false) (bS : (bits BinOp.and .u8 fl 2 == 0) = false) (hk : k = 0) (hs0 : 0 ≤ scale) (hs1 : scale ≤ 15) (hm0 : 0 ≤ mss) (hm1 : mss ≤ 65535) (hc0 : 1 ≤ x.cmss) (hc1 : x.cmss ≤ 65455) (hr0 : 0 ≤ x.crcv) (hr1 : x.crcv ≤ 1048576) (s : Nat) (hsnd : x.snd = .pointer (some ⟨s, 0, none⟩)) (room2 : Int) (ring2 : Value) (first2 hin2 hout2 : Int) (hS : Blk w s 111 (hoseCells room2 ring2 first2 0 hin2 hout2)) (hsh : x.shut = false) (hat : ack = x.top) :
    Calls Tryz.prog 35 #[.pointer (some ⟨p, 0, none⟩), .agg #[.int .u16 src, .int .u16 dst, .int .u32 seq, .int .u32 ack, .int .u8 fl, .int .u16 win, .int .i64 mss, .int .i64 scale, .slice a n cap]] w fun e w' => e = .returned (.tuple #[]) ∧ OneOut w p x seq 3 16 x.top w' := by
  have hsi : x.shiftIn = 0 := by rw [hP.shift, hk]; rfl
  have HSI := Lib.hid hsi
  have HSN := Lib.hid hsnd
  have HSH := Lib.hid hsh
  have HAT := Lib.hid hat
  clear hsi hsnd hk hsh hat
  have hX := hP.at_
  have hlt := hX.lt
  go_enter Tryz.func35, Tryz.ntmps35
  go_upto_region 2 with fail
  refine wp_name (fun W hW => ?_)
  have hX1 : ConnAt W p x := by
    rw [hW]
    exact hX.alloc _
  have hH1 : Blk W b 111 (hoseCells room ring first nn inn out) := by
    rw [hW]
    exact hP.hose.alloc _
  have hB : Blk W w.heap.size 28 [.int .u16 src, .int .u16 dst, .int .u32 seq, .int .u32 ack, .int .u8 fl, .int .u16 win, .int .i64 mss, .int .i64 scale, .slice a n cap] := by
    rw [hW]
    exact Blk.new w 28 _
  have hM : Mod [p] w W := by
    rw [hW]
    exact (Mod.refl _ _).alloc _
  have hP1 : PutPre W p b k x room nn ring first inn out := ⟨hX1, hP.out0, hP.inn, hP.kle, hP.shift, hH1, hP.n0, hP.nr, hP.room⟩
  clear hW
  have b0' := hB.cell 0
  have b1' := hB.cell 1
  have b2' := hB.cell 2
  have b3' := hB.cell 3
  have b4' := hB.cell 4
  have b5' := hB.cell 5
  have b6' := hB.cell 6
  have b7' := hB.cell 7
  have b8' := hB.cell 8
  simp at b0' b1' b2' b3' b4' b5' b6' b7' b8'
  have c18 := hX1.iss
  have c21 := hX1.top
  have hS1 : Blk W s 111 (hoseCells room2 ring2 first2 0 hin2 hout2) := hM.blk hS (by simp; exact hS.ne hX (by decide))
  go_quiet ((go_at_call 68; exact Calls.quiet_of_same (Calls.still (diff_spec _ _ _))))
  go_wp2_with (go_at_call 69; refine (greet_spec p _ x src dst seq ack fl win mss scale a n cap (hX1.drewN _) HSI.out hs0 hs1 hm0 hm1 hc0 hc1 hr0 hr1).mono ?_; rintro e w2 ⟨rfl, m2, so, pe, k2, g2, sc, hk2, hX2, hM2⟩; have c13 := ConnAt.state hX2; have c19 := ConnAt.una hX2; have c45 := ConnAt.again hX2; have c33 := ConnAt.timed hX2; have c36 := ConnAt.tries hX2; have fz2 := ConnAt.fz hX2; have hB2 := hM2.blk (hB.drewN _) (by simp; omega); have b32 := hB2.cell 3; simp at b32)
  have hX3 := (((((ConnAt.set_una hX2 ack).set_state 3).set_again false).set_timed false).set_tries 0)
  have hpb : b ≠ p := hP.hose.ne hX (by decide)
  have hps : s ≠ p := hS.ne hX (by decide)
  have hH3 := ((((((hM2.blk (hH1.drewN _) (by simp; exact hpb)).other (a := ⟨p, 19, none⟩) hpb (.int .u32 ack)).other (a := ⟨p, 13, none⟩) hpb (.int .i64 3)).other (a := ⟨p, 45, none⟩) hpb (.bool false)).other (a := ⟨p, 33, none⟩) hpb (.bool false)).other (a := ⟨p, 36, none⟩) hpb (.int .i64 0))
  have hS3 := ((((((hM2.blk (hS1.drewN _) (by simp; exact hps)).other (a := ⟨p, 19, none⟩) hps (.int .u32 ack)).other (a := ⟨p, 13, none⟩) hps (.int .i64 3)).other (a := ⟨p, 45, none⟩) hps (.bool false)).other (a := ⟨p, 33, none⟩) hps (.bool false)).other (a := ⟨p, 36, none⟩) hps (.int .i64 0))
  have hM3 := (((((((hM.drewN _).trans hM2).setCell (p := ⟨p, 19, none⟩) (.inl (by simp)) (.int .u32 ack)).setCell (p := ⟨p, 13, none⟩) (.inl (by simp)) (.int .i64 3)).setCell (p := ⟨p, 45, none⟩) (.inl (by simp)) (.bool false)).setCell (p := ⟨p, 33, none⟩) (.inl (by simp)) (.bool false)).setCell (p := ⟨p, 36, none⟩) (.inl (by simp)) (.int .i64 0))
  refine (watch_off p s _ _ hX3 HSN.out HAT.out HSH.out room2 ring2 first2 hin2 hout2 hS3).mono ?_
  rintro e w4 ⟨rfl, hX4, hM4⟩
  have hH4 := hM4.blk hH3 (by simp; exact hpb)
  go_wp2_with fail
  refine (ack_spec p b k2 _ _ room nn ring first inn out ⟨hX4, hP.out0, hP.inn, hk2, rfl, hH4, hP.n0, hP.nr, hP.room⟩).mono ?_
  rintro e w5 ⟨rfl, g, cap2, ack2, win2, rest, hX5, hg, hB5, hack, hM5⟩
  go_wp2
  first | go_end0 | refine bodyPost_ret (results_none rfl _ _ _) rfl ?_
  exact ⟨rfl, _, g, cap2, ack2, win2, 0, 0, rest, hX5, rfl, rfl, rfl, rfl, rfl, hB5, fun _ => ⟨hack (by decide), rfl⟩, (hM3.trans hM4).trans hM5⟩

end Go.Proofs.YtpomnnfabpbmiaaGreat
