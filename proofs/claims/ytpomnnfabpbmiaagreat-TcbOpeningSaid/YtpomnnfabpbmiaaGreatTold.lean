import Derived.Test.YtpomnnfabpbmiaaGreatOpening2
import Derived.Test.YtpomnnfabpbmiaaGreatInput
import Derived.Test.YtpomnnfabpbmiaaGreatRefOpen
import Derived.Test.YtpomnnfabpbmiaaGreatRightIff
namespace Go.Proofs.YtpomnnfabpbmiaaGreat
open Go.RowKit
set_option linter.unusedVariables false

/-- what a segment does to a side that has sent its SYN alone -/
def Told (w : World) (p b s : Nat) (seq st ft fl at_ : Int) (w' : World) : Prop :=
  ∃ y : Conn, ConnAt w' p y ∧ y.state = st ∧ y.fault = ft ∧ y.inn = .pointer (some ⟨b, 0, none⟩) ∧ y.snd = .pointer (some ⟨s, 0, none⟩) ∧ Mod [p] w w' ∧
    ((fl = 0 ∧ y.out = .slice none 0 0) ∨ (fl ≠ 0 ∧ ∃ (g cap : Nat) (ack win mss scale lp rp : Int) (rest : List Value), y.out = .slice (some ⟨g, 0, none⟩) 1 cap ∧ Blk w' g 28 (segCells lp rp at_ ack fl win mss scale (.slice none 0 0) ++ rest) ∧ (fl ≠ 4 → ack = sadd seq 1 ∧ y.irs = seq)))

theorem bit_eq {k : Int} {b : Bool} (h : (k != 0) = b) : (k == 0) = !b := by
  cases b <;> simp_all [bne]

structure SynPre (w : World) (p b s r : Nat) (c : Cfg) (iss : Int) (x : Conn) : Prop where
  put : PutPre w p b 0 x c.rcv 0 (.slice none 0 0) 0 0 0
  state : x.state = 1
  fault : x.fault = 0
  now : x.now = 0
  snd : x.snd = .pointer (some ⟨s, 0, none⟩)
  sndB : Blk w s 111 (hoseCells c.snd (.slice none 0 0) 0 0 0 0)
  shut : x.shut = false
  iss_ : x.iss = iss
  top : x.top = sadd iss 1
  cmss : x.cmss = c.mss
  crcv : x.crcv = c.rcv
  rto : x.rto = .pointer (some ⟨r, 0, none⟩)
  rtoB : Blk w r 113 (rtoCells c.least c.most 0 0 false c.first 0)
  rp : r ≠ p

/-! the cases -/
theorem SynPre.mod {w w' : World} {p b s r : Nat} {c : Cfg} {iss : Int} {x : Conn} (h : SynPre w p b s r c iss x) (hX : ConnAt w' p x) (m : Mod [p] w w') : SynPre w' p b s r c iss x :=
  { put := { h.put with at_ := hX, hose := m.blk h.put.hose (by simp; exact h.put.hose.ne h.put.at_ (by decide)) }, state := h.state, fault := h.fault, now := h.now, snd := h.snd, sndB := m.blk h.sndB (by simp; exact h.sndB.ne h.put.at_ (by decide)), shut := h.shut, iss_ := h.iss_, top := h.top, cmss := h.cmss, crcv := h.crcv, rto := h.rto, rtoB := m.blk h.rtoB (by simp; exact h.rp), rp := h.rp }

theorem Told.none {w w' : World} {p b s r : Nat} {c : Cfg} {iss : Int} {x : Conn} (h : SynPre w p b s r c iss x) {seq at_ : Int} (hX : ConnAt w' p x) (m : Mod [p] w w') : Told w p b s seq 1 0 0 at_ w' :=
  ⟨x, hX, h.state, h.fault, h.put.inn, h.snd, m, .inl ⟨rfl, h.put.out0⟩⟩
theorem Told.close {w w' : World} {p b s r : Nat} {c : Cfg} {iss : Int} {x : Conn} (h : SynPre w p b s r c iss x) {seq at_ : Int} (hX : ConnAt w' p { x with state := 0, fault := 220, again := false, probe := false, wait := false, user := false }) (m : Mod [p] w w') : Told w p b s seq 0 220 0 at_ w' :=
  ⟨_, hX, rfl, rfl, h.put.inn, h.snd, m, .inl ⟨rfl, h.put.out0⟩⟩
theorem Told.rst {w w' : World} {p b s r : Nat} {c : Cfg} {iss : Int} {x : Conn} (h : SynPre w p b s r c iss x) {seq at_ : Int} (ho : PutOne w p x 4 at_ w') : Told w p b s seq 1 0 4 at_ w' := by
  obtain ⟨g, cap, ack, win, rest, h1, hg, h2, h3, h4⟩ := ho
  exact ⟨_, h1, h.state, h.fault, h.put.inn, h.snd, h4, .inr ⟨by decide, g, cap, ack, win, 0, 0, _, _, rest, rfl, h2, fun h => absurd rfl h⟩⟩
theorem Told.one {w w' : World} {p b s r : Nat} {c : Cfg} {iss : Int} {x : Conn} (h : SynPre w p b s r c iss x) {seq st fl at_ : Int} (hf : fl ≠ 0) (ho : OneOut w p x seq st fl at_ w') : Told w p b s seq st 0 fl at_ w' := by
  obtain ⟨y, g, cap, ack, win, mss, scale, rest, h1, h2, h3, h4, h5, h6, h7, h8, h9⟩ := ho
  exact ⟨y, h1, h2, by rw [h3, h.fault], by rw [h4, h.put.inn], by rw [h5, h.snd], h9, .inr ⟨hf, g, cap, ack, win, mss, scale, _, _, rest, h6, h7, h8⟩⟩

theorem told_bad0 (w : World) (p b s r : Nat) (c : Cfg) (iss : Int) (x : Conn) (h : SynPre w p b s r c iss x) (src dst seq ack fl win mss scale : Int) (a : Option Addr) (n cap : Nat) (i0 : 0 ≤ iss) (i1 : iss < 4294967296) (a0 : 0 ≤ ack) (a1 : ack < 4294967296) (hc : c.ok) (hs0 : 0 ≤ scale) (hs1 : scale ≤ 15) (hm0 : 0 ≤ mss) (hm1 : mss ≤ 65535) (bA : (bits BinOp.and .u8 fl 16 != 0) = true) (bR : (bits BinOp.and .u8 fl 4 != 0) = true) (hr : (ack == sadd iss 1) = false) :
    Calls Tryz.prog 11 #[.pointer (some ⟨p, 0, none⟩), .int .i64 0, .agg #[.int .u16 src, .int .u16 dst, .int .u32 seq, .int .u32 ack, .int .u8 fl, .int .u16 win, .int .i64 mss, .int .i64 scale, .slice a n cap]] w fun e w' => e = .returned (.tuple #[]) ∧ Told w p b s seq 1 0 0 0 w' := by
  refine input_of p w x h.put.at_ h.state h.now src dst seq ack fl win mss scale a n cap (fun w' => Told w p b s seq 1 0 0 0 w') ?_
  intro w1 hX hM
  have k := h.mod hX hM
  have hne : ack ≠ sadd iss 1 := by simpa using hr
  have hb := (right_iff iss ack i0 i1 a0 a1).2 hne
  rw [← k.top, ← k.iss_] at hb
  by_cases hd : sdiff ack x.iss ≤ 0
  · refine (opening_none1 p b 0 w1 x c.rcv 0 (.slice none 0 0) 0 0 0 k.put src dst seq ack fl win mss scale a n cap bA (bit_eq bR) hd).mono ?_
    rintro e w' ⟨he, hO⟩
    obtain ⟨y, h1, h2, h3, h4, h5, h6, h7⟩ := Told.none k (seq := seq) (at_ := 0) hO.1 hO.2
    exact ⟨he, y, h1, h2, h3, h4, h5, hM.trans h6, h7⟩
  · have ht : 0 < sdiff ack x.top := by omega
    refine (opening_none2 p b 0 w1 x c.rcv 0 (.slice none 0 0) 0 0 0 k.put src dst seq ack fl win mss scale a n cap bA (bit_eq bR) hd ht).mono ?_
    rintro e w' ⟨he, hO⟩
    obtain ⟨y, h1, h2, h3, h4, h5, h6, h7⟩ := Told.none k (seq := seq) (at_ := 0) hO.1 hO.2
    exact ⟨he, y, h1, h2, h3, h4, h5, hM.trans h6, h7⟩

theorem told_bad4 (w : World) (p b s r : Nat) (c : Cfg) (iss : Int) (x : Conn) (h : SynPre w p b s r c iss x) (src dst seq ack fl win mss scale : Int) (a : Option Addr) (n cap : Nat) (i0 : 0 ≤ iss) (i1 : iss < 4294967296) (a0 : 0 ≤ ack) (a1 : ack < 4294967296) (hc : c.ok) (hs0 : 0 ≤ scale) (hs1 : scale ≤ 15) (hm0 : 0 ≤ mss) (hm1 : mss ≤ 65535) (bA : (bits BinOp.and .u8 fl 16 != 0) = true) (bR : (bits BinOp.and .u8 fl 4 != 0) = false) (hr : (ack == sadd iss 1) = false) :
    Calls Tryz.prog 11 #[.pointer (some ⟨p, 0, none⟩), .int .i64 0, .agg #[.int .u16 src, .int .u16 dst, .int .u32 seq, .int .u32 ack, .int .u8 fl, .int .u16 win, .int .i64 mss, .int .i64 scale, .slice a n cap]] w fun e w' => e = .returned (.tuple #[]) ∧ Told w p b s seq 1 0 4 ack w' := by
  refine input_of p w x h.put.at_ h.state h.now src dst seq ack fl win mss scale a n cap (fun w' => Told w p b s seq 1 0 4 ack w') ?_
  intro w1 hX hM
  have k := h.mod hX hM
  have hne : ack ≠ sadd iss 1 := by simpa using hr
  have hb := (right_iff iss ack i0 i1 a0 a1).2 hne
  rw [← k.top, ← k.iss_] at hb
  by_cases hd : sdiff ack x.iss ≤ 0
  · refine (opening_rst1 p b 0 w1 x c.rcv 0 (.slice none 0 0) 0 0 0 k.put src dst seq ack fl win mss scale a n cap bA (bit_eq bR) hd).mono ?_
    rintro e w' ⟨he, hO⟩
    obtain ⟨y, h1, h2, h3, h4, h5, h6, h7⟩ := Told.rst k (seq := seq) hO
    exact ⟨he, y, h1, h2, h3, h4, h5, hM.trans h6, h7⟩
  · have ht : 0 < sdiff ack x.top := by omega
    refine (opening_rst2 p b 0 w1 x c.rcv 0 (.slice none 0 0) 0 0 0 k.put src dst seq ack fl win mss scale a n cap bA (bit_eq bR) hd ht).mono ?_
    rintro e w' ⟨he, hO⟩
    obtain ⟨y, h1, h2, h3, h4, h5, h6, h7⟩ := Told.rst k (seq := seq) hO
    exact ⟨he, y, h1, h2, h3, h4, h5, hM.trans h6, h7⟩

theorem told_refused (w : World) (p b s r : Nat) (c : Cfg) (iss : Int) (x : Conn) (h : SynPre w p b s r c iss x) (src dst seq ack fl win mss scale : Int) (a : Option Addr) (n cap : Nat) (i0 : 0 ≤ iss) (i1 : iss < 4294967296) (a0 : 0 ≤ ack) (a1 : ack < 4294967296) (hc : c.ok) (hs0 : 0 ≤ scale) (hs1 : scale ≤ 15) (hm0 : 0 ≤ mss) (hm1 : mss ≤ 65535) (bA : (bits BinOp.and .u8 fl 16 != 0) = true) (bR : (bits BinOp.and .u8 fl 4 != 0) = true) (hr : (ack == sadd iss 1) = true) :
    Calls Tryz.prog 11 #[.pointer (some ⟨p, 0, none⟩), .int .i64 0, .agg #[.int .u16 src, .int .u16 dst, .int .u32 seq, .int .u32 ack, .int .u8 fl, .int .u16 win, .int .i64 mss, .int .i64 scale, .slice a n cap]] w fun e w' => e = .returned (.tuple #[]) ∧ Told w p b s seq 0 220 0 0 w' := by
  refine input_of p w x h.put.at_ h.state h.now src dst seq ack fl win mss scale a n cap (fun w' => Told w p b s seq 0 220 0 0 w') ?_
  intro w1 hX hM
  have k := h.mod hX hM
  have hne : ¬ (ack ≠ sadd iss 1) := by simpa using hr
  have hb := fun h => hne ((right_iff iss ack i0 i1 a0 a1).1 h)
  rw [← k.top, ← k.iss_] at hb
  have hd : ¬ sdiff ack x.iss ≤ 0 := fun h => hb (.inl h)
  have ht : ¬ 0 < sdiff ack x.top := fun h => hb (.inr h)
  refine (opening_close p b 0 w1 x c.rcv 0 (.slice none 0 0) 0 0 0 k.put src dst seq ack fl win mss scale a n cap bA hd ht bR).mono ?_
  rintro e w' ⟨he, hO⟩
  obtain ⟨y, h1, h2, h3, h4, h5, h6, h7⟩ := Told.close k (seq := seq) (at_ := 0) hO.1 hO.2
  exact ⟨he, y, h1, h2, h3, h4, h5, hM.trans h6, h7⟩

theorem told_none3 (w : World) (p b s r : Nat) (c : Cfg) (iss : Int) (x : Conn) (h : SynPre w p b s r c iss x) (src dst seq ack fl win mss scale : Int) (a : Option Addr) (n cap : Nat) (i0 : 0 ≤ iss) (i1 : iss < 4294967296) (a0 : 0 ≤ ack) (a1 : ack < 4294967296) (hc : c.ok) (hs0 : 0 ≤ scale) (hs1 : scale ≤ 15) (hm0 : 0 ≤ mss) (hm1 : mss ≤ 65535) (bA : (bits BinOp.and .u8 fl 16 != 0) = false) (bR : (bits BinOp.and .u8 fl 4 != 0) = true) :
    Calls Tryz.prog 11 #[.pointer (some ⟨p, 0, none⟩), .int .i64 0, .agg #[.int .u16 src, .int .u16 dst, .int .u32 seq, .int .u32 ack, .int .u8 fl, .int .u16 win, .int .i64 mss, .int .i64 scale, .slice a n cap]] w fun e w' => e = .returned (.tuple #[]) ∧ Told w p b s seq 1 0 0 0 w' := by
  refine input_of p w x h.put.at_ h.state h.now src dst seq ack fl win mss scale a n cap (fun w' => Told w p b s seq 1 0 0 0 w') ?_
  intro w1 hX hM
  have k := h.mod hX hM
  refine (opening_none3 p b 0 w1 x c.rcv 0 (.slice none 0 0) 0 0 0 k.put src dst seq ack fl win mss scale a n cap bA bR).mono ?_
  rintro e w' ⟨he, hO⟩
  obtain ⟨y, h1, h2, h3, h4, h5, h6, h7⟩ := Told.none k (seq := seq) (at_ := 0) hO.1 hO.2
  exact ⟨he, y, h1, h2, h3, h4, h5, hM.trans h6, h7⟩

theorem told_none4 (w : World) (p b s r : Nat) (c : Cfg) (iss : Int) (x : Conn) (h : SynPre w p b s r c iss x) (src dst seq ack fl win mss scale : Int) (a : Option Addr) (n cap : Nat) (i0 : 0 ≤ iss) (i1 : iss < 4294967296) (a0 : 0 ≤ ack) (a1 : ack < 4294967296) (hc : c.ok) (hs0 : 0 ≤ scale) (hs1 : scale ≤ 15) (hm0 : 0 ≤ mss) (hm1 : mss ≤ 65535) (bA : (bits BinOp.and .u8 fl 16 != 0) = false) (bR : (bits BinOp.and .u8 fl 4 != 0) = false) (bS : (bits BinOp.and .u8 fl 2 != 0) = false) :
    Calls Tryz.prog 11 #[.pointer (some ⟨p, 0, none⟩), .int .i64 0, .agg #[.int .u16 src, .int .u16 dst, .int .u32 seq, .int .u32 ack, .int .u8 fl, .int .u16 win, .int .i64 mss, .int .i64 scale, .slice a n cap]] w fun e w' => e = .returned (.tuple #[]) ∧ Told w p b s seq 1 0 0 0 w' := by
  refine input_of p w x h.put.at_ h.state h.now src dst seq ack fl win mss scale a n cap (fun w' => Told w p b s seq 1 0 0 0 w') ?_
  intro w1 hX hM
  have k := h.mod hX hM
  refine (opening_none4 p b 0 w1 x c.rcv 0 (.slice none 0 0) 0 0 0 k.put src dst seq ack fl win mss scale a n cap bA bR (bit_eq bS)).mono ?_
  rintro e w' ⟨he, hO⟩
  obtain ⟨y, h1, h2, h3, h4, h5, h6, h7⟩ := Told.none k (seq := seq) (at_ := 0) hO.1 hO.2
  exact ⟨he, y, h1, h2, h3, h4, h5, hM.trans h6, h7⟩

theorem told_none5 (w : World) (p b s r : Nat) (c : Cfg) (iss : Int) (x : Conn) (h : SynPre w p b s r c iss x) (src dst seq ack fl win mss scale : Int) (a : Option Addr) (n cap : Nat) (i0 : 0 ≤ iss) (i1 : iss < 4294967296) (a0 : 0 ≤ ack) (a1 : ack < 4294967296) (hc : c.ok) (hs0 : 0 ≤ scale) (hs1 : scale ≤ 15) (hm0 : 0 ≤ mss) (hm1 : mss ≤ 65535) (bA : (bits BinOp.and .u8 fl 16 != 0) = true) (bR : (bits BinOp.and .u8 fl 4 != 0) = false) (hr : (ack == sadd iss 1) = true) (bS : (bits BinOp.and .u8 fl 2 != 0) = false) :
    Calls Tryz.prog 11 #[.pointer (some ⟨p, 0, none⟩), .int .i64 0, .agg #[.int .u16 src, .int .u16 dst, .int .u32 seq, .int .u32 ack, .int .u8 fl, .int .u16 win, .int .i64 mss, .int .i64 scale, .slice a n cap]] w fun e w' => e = .returned (.tuple #[]) ∧ Told w p b s seq 1 0 0 0 w' := by
  refine input_of p w x h.put.at_ h.state h.now src dst seq ack fl win mss scale a n cap (fun w' => Told w p b s seq 1 0 0 0 w') ?_
  intro w1 hX hM
  have k := h.mod hX hM
  have hne : ¬ (ack ≠ sadd iss 1) := by simpa using hr
  have hb := fun h => hne ((right_iff iss ack i0 i1 a0 a1).1 h)
  rw [← k.top, ← k.iss_] at hb
  have hd : ¬ sdiff ack x.iss ≤ 0 := fun h => hb (.inl h)
  have ht : ¬ 0 < sdiff ack x.top := fun h => hb (.inr h)
  refine (opening_none5 p b 0 w1 x c.rcv 0 (.slice none 0 0) 0 0 0 k.put src dst seq ack fl win mss scale a n cap bA hd ht bR (bit_eq bS)).mono ?_
  rintro e w' ⟨he, hO⟩
  obtain ⟨y, h1, h2, h3, h4, h5, h6, h7⟩ := Told.none k (seq := seq) (at_ := 0) hO.1 hO.2
  exact ⟨he, y, h1, h2, h3, h4, h5, hM.trans h6, h7⟩

theorem told_rcvd (w : World) (p b s r : Nat) (c : Cfg) (iss : Int) (x : Conn) (h : SynPre w p b s r c iss x) (src dst seq ack fl win mss scale : Int) (a : Option Addr) (n cap : Nat) (i0 : 0 ≤ iss) (i1 : iss < 4294967296) (a0 : 0 ≤ ack) (a1 : ack < 4294967296) (hc : c.ok) (hs0 : 0 ≤ scale) (hs1 : scale ≤ 15) (hm0 : 0 ≤ mss) (hm1 : mss ≤ 65535) (bA : (bits BinOp.and .u8 fl 16 != 0) = false) (bR : (bits BinOp.and .u8 fl 4 != 0) = false) (bS : (bits BinOp.and .u8 fl 2 != 0) = true) :
    Calls Tryz.prog 11 #[.pointer (some ⟨p, 0, none⟩), .int .i64 0, .agg #[.int .u16 src, .int .u16 dst, .int .u32 seq, .int .u32 ack, .int .u8 fl, .int .u16 win, .int .i64 mss, .int .i64 scale, .slice a n cap]] w fun e w' => e = .returned (.tuple #[]) ∧ Told w p b s seq 2 0 18 iss w' := by
  refine input_of p w x h.put.at_ h.state h.now src dst seq ack fl win mss scale a n cap (fun w' => Told w p b s seq 2 0 18 iss w') ?_
  intro w1 hX hM
  have k := h.mod hX hM
  obtain ⟨m1, m2, s1, s2, r1, r2, l1, l2, l3, l4, t1, t2, n1, n2, u1, u2⟩ := hc
  refine (opening_rcvd p b 0 w1 x c.rcv 0 (.slice none 0 0) 0 0 0 k.put src dst seq ack fl win mss scale a n cap bA bR (bit_eq bS) rfl hs0 hs1 hm0 hm1 (by rw [k.cmss]; omega) (by rw [k.cmss]; omega) (by rw [k.crcv]; omega) (by rw [k.crcv]; omega) r c.least c.most 0 0 false c.first 0 k.rtoB k.rto k.rp (by rw [k.now]; omega) (by rw [k.now]; omega) (by omega) (by omega)).mono ?_
  rintro e w' ⟨he, hO⟩
  obtain ⟨y, h1, h2, h3, h4, h5, h6, h7⟩ := Told.one k (seq := seq) (by decide) (k.iss_ ▸ hO)
  exact ⟨he, y, h1, h2, h3, h4, h5, hM.trans h6, h7⟩

theorem told_estab (w : World) (p b s r : Nat) (c : Cfg) (iss : Int) (x : Conn) (h : SynPre w p b s r c iss x) (src dst seq ack fl win mss scale : Int) (a : Option Addr) (n cap : Nat) (i0 : 0 ≤ iss) (i1 : iss < 4294967296) (a0 : 0 ≤ ack) (a1 : ack < 4294967296) (hc : c.ok) (hs0 : 0 ≤ scale) (hs1 : scale ≤ 15) (hm0 : 0 ≤ mss) (hm1 : mss ≤ 65535) (bA : (bits BinOp.and .u8 fl 16 != 0) = true) (bR : (bits BinOp.and .u8 fl 4 != 0) = false) (hr : (ack == sadd iss 1) = true) (bS : (bits BinOp.and .u8 fl 2 != 0) = true) :
    Calls Tryz.prog 11 #[.pointer (some ⟨p, 0, none⟩), .int .i64 0, .agg #[.int .u16 src, .int .u16 dst, .int .u32 seq, .int .u32 ack, .int .u8 fl, .int .u16 win, .int .i64 mss, .int .i64 scale, .slice a n cap]] w fun e w' => e = .returned (.tuple #[]) ∧ Told w p b s seq 3 0 16 (sadd iss 1) w' := by
  refine input_of p w x h.put.at_ h.state h.now src dst seq ack fl win mss scale a n cap (fun w' => Told w p b s seq 3 0 16 (sadd iss 1) w') ?_
  intro w1 hX hM
  have k := h.mod hX hM
  obtain ⟨m1, m2, s1, s2, r1, r2, l1, l2, l3, l4, t1, t2, n1, n2, u1, u2⟩ := hc
  have hne : ¬ (ack ≠ sadd iss 1) := by simpa using hr
  have hb := fun h => hne ((right_iff iss ack i0 i1 a0 a1).1 h)
  rw [← k.top, ← k.iss_] at hb
  have hd : ¬ sdiff ack x.iss ≤ 0 := fun h => hb (.inl h)
  have ht : ¬ 0 < sdiff ack x.top := fun h => hb (.inr h)
  refine (opening_estab p b 0 w1 x c.rcv 0 (.slice none 0 0) 0 0 0 k.put src dst seq ack fl win mss scale a n cap bA hd ht bR (bit_eq bS) rfl hs0 hs1 hm0 hm1 (by rw [k.cmss]; omega) (by rw [k.cmss]; omega) (by rw [k.crcv]; omega) (by rw [k.crcv]; omega) s k.snd c.snd (.slice none 0 0) 0 0 0 k.sndB k.shut (by rw [k.top]; exact eq_of_beq hr)).mono ?_
  rintro e w' ⟨he, hO⟩
  obtain ⟨y, h1, h2, h3, h4, h5, h6, h7⟩ := Told.one k (seq := seq) (by decide) (k.top ▸ hO)
  exact ⟨he, y, h1, h2, h3, h4, h5, hM.trans h6, h7⟩

end Go.Proofs.YtpomnnfabpbmiaaGreat
