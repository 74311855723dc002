import Derived.Test.YtpomnnfabpbmiaaNext
import Derived.Test.YtpomnnfabpbmiaaClosed
import Derived.Test.YtpomnnfabpbmiaaTries
namespace Go.Proofs.Ytpomnnfabpbmiaa
open Go.RowKit
set_option linter.unusedVariables false

/-- A connection that has sent its SYN k + 1 times, the tick being t. -/
structure SynSt (c : Cfg) (now : Int) (b r k : Nat) (t : Int) (out : Value) (x : Conn) : Prop where
  state : x.state = 1
  now_ : x.now = t
  out_ : x.out = out
  inn : x.inn = .pointer (some ⟨b, 0, none⟩)
  rto : x.rto = .pointer (some ⟨r, 0, none⟩)
  shift : x.shiftIn = 0
  rcv : x.crcv = c.rcv
  ctries : x.ctries = c.tries
  user : x.user = true
  userAt : x.userAt = now + c.user
  wait : x.wait = false
  probe : x.probe = false
  again : x.again = true
  againAt : x.againAt = c.tk now (k + 1)
  tries : x.tries = k
  iss : x.iss = 7
  ended : x.ended = false

structure SynAt (w : World) (p b r : Nat) (c : Cfg) (now : Int) (k : Nat) (t : Int) (out : Value) : Prop where
  ex : ∃ x, ConnAt w p x ∧ SynSt c now b r k t out x
  hose : Blk w b 93 (hoseCells c.rcv (.slice none 0 0) 0 0 0 0)
  rto : Blk w r 91 (rtoCells c.least c.most 0 0 false (c.wt k) k)

theorem SynAt.mod {S : List Nat} {w w' : World} {p b r : Nat} {c : Cfg} {now : Int} {k : Nat} {t : Int} {out : Value} (h : SynAt w p b r c now k t out) (m : Mod S w w') (hp : p ∉ S) (hb : b ∉ S) (hr : r ∉ S) : SynAt w' p b r c now k t out := by
  obtain ⟨⟨x, hX, hx⟩, hH, hR⟩ := h
  exact ⟨⟨x, hX.mod m hp, hx⟩, m.blk hH hb, m.blk hR hr⟩
theorem SynAt.lt {w : World} {p b r : Nat} {c : Cfg} {now : Int} {k : Nat} {t : Int} {out : Value} (h : SynAt w p b r c now k t out) : p < w.heap.size := by
  obtain ⟨⟨x, hX, hx⟩, hH, hR⟩ := h
  exact hX.lt

/-- Closed, by a fault or none. -/
structure DoneSt (b : Nat) (f : Int) (x : Conn) : Prop where
  state : x.state = 0
  fault : x.fault = f
  inn : x.inn = .pointer (some ⟨b, 0, none⟩)
  user : x.user = false
  wait : x.wait = false
  probe : x.probe = false
  again : x.again = false
  ended : x.ended = false
structure DoneAt (w : World) (p b : Nat) (room : Int) (f : Int) : Prop where
  ex : ∃ x, ConnAt w p x ∧ DoneSt b f x
  hose : Blk w b 93 (hoseCells room (.slice none 0 0) 0 0 0 0)
theorem DoneAt.mod {S : List Nat} {w w' : World} {p b : Nat} {room f : Int} (h : DoneAt w p b room f) (m : Mod S w w') (hp : p ∉ S) (hb : b ∉ S) : DoneAt w' p b room f := by
  obtain ⟨⟨x, hX, hx⟩, hH⟩ := h
  exact ⟨⟨x, hX.mod m hp, hx⟩, m.blk hH hb⟩

section
variable {w : World} {p b r : Nat} {c : Cfg} {now : Int} {k : Nat} {t : Int} {out : Value}

theorem SynAt.bp (h : SynAt w p b r c now k t out) : b ≠ p := by
  obtain ⟨⟨x, hX, hx⟩, hH, hR⟩ := h
  exact hH.ne hX (by decide)
theorem SynAt.rp (h : SynAt w p b r c now k t out) : r ≠ p := by
  obtain ⟨⟨x, hX, hx⟩, hH, hR⟩ := h
  exact hR.ne hX (by decide)
theorem SynAt.br (h : SynAt w p b r c now k t out) : b ≠ r := by
  obtain ⟨⟨x, hX, hx⟩, hH, hR⟩ := h
  exact hH.ne hR (by decide)

theorem syn_out (h : SynAt w p b r c now k t out) :
    Calls Try.prog 9 #[.pointer (some ⟨p, 0, none⟩)] w fun e w' => e = .returned out ∧ SynAt w' p b r c now k t (.slice none 0 0) ∧ Mod [p, r] w w' := by
  have hbp := h.bp
  have hrp := h.rp
  obtain ⟨⟨x, hX, hx⟩, hH, hR⟩ := h
  refine (out_spec p w x hX).mono ?_
  rintro e w' ⟨rfl, hX', hM⟩
  exact ⟨by rw [hx.out_], ⟨⟨_, hX', ⟨hx.state, hx.now_, rfl, hx.inn, hx.rto, hx.shift, hx.rcv, hx.ctries, hx.user, hx.userAt, hx.wait, hx.probe, hx.again, hx.againAt, hx.tries, hx.iss, hx.ended⟩⟩, hM.blk hH (by simpa using hbp), hM.blk hR (by simpa using hrp)⟩, hM.mono (by simp)⟩

theorem syn_next (h : SynAt w p b r c now k t out) :
    Calls Try.prog 10 #[.pointer (some ⟨p, 0, none⟩)] w fun e w' => e = .returned (.tuple #[.int .i64 (min (c.tk now (k + 1)) (now + c.user)), .bool true]) ∧ SynAt w' p b r c now k t out ∧ Mod [p, r] w w' := by
  have h' := h
  obtain ⟨⟨x, hX, hx⟩, hH, hR⟩ := h
  refine (next_two p w x hX hx.user hx.wait hx.again hx.probe).mono ?_
  rintro e w' ⟨rfl, hM⟩
  exact ⟨by rw [hx.againAt, hx.userAt], h'.mod hM (by simp) (by simp) (by simp), hM.mono (by simp)⟩

theorem syn_state (h : SynAt w p b r c now k t out) :
    Calls Try.prog 12 #[.pointer (some ⟨p, 0, none⟩)] w fun e w' => e = .returned (.int .i64 1) ∧ w = w' := by
  obtain ⟨⟨x, hX, hx⟩, hH, hR⟩ := h
  refine (state_spec p w x hX).mono ?_
  rintro e w' ⟨rfl, hw⟩
  exact ⟨by rw [hx.state], hw⟩

theorem syn_tick0 (h : SynAt w p b r c now k t out) (t' : Int) (h1 : t ≤ t') (h2 : t' < c.tk now (k + 1)) (h3 : t' < now + c.user) (h4 : t' ≤ 1099511627776) :
    Calls Try.prog 11 #[.pointer (some ⟨p, 0, none⟩), .int .i64 t'] w fun e w' => e = .returned (.tuple #[]) ∧ SynAt w' p b r c now k t' out ∧ Mod [p, r] w w' := by
  have hbp := h.bp
  have hrp := h.rp
  obtain ⟨⟨x, hX, hx⟩, hH, hR⟩ := h
  have hm : max x.now t' = t' := by rw [hx.now_]; omega
  refine (tick_none p w x hX t' h4 hx.user (by rw [hm, hx.userAt]; omega) hx.wait hx.again (by rw [hm, hx.againAt]; omega) hx.probe).mono ?_
  rintro e w' ⟨rfl, hX', hM⟩
  rw [hm] at hX'
  exact ⟨rfl, ⟨⟨_, hX', ⟨hx.state, rfl, hx.out_, hx.inn, hx.rto, hx.shift, hx.rcv, hx.ctries, hx.user, hx.userAt, hx.wait, hx.probe, hx.again, hx.againAt, hx.tries, hx.iss, hx.ended⟩⟩, hM.blk hH (by simpa using hbp), hM.blk hR (by simpa using hrp)⟩, hM.mono (by simp)⟩

/-- A SYN goes out again. -/
def SynOut (w : World) (g cap : Nat) (out : Value) : Prop :=
  out = .slice (some ⟨g, 0, none⟩) 1 cap ∧ ∃ (src dst ack win mss scale : Int) (rest : List Value), Blk w g 49 (segCells src dst 7 ack 2 win mss scale (.slice none 0 0) ++ rest)

theorem syn_tick1 (hc : c.ok) (hn : 0 ≤ now) (h : SynAt w p b r c now k t (.slice none 0 0)) (h0 : 0 ≤ t) (h1 : t ≤ c.tk now (k + 1)) (h3 : c.tk now (k + 1) < now + c.user) (h4 : now + c.user ≤ 1099511627776) (hk : (k : Int) + 1 ≤ c.tries) :
    Calls Try.prog 11 #[.pointer (some ⟨p, 0, none⟩), .int .i64 (c.tk now (k + 1))] w fun e w' => e = .returned (.tuple #[]) ∧ ∃ (g cap : Nat) (out : Value), SynOut w' g cap out ∧ SynAt w' p b r c now (k + 1) (c.tk now (k + 1)) out ∧ w.heap.size ≤ g ∧ Mod [p, r] w w' := by
  have hbp := h.bp
  have hrp := h.rp
  have hbr := h.br
  have hw := wt_bd c hc k
  have ht := tk_bd c now hc k
  obtain ⟨⟨x, hX, hx⟩, hH, hR⟩ := h
  obtain ⟨m1, m2, s1, s2, r1, r2, l1, l2, l3, l4, t1, t2, n1, n2, u1, u2⟩ := hc
  have hm : max x.now (c.tk now (k + 1)) = c.tk now (k + 1) := by rw [hx.now_]; omega
  refine (tick_again p b r w x c.rcv 0 (.slice none 0 0) 0 0 0 ⟨hX, hx.out_, hx.inn, by omega, hx.shift, hH, by omega, by omega, by omega⟩ (c.tk now (k + 1)) (by omega) hx.user (by rw [hm, hx.userAt]; omega) hx.wait hx.again (by rw [hm, hx.againAt]; omega)
    hx.state c.least c.most 0 0 false (c.wt k) k hR hx.rto (by rw [hx.now_]; omega) (by rw [hx.now_]; omega) (by omega) (by omega) (by rw [hx.rcv]; omega) (by rw [hx.rcv]; omega) (by omega) (by omega) (by omega) (by omega) (by rw [hx.tries]; omega) (by rw [hx.tries, hx.ctries]; omega) (by rw [hx.ctries]; omega)).mono ?_
  rintro e w' ⟨rfl, W, hMW, g, cap, ack, win, mss, scale, rest, hX', hg, hB, hR', hM⟩
  rw [hm] at hX'
  have hHW := hMW.blk hH (by simpa using hbp)
  have hH' := hM.blk hHW (by simp; exact ⟨hbp, hbr⟩)
  have hB7 : Blk w' g 49 (segCells x.lp x.rp 7 ack 2 win mss scale (.slice none 0 0) ++ rest) := by
    have e := hx.iss
    rw [show ({ x with now := max x.now (c.tk now (k + 1)) } : Conn).iss = 7 from e] at hB
    exact hB
  refine ⟨rfl, g, cap, _, ⟨rfl, x.lp, x.rp, ack, win, mss, scale, rest, hB7⟩, ⟨⟨_, hX', ⟨hx.state, rfl, rfl, hx.inn, hx.rto, hx.shift, hx.rcv, hx.ctries, hx.user, hx.userAt, hx.wait, hx.probe, rfl, rfl, ?_, hx.iss, hx.ended⟩⟩, hH', ?_⟩, Nat.le_trans hMW.size hg, (hMW.mono (by simp)).trans hM⟩
  · show x.tries + 1 = _
    rw [hx.tries]; omega
  · rw [show c.wt (k + 1) = min (2 * c.wt k) c.most from rfl, show ((k + 1 : Nat) : Int) = (k : Int) + 1 by omega]
    exact hR'

/-- It is given up. -/
theorem syn_fin (hc : c.ok) (hn : 0 ≤ now) (h : SynAt w p b r c now k t (.slice none 0 0)) (fin : Int) (hf : t ≤ fin) (h4 : now + c.user ≤ 1099511627776)
    (hfin : (fin = now + c.user ∧ now + c.user ≤ c.tk now (k + 1)) ∨ ((k : Int) = c.tries ∧ c.tk now (k + 1) < now + c.user ∧ fin = c.tk now (k + 1))) :
    Calls Try.prog 11 #[.pointer (some ⟨p, 0, none⟩), .int .i64 fin] w fun e w' => e = .returned (.tuple #[]) ∧ DoneAt w' p b c.rcv 222 ∧ Mod [p, r] w w' := by
  have hbp := h.bp
  obtain ⟨⟨x, hX, hx⟩, hH, hR⟩ := h
  have hm : max x.now fin = fin := by rw [hx.now_]; omega
  have hcu := hc.t2
  rcases hfin with ⟨rfl, hle⟩ | ⟨hk, hlt, rfl⟩
  · refine (tick_user p w x hX (now + c.user) (by omega) hx.user (by rw [hm, hx.userAt]; omega)).mono ?_
    rintro e w' ⟨rfl, hX', hM⟩
    exact ⟨rfl, ⟨⟨_, hX', ⟨rfl, rfl, hx.inn, rfl, rfl, rfl, rfl, hx.ended⟩⟩, hM.blk hH (by simpa using hbp)⟩, hM.mono (by simp)⟩
  · refine (tick_end p w x hX (c.tk now (k + 1)) (by omega) hx.user (by rw [hm, hx.userAt]; omega) hx.wait hx.again (by rw [hm, hx.againAt]; omega) (by rw [hx.tries]; omega) (by rw [hx.tries, hx.ctries]; omega) (by rw [hx.tries]; omega)).mono ?_
    rintro e w' ⟨rfl, hX', hM⟩
    exact ⟨rfl, ⟨⟨_, hX', ⟨rfl, rfl, hx.inn, rfl, rfl, rfl, rfl, hx.ended⟩⟩, hM.blk hH (by simpa using hbp)⟩, hM.mono (by simp)⟩
end

section
variable {w : World} {p b : Nat} {room f : Int}

theorem DoneAt.bp (h : DoneAt w p b room f) : b ≠ p := by
  obtain ⟨⟨x, hX, hx⟩, hH⟩ := h
  exact hH.ne hX (by decide)

theorem done_state (h : DoneAt w p b room f) :
    Calls Try.prog 12 #[.pointer (some ⟨p, 0, none⟩)] w fun e w' => e = .returned (.int .i64 0) ∧ w = w' := by
  obtain ⟨⟨x, hX, hx⟩, hH⟩ := h
  refine (state_spec p w x hX).mono ?_
  rintro e w' ⟨rfl, hw⟩
  exact ⟨by rw [hx.state], hw⟩
theorem done_next (h : DoneAt w p b room f) :
    Calls Try.prog 10 #[.pointer (some ⟨p, 0, none⟩)] w fun e w' => e = .returned (.tuple #[.int .i64 0, .bool false]) ∧ DoneAt w' p b room f ∧ Mod [p] w w' := by
  have h' := h
  obtain ⟨⟨x, hX, hx⟩, hH⟩ := h
  refine (next_none p w x hX hx.user hx.wait hx.again hx.probe).mono ?_
  rintro e w' ⟨rfl, hM⟩
  exact ⟨rfl, h'.mod hM (by simp) (by simp), hM.mono (by simp)⟩
theorem done_send1 (h : DoneAt w p b room 222) (now : Int) (v : Value) (hn : now ≤ 1099511627776) :
    Calls Try.prog 13 #[.pointer (some ⟨p, 0, none⟩), .int .i64 now, v] w fun e w' => e = .returned (.tuple #[.int .i64 0, .int .i64 222]) ∧ DoneAt w' p b room 0 ∧ Mod [p] w w' := by
  have hbp := h.bp
  obtain ⟨⟨x, hX, hx⟩, hH⟩ := h
  refine (send_fault p w x hX now 222 v hn hx.fault (by decide)).mono ?_
  rintro e w' ⟨rfl, hX', hM⟩
  exact ⟨rfl, ⟨⟨_, hX', ⟨hx.state, rfl, hx.inn, hx.user, hx.wait, hx.probe, hx.again, hx.ended⟩⟩, hM.blk hH (by simpa using hbp)⟩, hM⟩
theorem done_send2 (h : DoneAt w p b room 0) (now : Int) (v : Value) (hn : now ≤ 1099511627776) :
    Calls Try.prog 13 #[.pointer (some ⟨p, 0, none⟩), .int .i64 now, v] w fun e w' => e = .returned (.tuple #[.int .i64 0, .int .i64 223]) ∧ DoneAt w' p b room 0 ∧ Mod [p] w w' := by
  have hbp := h.bp
  obtain ⟨⟨x, hX, hx⟩, hH⟩ := h
  refine (send_closed p w x hX now v hn hx.fault hx.state).mono ?_
  rintro e w' ⟨rfl, hX', hM⟩
  exact ⟨rfl, ⟨⟨_, hX', ⟨hx.state, rfl, hx.inn, hx.user, hx.wait, hx.probe, hx.again, hx.ended⟩⟩, hM.blk hH (by simpa using hbp)⟩, hM⟩
theorem done_recv (h : DoneAt w p b room 0) (now : Int) (hn : now ≤ 1099511627776) :
    Calls Try.prog 14 #[.pointer (some ⟨p, 0, none⟩), .int .i64 now, .int .i64 1] w fun e w' => e = .returned (.tuple #[.slice none 0 0, .bool false, .int .i64 225]) ∧ DoneAt w' p b room 0 ∧ Mod [p] w w' := by
  have hbp := h.bp
  obtain ⟨⟨x, hX, hx⟩, hH⟩ := h
  refine (recv_closed p b w x hX now hn hx.fault hx.state hx.ended hx.inn room _ 0 0 0 hH).mono ?_
  rintro e w' ⟨rfl, hX', hM⟩
  exact ⟨rfl, ⟨⟨_, hX', ⟨hx.state, rfl, hx.inn, hx.user, hx.wait, hx.probe, hx.again, hx.ended⟩⟩, hM.blk hH (by simpa using hbp)⟩, hM⟩
theorem done_shut (h : DoneAt w p b room f) (now : Int) :
    Calls Try.prog 15 #[.pointer (some ⟨p, 0, none⟩), .int .i64 now] w fun e w' => e = .returned (.int .i64 225) ∧ w = w' := by
  obtain ⟨⟨x, hX, hx⟩, hH⟩ := h
  exact shut_closed p w x hX now hx.state
end

end Go.Proofs.Ytpomnnfabpbmiaa
