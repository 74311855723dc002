import Derived.Test.YtpomnnfabpbmiaaGreatBase
namespace Go.Proofs.YtpomnnfabpbmiaaGreat
open Go.RowKit

structure Cfg where
  mss : Int
  snd : Int
  rcv : Int
  least : Int
  most : Int
  first : Int
  tries : Int
  msl : Int
  user : Int

def Cfg.vals (c : Cfg) : List Value := [.int .i64 c.mss, .int .i64 c.snd, .int .i64 c.rcv, .int .i64 c.least, .int .i64 c.most, .int .i64 c.first, .int .i64 c.tries, .int .i64 c.msl, .int .i64 c.user]

structure Cfg.ok (c : Cfg) : Prop where
  m1 : 88 ≤ c.mss
  m2 : c.mss ≤ 65455
  s1 : 1 ≤ c.snd
  s2 : c.snd ≤ 1048576
  r1 : 1 ≤ c.rcv
  r2 : c.rcv ≤ 1048576
  l1 : 1 ≤ c.least
  l2 : c.least ≤ c.first
  l3 : c.first ≤ c.most
  l4 : c.most ≤ 1048576
  t1 : 1 ≤ c.tries
  t2 : c.tries ≤ 30
  n1 : 1 ≤ c.msl
  n2 : c.msl ≤ 1048576
  u1 : 1 ≤ c.user
  u2 : c.user ≤ 1048576

/-- (a post behind a name) -/
def BoolIs (P : Prop) (w : World) (e : Ending) (w' : World) : Prop := ∃ b : Bool, e = .returned (.bool b) ∧ (b = true ↔ P) ∧ w = w'

set_option maxHeartbeats 400000 in
theorem within_spec (n lo hi : Int) (w : World) : Calls Tryz.prog 91 #[.int .i64 n, .int .i64 lo, .int .i64 hi] w (BoolIs (lo ≤ n ∧ n ≤ hi) w) := by
  by_cases h1 : lo ≤ n
  · by_cases h2 : n ≤ hi
    · go_enter Tryz.func91, Tryz.ntmps91
      go_wp2
      go_ret
      exact ⟨_, rfl, by simp [h1, h2], rfl⟩
    · go_enter Tryz.func91, Tryz.ntmps91
      go_wp2
      go_ret
      exact ⟨_, rfl, by simp; omega, rfl⟩
  · go_enter Tryz.func91, Tryz.ntmps91
    go_wp2
    go_ret
    exact ⟨_, rfl, by simp; omega, rfl⟩

/-- rto.New -/
def RtoNew (least most first : Int) (w : World) (e : Ending) (w' : World) : Prop :=
  ∃ (p : Option Addr) (r : Int), e = .returned (.tuple #[.pointer p, .int .i64 r]) ∧
    ((r = 1 ∧ ¬ (1 ≤ least ∧ least ≤ first ∧ first ≤ most ∧ most ≤ 1073741824) ∧ w = w') ∨
     (r = 0 ∧ (1 ≤ least ∧ least ≤ first ∧ first ≤ most ∧ most ≤ 1073741824) ∧ p = some ⟨w.heap.size, 0, none⟩ ∧
       w.alloc (.cells #[.int .i64 least, .int .i64 most, .int .i64 0, .int .i64 0, .bool false, .int .i64 first, .int .i64 0] 113) = w'))

set_option maxHeartbeats 400000 in
theorem rtoNew_spec (least most first : Int) (w : World) : Calls Tryz.prog 63 #[.int .i64 least, .int .i64 most, .int .i64 first] w (RtoNew least most first w) := by
  by_cases h1 : 1 ≤ least
  · by_cases h2 : least ≤ first
    · by_cases h3 : first ≤ most
      · by_cases h4 : most ≤ 1073741824
        · go_enter Tryz.func63, Tryz.ntmps63
          go_wp2
          go_ret2
          exact ⟨_, _, rfl, .inr ⟨rfl, ⟨h1, h2, h3, h4⟩, rfl, rfl⟩⟩
        · go_enter Tryz.func63, Tryz.ntmps63
          go_wp2
          go_ret2
          exact ⟨_, _, rfl, .inl ⟨rfl, by omega, rfl⟩⟩
      · go_enter Tryz.func63, Tryz.ntmps63
        go_wp2
        go_ret2
        exact ⟨_, _, rfl, .inl ⟨rfl, by omega, rfl⟩⟩
    · go_enter Tryz.func63, Tryz.ntmps63
      go_wp2
      go_ret2
      exact ⟨_, _, rfl, .inl ⟨rfl, by omega, rfl⟩⟩
  · go_enter Tryz.func63, Tryz.ntmps63
    go_wp2
    go_ret2
    exact ⟨_, _, rfl, .inl ⟨rfl, by omega, rfl⟩⟩

end Go.Proofs.YtpomnnfabpbmiaaGreat
