import Derived.Test.YtpomnnfabpbmiaaGreatFns1
namespace Go.Proofs.YtpomnnfabpbmiaaGreat
open Go.RowKit
set_option linter.unusedVariables false
theorem top_open (iss : Int) (i0 : 0 ≤ iss) (i1 : iss < 4294967296) : smax iss (sadd iss 1) = sadd iss 1 := by
  unfold smax
  rw [if_pos]
  unfold sdiff sadd wrap32
  omega
theorem right_iff (iss ack : Int) (i0 : 0 ≤ iss) (i1 : iss < 4294967296) (a0 : 0 ≤ ack) (a1 : ack < 4294967296) : (sdiff ack iss ≤ 0 ∨ 0 < sdiff ack (sadd iss 1)) ↔ ack ≠ sadd iss 1 := by
  unfold sdiff sadd wrap32
  omega
end Go.Proofs.YtpomnnfabpbmiaaGreat
