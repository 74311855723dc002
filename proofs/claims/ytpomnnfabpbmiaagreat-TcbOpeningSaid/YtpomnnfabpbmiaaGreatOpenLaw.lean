import Derived.Test.YtpomnnfabpbmiaaGreatTold
import Derived.Test.YtpomnnfabpbmiaaGreatRChk2
import Derived.Test.YtpomnnfabpbmiaaGreatLive
import Derived.Test.YtpomnnfabpbmiaaGreatCodeQuad
import Derived.Test.YtpomnnfabpbmiaaGreatOpen
import Derived.Deep.DeepCutAuto
namespace Go.Proofs.YtpomnnfabpbmiaaGreat
open Go.RowKit
set_option linter.unusedVariables false

/-- both answer the same -/
theorem open_both (iss : Int) (src dst seq ack fl win mss scale : Int) (a : Option Addr) (n cap : Nat) (i0 : 0 ≤ iss) (i1 : iss < 4294967296) (a0 : 0 ≤ ack) (a1 : ack < 4294967296) (hs0 : 0 ≤ scale) (hs1 : scale ≤ 15) (hm0 : 0 ≤ mss) (hm1 : mss ≤ 65535) :
    ∃ st ft fl' at_ : Int, (∀ (c : Cfg) (w : World) (p b s r : Nat) (x : Conn), c.ok → SynPre w p b s r c iss x → Calls Tryz.prog 11 #[.pointer (some ⟨p, 0, none⟩), .int .i64 0, .agg #[.int .u16 src, .int .u16 dst, .int .u32 seq, .int .u32 ack, .int .u8 fl, .int .u16 win, .int .i64 mss, .int .i64 scale, .slice a n cap]] w fun e w' => e = .returned (.tuple #[]) ∧ Told w p b s seq st ft fl' at_ w') ∧
      (∀ w, Calls Tryz.prog 12 #[.int .u32 iss, .agg #[.int .u16 src, .int .u16 dst, .int .u32 seq, .int .u32 ack, .int .u8 fl, .int .u16 win, .int .i64 mss, .int .i64 scale, .slice a n cap]] w fun e w' => e = .returned (.tuple #[.int .i64 st, .int .i64 ft, .int .i64 fl', .int .u32 at_]) ∧ Mod [] w w') ∧ 0 ≤ fl' ∧ fl' ≤ 255 := by
  cases bA : (bits BinOp.and .u8 fl 16 != 0) with
  | true =>
    cases hr : (ack == sadd iss 1) with
    | false =>
      cases bR : (bits BinOp.and .u8 fl 4 != 0) with
      | true => exact ⟨1, 0, 0, 0, fun c w p b s r x hc h => told_bad0 w p b s r c iss x h src dst seq ack fl win mss scale a n cap i0 i1 a0 a1 hc hs0 hs1 hm0 hm1 bA bR hr, fun w => ropen_bad0 w iss src dst seq ack fl win mss scale a n cap i0 i1 bA bR hr, by decide, by decide⟩
      | false => exact ⟨1, 0, 4, ack, fun c w p b s r x hc h => told_bad4 w p b s r c iss x h src dst seq ack fl win mss scale a n cap i0 i1 a0 a1 hc hs0 hs1 hm0 hm1 bA bR hr, fun w => ropen_bad4 w iss src dst seq ack fl win mss scale a n cap i0 i1 bA bR hr, by decide, by decide⟩
    | true =>
      cases bR : (bits BinOp.and .u8 fl 4 != 0) with
      | true => exact ⟨0, 220, 0, 0, fun c w p b s r x hc h => told_refused w p b s r c iss x h src dst seq ack fl win mss scale a n cap i0 i1 a0 a1 hc hs0 hs1 hm0 hm1 bA bR hr, fun w => ropen_refused w iss src dst seq ack fl win mss scale a n cap i0 i1 bA bR hr, by decide, by decide⟩
      | false =>
        cases bS : (bits BinOp.and .u8 fl 2 != 0) with
        | true => exact ⟨3, 0, 16, sadd iss 1, fun c w p b s r x hc h => told_estab w p b s r c iss x h src dst seq ack fl win mss scale a n cap i0 i1 a0 a1 hc hs0 hs1 hm0 hm1 bA bR hr bS, fun w => ropen_estab w iss src dst seq ack fl win mss scale a n cap i0 i1 bA bR hr bS, by decide, by decide⟩
        | false => exact ⟨1, 0, 0, 0, fun c w p b s r x hc h => told_none5 w p b s r c iss x h src dst seq ack fl win mss scale a n cap i0 i1 a0 a1 hc hs0 hs1 hm0 hm1 bA bR hr bS, fun w => ropen_none5 w iss src dst seq ack fl win mss scale a n cap i0 i1 bA bR hr bS, by decide, by decide⟩
  | false =>
    cases bR : (bits BinOp.and .u8 fl 4 != 0) with
    | true => exact ⟨1, 0, 0, 0, fun c w p b s r x hc h => told_none3 w p b s r c iss x h src dst seq ack fl win mss scale a n cap i0 i1 a0 a1 hc hs0 hs1 hm0 hm1 bA bR, fun w => ropen_none3 w iss src dst seq ack fl win mss scale a n cap i0 i1 bA bR, by decide, by decide⟩
    | false =>
      cases bS : (bits BinOp.and .u8 fl 2 != 0) with
      | true => exact ⟨2, 0, 18, iss, fun c w p b s r x hc h => told_rcvd w p b s r c iss x h src dst seq ack fl win mss scale a n cap i0 i1 a0 a1 hc hs0 hs1 hm0 hm1 bA bR bS, fun w => ropen_rcvd w iss src dst seq ack fl win mss scale a n cap i0 i1 bA bR bS, by decide, by decide⟩
      | false => exact ⟨1, 0, 0, 0, fun c w p b s r x hc h => told_none4 w p b s r c iss x h src dst seq ack fl win mss scale a n cap i0 i1 a0 a1 hc hs0 hs1 hm0 hm1 bA bR bS, fun w => ropen_none4 w iss src dst seq ack fl win mss scale a n cap i0 i1 bA bR bS, by decide, by decide⟩

end Go.Proofs.YtpomnnfabpbmiaaGreat
