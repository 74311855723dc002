import Derived.Test.YtpomnnfabpbmiaaGreatHello
namespace Go.Proofs.YtpomnnfabpbmiaaGreat
open Go.RowKit

set_option maxRecDepth 100000 in
/-- &Conn{..}, as made has it -/
theorem run_build_conn (w : World) (a0 a1 a2 a3 a4 a5 a6 a7 a8 la lp ra rp now iss mss : Int) :
    (Instr.build 76 #[(0, .agg #[.int .i64 a0, .int .i64 a1, .int .i64 a2, .int .i64 a3, .int .i64 a4, .int .i64 a5, .int .i64 a6, .int .i64 a7, .int .i64 a8]), (1, .agg #[.int .u32 la, .int .u16 lp, .int .u32 ra, .int .u16 rp]),
      (3, .int .i64 now), (7, .int .u32 iss), (8, .int .u32 iss), (9, .int .u32 iss), (10, .int .u32 iss), (16, .int .i64 mss)]).run Tryz.prog w =
    .ok (.agg #[.int .i64 a0, .int .i64 a1, .int .i64 a2, .int .i64 a3, .int .i64 a4, .int .i64 a5, .int .i64 a6, .int .i64 a7, .int .i64 a8, .int .u32 la, .int .u16 lp, .int .u32 ra, .int .u16 rp, .int .i64 0, .int .i64 now, .int .i64 0, .bool false, .slice none 0 0, .int .u32 iss, .int .u32 iss, .int .u32 iss, .int .u32 iss, .pointer none, .bool false, .int .i64 0, .int .u32 0, .int .u32 0, .int .i64 mss, .int .i64 0, .int .i64 0, .bool false, .pointer none, .pointer none, .bool false, .int .u32 0, .int .i64 0, .int .i64 0, .int .u32 0, .int .u32 0, .pointer none, .pointer none, .bool false, .int .u32 0, .bool false, .int .i64 0, .bool false, .int .i64 0, .bool false, .int .i64 0, .bool false, .int .i64 0, .bool false]) w := by
  kernel_rfl

theorem wpList_build_conn {ops : Array Oper} {Q : Exit → Act → World → Prop} {rest : List Oper} {a : Act} {w : World} {d : Option Tmp} {ty : TypeId} {ps : String} {af : Array Edge} {o0 o1 o3 o7 o8 o9 o10 o16 : Operand}
    {a0 a1 a2 a3 a4 a5 a6 a7 a8 la lp ra rp now iss mss : Int}
    (h0 : a.eval o0 = .agg #[.int .i64 a0, .int .i64 a1, .int .i64 a2, .int .i64 a3, .int .i64 a4, .int .i64 a5, .int .i64 a6, .int .i64 a7, .int .i64 a8])
    (h1 : a.eval o1 = .agg #[.int .u32 la, .int .u16 lp, .int .u32 ra, .int .u16 rp]) (h3 : a.eval o3 = .int .i64 now) (h7 : a.eval o7 = .int .u32 iss) (h8 : a.eval o8 = .int .u32 iss) (h9 : a.eval o9 = .int .u32 iss) (h10 : a.eval o10 = .int .u32 iss) (h16 : a.eval o16 = .int .i64 mss)
    (hK : wpList Tryz.prog ops Q rest (a.put d (.agg #[.int .i64 a0, .int .i64 a1, .int .i64 a2, .int .i64 a3, .int .i64 a4, .int .i64 a5, .int .i64 a6, .int .i64 a7, .int .i64 a8, .int .u32 la, .int .u16 lp, .int .u32 ra, .int .u16 rp, .int .i64 0, .int .i64 now, .int .i64 0, .bool false, .slice none 0 0, .int .u32 iss, .int .u32 iss, .int .u32 iss, .int .u32 iss, .pointer none, .bool false, .int .i64 0, .int .u32 0, .int .u32 0, .int .i64 mss, .int .i64 0, .int .i64 0, .bool false, .pointer none, .pointer none, .bool false, .int .u32 0, .int .i64 0, .int .i64 0, .int .u32 0, .int .u32 0, .pointer none, .pointer none, .bool false, .int .u32 0, .bool false, .int .i64 0, .bool false, .int .i64 0, .bool false, .int .i64 0, .bool false, .int .i64 0, .bool false])) w) :
    wpList Tryz.prog ops Q ({ dst := d, op := Op.build 76 #[(0, o0), (1, o1), (3, o3), (7, o7), (8, o8), (9, o9), (10, o10), (16, o16)], type := ty, pos := ps, after := af, guard := none } :: rest) a w := by
  refine wpList_plain rfl fun K hK' => ?_
  have r := run_build_conn w a0 a1 a2 a3 a4 a5 a6 a7 a8 la lp ra rp now iss mss
  unfold Oper.wp
  simp only [execOp, List.map_toArray, List.map_cons, List.map_nil, h0, h1, h3, h7, h8, h9, h10, h16, Sem.run_bind, r, Result.andThen, Sem.run_pure]
  rw [Oper.upon_value]
  exact hK' _ _ hK

end Go.Proofs.YtpomnnfabpbmiaaGreat
