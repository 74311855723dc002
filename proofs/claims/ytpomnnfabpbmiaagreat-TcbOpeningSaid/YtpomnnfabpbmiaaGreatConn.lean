import Derived.Test.YtpomnnfabpbmiaaGreatChk2
namespace Go.Proofs.YtpomnnfabpbmiaaGreat
open Go.RowKit

/-- One end of a connection, as its cells hold it. -/
structure Conn where
  cmss : Int
  csnd : Int
  crcv : Int
  cleast : Int
  cmost : Int
  cfirst : Int
  ctries : Int
  cmsl : Int
  cuser : Int
  la : Int
  lp : Int
  ra : Int
  rp : Int
  state : Int
  now : Int
  fault : Int
  left : Bool
  out : Value
  iss : Int
  una : Int
  nxt : Int
  top : Int
  snd : Value
  shut : Bool
  peer : Int
  wl1 : Int
  wl2 : Int
  mss : Int
  shiftOut : Int
  shiftIn : Int
  scaled : Bool
  cong : Value
  rto : Value
  timed : Bool
  timedSeq : Int
  timedAt : Int
  tries : Int
  irs : Int
  rcv : Int
  inn : Value
  early : Value
  fin : Bool
  finAt : Int
  ended : Bool
  againAt : Int
  again : Bool
  probeAt : Int
  probe : Bool
  waitAt : Int
  wait : Bool
  userAt : Int
  user : Bool

def Conn.cells (x : Conn) : List Value :=
  [.int .i64 x.cmss, .int .i64 x.csnd, .int .i64 x.crcv, .int .i64 x.cleast, .int .i64 x.cmost, .int .i64 x.cfirst, .int .i64 x.ctries, .int .i64 x.cmsl, .int .i64 x.cuser, .int .u32 x.la, .int .u16 x.lp, .int .u32 x.ra, .int .u16 x.rp, .int .i64 x.state, .int .i64 x.now, .int .i64 x.fault, .bool x.left, x.out, .int .u32 x.iss, .int .u32 x.una, .int .u32 x.nxt, .int .u32 x.top, x.snd, .bool x.shut, .int .i64 x.peer, .int .u32 x.wl1, .int .u32 x.wl2, .int .i64 x.mss, .int .i64 x.shiftOut, .int .i64 x.shiftIn, .bool x.scaled, x.cong, x.rto, .bool x.timed, .int .u32 x.timedSeq, .int .i64 x.timedAt, .int .i64 x.tries, .int .u32 x.irs, .int .u32 x.rcv, x.inn, x.early, .bool x.fin, .int .u32 x.finAt, .bool x.ended, .int .i64 x.againAt, .bool x.again, .int .i64 x.probeAt, .bool x.probe, .int .i64 x.waitAt, .bool x.wait, .int .i64 x.userAt, .bool x.user]

/-- Block p of w is the connection x. -/
def ConnAt (w : World) (p : Nat) (x : Conn) : Prop := Blk w p 76 x.cells

theorem ConnAt.cmss {w : World} {p : Nat} {x : Conn} (h : ConnAt w p x) : w.cell? ⟨p, 0, none⟩ = some (.int .i64 x.cmss) := h.cell 0
theorem ConnAt.csnd {w : World} {p : Nat} {x : Conn} (h : ConnAt w p x) : w.cell? ⟨p, 1, none⟩ = some (.int .i64 x.csnd) := h.cell 1
theorem ConnAt.crcv {w : World} {p : Nat} {x : Conn} (h : ConnAt w p x) : w.cell? ⟨p, 2, none⟩ = some (.int .i64 x.crcv) := h.cell 2
theorem ConnAt.cleast {w : World} {p : Nat} {x : Conn} (h : ConnAt w p x) : w.cell? ⟨p, 3, none⟩ = some (.int .i64 x.cleast) := h.cell 3
theorem ConnAt.cmost {w : World} {p : Nat} {x : Conn} (h : ConnAt w p x) : w.cell? ⟨p, 4, none⟩ = some (.int .i64 x.cmost) := h.cell 4
theorem ConnAt.cfirst {w : World} {p : Nat} {x : Conn} (h : ConnAt w p x) : w.cell? ⟨p, 5, none⟩ = some (.int .i64 x.cfirst) := h.cell 5
theorem ConnAt.ctries {w : World} {p : Nat} {x : Conn} (h : ConnAt w p x) : w.cell? ⟨p, 6, none⟩ = some (.int .i64 x.ctries) := h.cell 6
theorem ConnAt.cmsl {w : World} {p : Nat} {x : Conn} (h : ConnAt w p x) : w.cell? ⟨p, 7, none⟩ = some (.int .i64 x.cmsl) := h.cell 7
theorem ConnAt.cuser {w : World} {p : Nat} {x : Conn} (h : ConnAt w p x) : w.cell? ⟨p, 8, none⟩ = some (.int .i64 x.cuser) := h.cell 8
theorem ConnAt.la {w : World} {p : Nat} {x : Conn} (h : ConnAt w p x) : w.cell? ⟨p, 9, none⟩ = some (.int .u32 x.la) := h.cell 9
theorem ConnAt.lp {w : World} {p : Nat} {x : Conn} (h : ConnAt w p x) : w.cell? ⟨p, 10, none⟩ = some (.int .u16 x.lp) := h.cell 10
theorem ConnAt.ra {w : World} {p : Nat} {x : Conn} (h : ConnAt w p x) : w.cell? ⟨p, 11, none⟩ = some (.int .u32 x.ra) := h.cell 11
theorem ConnAt.rp {w : World} {p : Nat} {x : Conn} (h : ConnAt w p x) : w.cell? ⟨p, 12, none⟩ = some (.int .u16 x.rp) := h.cell 12
theorem ConnAt.state {w : World} {p : Nat} {x : Conn} (h : ConnAt w p x) : w.cell? ⟨p, 13, none⟩ = some (.int .i64 x.state) := h.cell 13
theorem ConnAt.now {w : World} {p : Nat} {x : Conn} (h : ConnAt w p x) : w.cell? ⟨p, 14, none⟩ = some (.int .i64 x.now) := h.cell 14
theorem ConnAt.fault {w : World} {p : Nat} {x : Conn} (h : ConnAt w p x) : w.cell? ⟨p, 15, none⟩ = some (.int .i64 x.fault) := h.cell 15
theorem ConnAt.left {w : World} {p : Nat} {x : Conn} (h : ConnAt w p x) : w.cell? ⟨p, 16, none⟩ = some (.bool x.left) := h.cell 16
theorem ConnAt.out {w : World} {p : Nat} {x : Conn} (h : ConnAt w p x) : w.cell? ⟨p, 17, none⟩ = some (x.out) := h.cell 17
theorem ConnAt.iss {w : World} {p : Nat} {x : Conn} (h : ConnAt w p x) : w.cell? ⟨p, 18, none⟩ = some (.int .u32 x.iss) := h.cell 18
theorem ConnAt.una {w : World} {p : Nat} {x : Conn} (h : ConnAt w p x) : w.cell? ⟨p, 19, none⟩ = some (.int .u32 x.una) := h.cell 19
theorem ConnAt.nxt {w : World} {p : Nat} {x : Conn} (h : ConnAt w p x) : w.cell? ⟨p, 20, none⟩ = some (.int .u32 x.nxt) := h.cell 20
theorem ConnAt.top {w : World} {p : Nat} {x : Conn} (h : ConnAt w p x) : w.cell? ⟨p, 21, none⟩ = some (.int .u32 x.top) := h.cell 21
theorem ConnAt.snd {w : World} {p : Nat} {x : Conn} (h : ConnAt w p x) : w.cell? ⟨p, 22, none⟩ = some (x.snd) := h.cell 22
theorem ConnAt.shut {w : World} {p : Nat} {x : Conn} (h : ConnAt w p x) : w.cell? ⟨p, 23, none⟩ = some (.bool x.shut) := h.cell 23
theorem ConnAt.peer {w : World} {p : Nat} {x : Conn} (h : ConnAt w p x) : w.cell? ⟨p, 24, none⟩ = some (.int .i64 x.peer) := h.cell 24
theorem ConnAt.wl1 {w : World} {p : Nat} {x : Conn} (h : ConnAt w p x) : w.cell? ⟨p, 25, none⟩ = some (.int .u32 x.wl1) := h.cell 25
theorem ConnAt.wl2 {w : World} {p : Nat} {x : Conn} (h : ConnAt w p x) : w.cell? ⟨p, 26, none⟩ = some (.int .u32 x.wl2) := h.cell 26
theorem ConnAt.mss {w : World} {p : Nat} {x : Conn} (h : ConnAt w p x) : w.cell? ⟨p, 27, none⟩ = some (.int .i64 x.mss) := h.cell 27
theorem ConnAt.shiftOut {w : World} {p : Nat} {x : Conn} (h : ConnAt w p x) : w.cell? ⟨p, 28, none⟩ = some (.int .i64 x.shiftOut) := h.cell 28
theorem ConnAt.shiftIn {w : World} {p : Nat} {x : Conn} (h : ConnAt w p x) : w.cell? ⟨p, 29, none⟩ = some (.int .i64 x.shiftIn) := h.cell 29
theorem ConnAt.scaled {w : World} {p : Nat} {x : Conn} (h : ConnAt w p x) : w.cell? ⟨p, 30, none⟩ = some (.bool x.scaled) := h.cell 30
theorem ConnAt.cong {w : World} {p : Nat} {x : Conn} (h : ConnAt w p x) : w.cell? ⟨p, 31, none⟩ = some (x.cong) := h.cell 31
theorem ConnAt.rto {w : World} {p : Nat} {x : Conn} (h : ConnAt w p x) : w.cell? ⟨p, 32, none⟩ = some (x.rto) := h.cell 32
theorem ConnAt.timed {w : World} {p : Nat} {x : Conn} (h : ConnAt w p x) : w.cell? ⟨p, 33, none⟩ = some (.bool x.timed) := h.cell 33
theorem ConnAt.timedSeq {w : World} {p : Nat} {x : Conn} (h : ConnAt w p x) : w.cell? ⟨p, 34, none⟩ = some (.int .u32 x.timedSeq) := h.cell 34
theorem ConnAt.timedAt {w : World} {p : Nat} {x : Conn} (h : ConnAt w p x) : w.cell? ⟨p, 35, none⟩ = some (.int .i64 x.timedAt) := h.cell 35
theorem ConnAt.tries {w : World} {p : Nat} {x : Conn} (h : ConnAt w p x) : w.cell? ⟨p, 36, none⟩ = some (.int .i64 x.tries) := h.cell 36
theorem ConnAt.irs {w : World} {p : Nat} {x : Conn} (h : ConnAt w p x) : w.cell? ⟨p, 37, none⟩ = some (.int .u32 x.irs) := h.cell 37
theorem ConnAt.rcv {w : World} {p : Nat} {x : Conn} (h : ConnAt w p x) : w.cell? ⟨p, 38, none⟩ = some (.int .u32 x.rcv) := h.cell 38
theorem ConnAt.inn {w : World} {p : Nat} {x : Conn} (h : ConnAt w p x) : w.cell? ⟨p, 39, none⟩ = some (x.inn) := h.cell 39
theorem ConnAt.early {w : World} {p : Nat} {x : Conn} (h : ConnAt w p x) : w.cell? ⟨p, 40, none⟩ = some (x.early) := h.cell 40
theorem ConnAt.fin {w : World} {p : Nat} {x : Conn} (h : ConnAt w p x) : w.cell? ⟨p, 41, none⟩ = some (.bool x.fin) := h.cell 41
theorem ConnAt.finAt {w : World} {p : Nat} {x : Conn} (h : ConnAt w p x) : w.cell? ⟨p, 42, none⟩ = some (.int .u32 x.finAt) := h.cell 42
theorem ConnAt.ended {w : World} {p : Nat} {x : Conn} (h : ConnAt w p x) : w.cell? ⟨p, 43, none⟩ = some (.bool x.ended) := h.cell 43
theorem ConnAt.againAt {w : World} {p : Nat} {x : Conn} (h : ConnAt w p x) : w.cell? ⟨p, 44, none⟩ = some (.int .i64 x.againAt) := h.cell 44
theorem ConnAt.again {w : World} {p : Nat} {x : Conn} (h : ConnAt w p x) : w.cell? ⟨p, 45, none⟩ = some (.bool x.again) := h.cell 45
theorem ConnAt.probeAt {w : World} {p : Nat} {x : Conn} (h : ConnAt w p x) : w.cell? ⟨p, 46, none⟩ = some (.int .i64 x.probeAt) := h.cell 46
theorem ConnAt.probe {w : World} {p : Nat} {x : Conn} (h : ConnAt w p x) : w.cell? ⟨p, 47, none⟩ = some (.bool x.probe) := h.cell 47
theorem ConnAt.waitAt {w : World} {p : Nat} {x : Conn} (h : ConnAt w p x) : w.cell? ⟨p, 48, none⟩ = some (.int .i64 x.waitAt) := h.cell 48
theorem ConnAt.wait {w : World} {p : Nat} {x : Conn} (h : ConnAt w p x) : w.cell? ⟨p, 49, none⟩ = some (.bool x.wait) := h.cell 49
theorem ConnAt.userAt {w : World} {p : Nat} {x : Conn} (h : ConnAt w p x) : w.cell? ⟨p, 50, none⟩ = some (.int .i64 x.userAt) := h.cell 50
theorem ConnAt.user {w : World} {p : Nat} {x : Conn} (h : ConnAt w p x) : w.cell? ⟨p, 51, none⟩ = some (.bool x.user) := h.cell 51

theorem ConnAt.set_cmss {w : World} {p : Nat} {x : Conn} (h : ConnAt w p x) (v : Int) : ConnAt (w.setCell ⟨p, 0, none⟩ (.int .i64 v)) p { x with cmss := v } := h.set 0 _
theorem ConnAt.set_csnd {w : World} {p : Nat} {x : Conn} (h : ConnAt w p x) (v : Int) : ConnAt (w.setCell ⟨p, 1, none⟩ (.int .i64 v)) p { x with csnd := v } := h.set 1 _
theorem ConnAt.set_crcv {w : World} {p : Nat} {x : Conn} (h : ConnAt w p x) (v : Int) : ConnAt (w.setCell ⟨p, 2, none⟩ (.int .i64 v)) p { x with crcv := v } := h.set 2 _
theorem ConnAt.set_cleast {w : World} {p : Nat} {x : Conn} (h : ConnAt w p x) (v : Int) : ConnAt (w.setCell ⟨p, 3, none⟩ (.int .i64 v)) p { x with cleast := v } := h.set 3 _
theorem ConnAt.set_cmost {w : World} {p : Nat} {x : Conn} (h : ConnAt w p x) (v : Int) : ConnAt (w.setCell ⟨p, 4, none⟩ (.int .i64 v)) p { x with cmost := v } := h.set 4 _
theorem ConnAt.set_cfirst {w : World} {p : Nat} {x : Conn} (h : ConnAt w p x) (v : Int) : ConnAt (w.setCell ⟨p, 5, none⟩ (.int .i64 v)) p { x with cfirst := v } := h.set 5 _
theorem ConnAt.set_ctries {w : World} {p : Nat} {x : Conn} (h : ConnAt w p x) (v : Int) : ConnAt (w.setCell ⟨p, 6, none⟩ (.int .i64 v)) p { x with ctries := v } := h.set 6 _
theorem ConnAt.set_cmsl {w : World} {p : Nat} {x : Conn} (h : ConnAt w p x) (v : Int) : ConnAt (w.setCell ⟨p, 7, none⟩ (.int .i64 v)) p { x with cmsl := v } := h.set 7 _
theorem ConnAt.set_cuser {w : World} {p : Nat} {x : Conn} (h : ConnAt w p x) (v : Int) : ConnAt (w.setCell ⟨p, 8, none⟩ (.int .i64 v)) p { x with cuser := v } := h.set 8 _
theorem ConnAt.set_la {w : World} {p : Nat} {x : Conn} (h : ConnAt w p x) (v : Int) : ConnAt (w.setCell ⟨p, 9, none⟩ (.int .u32 v)) p { x with la := v } := h.set 9 _
theorem ConnAt.set_lp {w : World} {p : Nat} {x : Conn} (h : ConnAt w p x) (v : Int) : ConnAt (w.setCell ⟨p, 10, none⟩ (.int .u16 v)) p { x with lp := v } := h.set 10 _
theorem ConnAt.set_ra {w : World} {p : Nat} {x : Conn} (h : ConnAt w p x) (v : Int) : ConnAt (w.setCell ⟨p, 11, none⟩ (.int .u32 v)) p { x with ra := v } := h.set 11 _
theorem ConnAt.set_rp {w : World} {p : Nat} {x : Conn} (h : ConnAt w p x) (v : Int) : ConnAt (w.setCell ⟨p, 12, none⟩ (.int .u16 v)) p { x with rp := v } := h.set 12 _
theorem ConnAt.set_state {w : World} {p : Nat} {x : Conn} (h : ConnAt w p x) (v : Int) : ConnAt (w.setCell ⟨p, 13, none⟩ (.int .i64 v)) p { x with state := v } := h.set 13 _
theorem ConnAt.set_now {w : World} {p : Nat} {x : Conn} (h : ConnAt w p x) (v : Int) : ConnAt (w.setCell ⟨p, 14, none⟩ (.int .i64 v)) p { x with now := v } := h.set 14 _
theorem ConnAt.set_fault {w : World} {p : Nat} {x : Conn} (h : ConnAt w p x) (v : Int) : ConnAt (w.setCell ⟨p, 15, none⟩ (.int .i64 v)) p { x with fault := v } := h.set 15 _
theorem ConnAt.set_left {w : World} {p : Nat} {x : Conn} (h : ConnAt w p x) (v : Bool) : ConnAt (w.setCell ⟨p, 16, none⟩ (.bool v)) p { x with left := v } := h.set 16 _
theorem ConnAt.set_out {w : World} {p : Nat} {x : Conn} (h : ConnAt w p x) (v : Value) : ConnAt (w.setCell ⟨p, 17, none⟩ (v)) p { x with out := v } := h.set 17 _
theorem ConnAt.set_iss {w : World} {p : Nat} {x : Conn} (h : ConnAt w p x) (v : Int) : ConnAt (w.setCell ⟨p, 18, none⟩ (.int .u32 v)) p { x with iss := v } := h.set 18 _
theorem ConnAt.set_una {w : World} {p : Nat} {x : Conn} (h : ConnAt w p x) (v : Int) : ConnAt (w.setCell ⟨p, 19, none⟩ (.int .u32 v)) p { x with una := v } := h.set 19 _
theorem ConnAt.set_nxt {w : World} {p : Nat} {x : Conn} (h : ConnAt w p x) (v : Int) : ConnAt (w.setCell ⟨p, 20, none⟩ (.int .u32 v)) p { x with nxt := v } := h.set 20 _
theorem ConnAt.set_top {w : World} {p : Nat} {x : Conn} (h : ConnAt w p x) (v : Int) : ConnAt (w.setCell ⟨p, 21, none⟩ (.int .u32 v)) p { x with top := v } := h.set 21 _
theorem ConnAt.set_snd {w : World} {p : Nat} {x : Conn} (h : ConnAt w p x) (v : Value) : ConnAt (w.setCell ⟨p, 22, none⟩ (v)) p { x with snd := v } := h.set 22 _
theorem ConnAt.set_shut {w : World} {p : Nat} {x : Conn} (h : ConnAt w p x) (v : Bool) : ConnAt (w.setCell ⟨p, 23, none⟩ (.bool v)) p { x with shut := v } := h.set 23 _
theorem ConnAt.set_peer {w : World} {p : Nat} {x : Conn} (h : ConnAt w p x) (v : Int) : ConnAt (w.setCell ⟨p, 24, none⟩ (.int .i64 v)) p { x with peer := v } := h.set 24 _
theorem ConnAt.set_wl1 {w : World} {p : Nat} {x : Conn} (h : ConnAt w p x) (v : Int) : ConnAt (w.setCell ⟨p, 25, none⟩ (.int .u32 v)) p { x with wl1 := v } := h.set 25 _
theorem ConnAt.set_wl2 {w : World} {p : Nat} {x : Conn} (h : ConnAt w p x) (v : Int) : ConnAt (w.setCell ⟨p, 26, none⟩ (.int .u32 v)) p { x with wl2 := v } := h.set 26 _
theorem ConnAt.set_mss {w : World} {p : Nat} {x : Conn} (h : ConnAt w p x) (v : Int) : ConnAt (w.setCell ⟨p, 27, none⟩ (.int .i64 v)) p { x with mss := v } := h.set 27 _
theorem ConnAt.set_shiftOut {w : World} {p : Nat} {x : Conn} (h : ConnAt w p x) (v : Int) : ConnAt (w.setCell ⟨p, 28, none⟩ (.int .i64 v)) p { x with shiftOut := v } := h.set 28 _
theorem ConnAt.set_shiftIn {w : World} {p : Nat} {x : Conn} (h : ConnAt w p x) (v : Int) : ConnAt (w.setCell ⟨p, 29, none⟩ (.int .i64 v)) p { x with shiftIn := v } := h.set 29 _
theorem ConnAt.set_scaled {w : World} {p : Nat} {x : Conn} (h : ConnAt w p x) (v : Bool) : ConnAt (w.setCell ⟨p, 30, none⟩ (.bool v)) p { x with scaled := v } := h.set 30 _
theorem ConnAt.set_cong {w : World} {p : Nat} {x : Conn} (h : ConnAt w p x) (v : Value) : ConnAt (w.setCell ⟨p, 31, none⟩ (v)) p { x with cong := v } := h.set 31 _
theorem ConnAt.set_rto {w : World} {p : Nat} {x : Conn} (h : ConnAt w p x) (v : Value) : ConnAt (w.setCell ⟨p, 32, none⟩ (v)) p { x with rto := v } := h.set 32 _
theorem ConnAt.set_timed {w : World} {p : Nat} {x : Conn} (h : ConnAt w p x) (v : Bool) : ConnAt (w.setCell ⟨p, 33, none⟩ (.bool v)) p { x with timed := v } := h.set 33 _
theorem ConnAt.set_timedSeq {w : World} {p : Nat} {x : Conn} (h : ConnAt w p x) (v : Int) : ConnAt (w.setCell ⟨p, 34, none⟩ (.int .u32 v)) p { x with timedSeq := v } := h.set 34 _
theorem ConnAt.set_timedAt {w : World} {p : Nat} {x : Conn} (h : ConnAt w p x) (v : Int) : ConnAt (w.setCell ⟨p, 35, none⟩ (.int .i64 v)) p { x with timedAt := v } := h.set 35 _
theorem ConnAt.set_tries {w : World} {p : Nat} {x : Conn} (h : ConnAt w p x) (v : Int) : ConnAt (w.setCell ⟨p, 36, none⟩ (.int .i64 v)) p { x with tries := v } := h.set 36 _
theorem ConnAt.set_irs {w : World} {p : Nat} {x : Conn} (h : ConnAt w p x) (v : Int) : ConnAt (w.setCell ⟨p, 37, none⟩ (.int .u32 v)) p { x with irs := v } := h.set 37 _
theorem ConnAt.set_rcv {w : World} {p : Nat} {x : Conn} (h : ConnAt w p x) (v : Int) : ConnAt (w.setCell ⟨p, 38, none⟩ (.int .u32 v)) p { x with rcv := v } := h.set 38 _
theorem ConnAt.set_inn {w : World} {p : Nat} {x : Conn} (h : ConnAt w p x) (v : Value) : ConnAt (w.setCell ⟨p, 39, none⟩ (v)) p { x with inn := v } := h.set 39 _
theorem ConnAt.set_early {w : World} {p : Nat} {x : Conn} (h : ConnAt w p x) (v : Value) : ConnAt (w.setCell ⟨p, 40, none⟩ (v)) p { x with early := v } := h.set 40 _
theorem ConnAt.set_fin {w : World} {p : Nat} {x : Conn} (h : ConnAt w p x) (v : Bool) : ConnAt (w.setCell ⟨p, 41, none⟩ (.bool v)) p { x with fin := v } := h.set 41 _
theorem ConnAt.set_finAt {w : World} {p : Nat} {x : Conn} (h : ConnAt w p x) (v : Int) : ConnAt (w.setCell ⟨p, 42, none⟩ (.int .u32 v)) p { x with finAt := v } := h.set 42 _
theorem ConnAt.set_ended {w : World} {p : Nat} {x : Conn} (h : ConnAt w p x) (v : Bool) : ConnAt (w.setCell ⟨p, 43, none⟩ (.bool v)) p { x with ended := v } := h.set 43 _
theorem ConnAt.set_againAt {w : World} {p : Nat} {x : Conn} (h : ConnAt w p x) (v : Int) : ConnAt (w.setCell ⟨p, 44, none⟩ (.int .i64 v)) p { x with againAt := v } := h.set 44 _
theorem ConnAt.set_again {w : World} {p : Nat} {x : Conn} (h : ConnAt w p x) (v : Bool) : ConnAt (w.setCell ⟨p, 45, none⟩ (.bool v)) p { x with again := v } := h.set 45 _
theorem ConnAt.set_probeAt {w : World} {p : Nat} {x : Conn} (h : ConnAt w p x) (v : Int) : ConnAt (w.setCell ⟨p, 46, none⟩ (.int .i64 v)) p { x with probeAt := v } := h.set 46 _
theorem ConnAt.set_probe {w : World} {p : Nat} {x : Conn} (h : ConnAt w p x) (v : Bool) : ConnAt (w.setCell ⟨p, 47, none⟩ (.bool v)) p { x with probe := v } := h.set 47 _
theorem ConnAt.set_waitAt {w : World} {p : Nat} {x : Conn} (h : ConnAt w p x) (v : Int) : ConnAt (w.setCell ⟨p, 48, none⟩ (.int .i64 v)) p { x with waitAt := v } := h.set 48 _
theorem ConnAt.set_wait {w : World} {p : Nat} {x : Conn} (h : ConnAt w p x) (v : Bool) : ConnAt (w.setCell ⟨p, 49, none⟩ (.bool v)) p { x with wait := v } := h.set 49 _
theorem ConnAt.set_userAt {w : World} {p : Nat} {x : Conn} (h : ConnAt w p x) (v : Int) : ConnAt (w.setCell ⟨p, 50, none⟩ (.int .i64 v)) p { x with userAt := v } := h.set 50 _
theorem ConnAt.set_user {w : World} {p : Nat} {x : Conn} (h : ConnAt w p x) (v : Bool) : ConnAt (w.setCell ⟨p, 51, none⟩ (.bool v)) p { x with user := v } := h.set 51 _

theorem ConnAt.lt {w : World} {p : Nat} {x : Conn} (h : ConnAt w p x) : p < w.heap.size := Blk.lt h
theorem ConnAt.fz {w : World} {p : Nat} {x : Conn} (h : ConnAt w p x) (k : Nat) : w.frozen? ⟨p, k, none⟩ = false := Blk.frozen h k
theorem ConnAt.alloc {w : World} {p : Nat} {x : Conn} (h : ConnAt w p x) (o : Obj) : ConnAt (w.alloc o) p x := Blk.alloc h o
theorem ConnAt.drew {w : World} {p : Nat} {x : Conn} (h : ConnAt w p x) : ConnAt w.drew p x := h
theorem ConnAt.drewN {w : World} {p : Nat} {x : Conn} (h : ConnAt w p x) (n : Nat) : ConnAt (w.drewN n) p x := h
theorem ConnAt.other {w : World} {p : Nat} {x : Conn} (h : ConnAt w p x) {a : Addr} (hn : p ≠ a.block) (v : Value) : ConnAt (w.setCell a v) p x := Blk.other h hn v
theorem ConnAt.mod {S : List Nat} {w w' : World} {p : Nat} {x : Conn} (h : ConnAt w p x) (m : Mod S w w') (hS : p ∉ S) : ConnAt w' p x := m.blk h hS
theorem Blk.drewN {w : World} {b : Nat} {t : TypeId} {cs : List Value} (h : Blk w b t cs) (n : Nat) : Blk (w.drewN n) b t cs := h
theorem Mod.drewN {S : List Nat} {a w : World} (h : Mod S a w) (n : Nat) : Mod S a (w.drewN n) := ⟨h.os, h.tape, h.output, h.size, h.block⟩

end Go.Proofs.YtpomnnfabpbmiaaGreat
