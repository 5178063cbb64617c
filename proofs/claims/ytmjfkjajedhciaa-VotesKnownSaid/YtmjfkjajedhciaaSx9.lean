/- THE DATA OF THE PROGRAM: Lean's own structures and how they lie in cells. -/
import Derived.Test.YtmjfkjajedhciaaSx8
namespace Go.Sx
open Go

abbrev u8v (b : UInt8) : Value := Value.int .u8 (b.toNat : Int)
abbrev kBytes : Kd (List UInt8) := Kd.slice Kd.u8

structure Res where
  code : Int
  data : List UInt8
  deriving Inhabited, DecidableEq
def kRes : Kd Res := Kd.iso (Kd.pair (Kd.int .u8) kBytes) (fun r => (r.code, r.data))

structure Row where
  client : Int
  serial : Int
  result : Res
  deriving Inhabited, DecidableEq
def kRow : Kd Row := Kd.iso (Kd.pair (Kd.int .i64) (Kd.pair (Kd.int .i64) kRes)) (fun r => (r.client, r.serial, r.result))

structure TCall where
  done : Bool
  client : Int
  serial : Int
  r : Res
  deriving Inhabited, DecidableEq
def kTCall : Kd TCall := Kd.iso (Kd.pair Kd.bool (Kd.pair (Kd.int .i64) (Kd.pair (Kd.int .i64) kRes))) (fun r => (r.done, r.client, r.serial, r.r))

structure Last where
  serial : Int
  result : Res
  deriving Inhabited, DecidableEq
def kLast : Kd Last := Kd.iso (Kd.pair (Kd.int .i64) kRes) (fun r => (r.serial, r.result))

end Go.Sx
