/-
  Printed by wip/gen: what functions of the program compute, and that they do.
-/
import Derived.Test.YtihokdanilekmaaLiftU
import Derived.Test.YtihokdanilekmaaChecked
namespace Go.Proofs
open Go.Gb Go.RowKit

structure S22 where
  x0 : Int
  y0 : Int
  x1 : Int
  y1 : Int
  deriving DecidableEq, Inhabited
structure S41 where
  a0 : Int
  a1 : Int
  deriving DecidableEq, Inhabited
def row22 (x : S22) : List Tree := [(.sc (.int .i64 x.x0)), (.sc (.int .i64 x.y0)), (.sc (.int .i64 x.x1)), (.sc (.int .i64 x.y1))]
def row41 (x : S41) : List Tree := [(.sc (.int .i64 x.a0)), (.sc (.int .i64 x.a1))]

def tab : List (TypeId × TyI) := [
  (3, ⟨1, 8, false, [.int .i64 0], .other, []⟩),
  (4, ⟨1, 1, false, [.bool false], .bool, []⟩),
  (23, ⟨4, 32, true, [.int .i64 0, .int .i64 0, .int .i64 0, .int .i64 0], .struct [(0, 3), (1, 3), (2, 3), (3, 3)], [0, 0, 0, 0]⟩),
  (32, ⟨1, 24, false, [.slice none 0 0], .slice 23, []⟩),
  (39, ⟨1, 24, false, [.slice none 0 0], .slice 41, []⟩),
  (41, ⟨2, 16, true, [.int .i64 0, .int .i64 0], .arr 2 3, []⟩)]

theorem tabok : TabOk Try.prog (tabOf tab) := tabOk_of (by kernel_rfl)
theorem mixed : Try.prog.follows .mixedOrders = true := Checked.mixed Try.checked

end Go.Proofs
