/-
  The law TransportNothing, reckoned by the kernel: at a long argument, and at a short one. Conditions: none.
-/
import Derived.Test.YtnkfegnbddmebaaGreatT
namespace Go.Ev.Q
open Go Go.Ev
def long : Facts := {len := [(2, .x 3)], bin := [(.gtr, .x 3, .i .i64 1000, .b true)]}
def short : Facts := {len := [(2, .x 3)], bin := [(.gtr, .x 3, .i .i64 1000, .b false)]}
theorem k_long : isTrue (evCall long ft.get 100000 5 [.x 0, .x 1, .x 2] nothing) = true := by kernel_rfl
theorem k_short : isTrue (evCall short ft.get 100000 5 [.x 0, .x 1, .x 2] nothing) = true := by kernel_rfl
end Go.Ev.Q
