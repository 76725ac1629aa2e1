/-
  Each table of part 0 is what the own function of the program gives. Conditions: none.
-/
import Derived.Test.YtnkfegnbddmebaaGreatXaQ0
import Derived.Test.YtnkfegnbddmebaaGreatProg
import Derived.KernelRfl
set_option maxRecDepth 1000000
namespace Go.Ev.Q
open Go Go.Ev Go.Proofs
theorem c3 : cfun Tryz.prog [27, 91, 266, 270, 307, 313] 3 = some f3 := by kernel_rfl
theorem c4 : cfun Tryz.prog [27, 91, 266, 270, 307, 313] 4 = some f4 := by kernel_rfl
theorem c6 : cfun Tryz.prog [27, 91, 266, 270, 307, 313] 6 = some f6 := by kernel_rfl
theorem c7 : cfun Tryz.prog [27, 91, 266, 270, 307, 313] 7 = some f7 := by kernel_rfl
theorem c8 : cfun Tryz.prog [27, 91, 266, 270, 307, 313] 8 = some f8 := by kernel_rfl
theorem c9 : cfun Tryz.prog [27, 91, 266, 270, 307, 313] 9 = some f9 := by kernel_rfl
theorem c10 : cfun Tryz.prog [27, 91, 266, 270, 307, 313] 10 = some f10 := by kernel_rfl
theorem c11 : cfun Tryz.prog [27, 91, 266, 270, 307, 313] 11 = some f11 := by kernel_rfl
theorem c12 : cfun Tryz.prog [27, 91, 266, 270, 307, 313] 12 = some f12 := by kernel_rfl
theorem c13 : cfun Tryz.prog [27, 91, 266, 270, 307, 313] 13 = some f13 := by kernel_rfl
theorem c14 : cfun Tryz.prog [27, 91, 266, 270, 307, 313] 14 = some f14 := by kernel_rfl
theorem c15 : cfun Tryz.prog [27, 91, 266, 270, 307, 313] 15 = some f15 := by kernel_rfl
theorem c16 : cfun Tryz.prog [27, 91, 266, 270, 307, 313] 16 = some f16 := by kernel_rfl
theorem c17 : cfun Tryz.prog [27, 91, 266, 270, 307, 313] 17 = some f17 := by kernel_rfl
theorem c18 : cfun Tryz.prog [27, 91, 266, 270, 307, 313] 18 = some f18 := by kernel_rfl
theorem c19 : cfun Tryz.prog [27, 91, 266, 270, 307, 313] 19 = some f19 := by kernel_rfl
theorem c20 : cfun Tryz.prog [27, 91, 266, 270, 307, 313] 20 = some f20 := by kernel_rfl
theorem c21 : cfun Tryz.prog [27, 91, 266, 270, 307, 313] 21 = some f21 := by kernel_rfl
theorem c22 : cfun Tryz.prog [27, 91, 266, 270, 307, 313] 22 = some f22 := by kernel_rfl
theorem c35 : cfun Tryz.prog [27, 91, 266, 270, 307, 313] 35 = some f35 := by kernel_rfl
theorem c36 : cfun Tryz.prog [27, 91, 266, 270, 307, 313] 36 = some f36 := by kernel_rfl
theorem c37 : cfun Tryz.prog [27, 91, 266, 270, 307, 313] 37 = some f37 := by kernel_rfl
theorem c38 : cfun Tryz.prog [27, 91, 266, 270, 307, 313] 38 = some f38 := by kernel_rfl
theorem c39 : cfun Tryz.prog [27, 91, 266, 270, 307, 313] 39 = some f39 := by kernel_rfl
theorem c40 : cfun Tryz.prog [27, 91, 266, 270, 307, 313] 40 = some f40 := by kernel_rfl
theorem c41 : cfun Tryz.prog [27, 91, 266, 270, 307, 313] 41 = some f41 := by kernel_rfl
theorem c42 : cfun Tryz.prog [27, 91, 266, 270, 307, 313] 42 = some f42 := by kernel_rfl
theorem c43 : cfun Tryz.prog [27, 91, 266, 270, 307, 313] 43 = some f43 := by kernel_rfl
theorem c44 : cfun Tryz.prog [27, 91, 266, 270, 307, 313] 44 = some f44 := by kernel_rfl
theorem c45 : cfun Tryz.prog [27, 91, 266, 270, 307, 313] 45 = some f45 := by kernel_rfl
theorem c46 : cfun Tryz.prog [27, 91, 266, 270, 307, 313] 46 = some f46 := by kernel_rfl
theorem c47 : cfun Tryz.prog [27, 91, 266, 270, 307, 313] 47 = some f47 := by kernel_rfl
theorem c48 : cfun Tryz.prog [27, 91, 266, 270, 307, 313] 48 = some f48 := by kernel_rfl
theorem c49 : cfun Tryz.prog [27, 91, 266, 270, 307, 313] 49 = some f49 := by kernel_rfl
end Go.Ev.Q
