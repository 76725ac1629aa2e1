/-
  Each table of part 0 is what the own function of the program gives. Conditions: none.
-/
import Derived.Test.YtnkfegnbddmebaaGreatQ0
import Derived.Test.YtnkfegnbddmebaaGreatProg
import Derived.KernelRfl
set_option maxRecDepth 1000000
namespace Go.Ev.Q
open Go Go.Ev Go.Proofs
theorem c5 : cfun Tryz.prog [27, 91, 266, 270, 307, 313] 5 = some f5 := by kernel_rfl
theorem c9 : cfun Tryz.prog [27, 91, 266, 270, 307, 313] 9 = some f9 := by kernel_rfl
theorem c10 : cfun Tryz.prog [27, 91, 266, 270, 307, 313] 10 = some f10 := by kernel_rfl
theorem c12 : cfun Tryz.prog [27, 91, 266, 270, 307, 313] 12 = some f12 := by kernel_rfl
theorem c14 : cfun Tryz.prog [27, 91, 266, 270, 307, 313] 14 = some f14 := by kernel_rfl
theorem c17 : cfun Tryz.prog [27, 91, 266, 270, 307, 313] 17 = some f17 := by kernel_rfl
theorem c18 : cfun Tryz.prog [27, 91, 266, 270, 307, 313] 18 = some f18 := by kernel_rfl
theorem c19 : cfun Tryz.prog [27, 91, 266, 270, 307, 313] 19 = some f19 := by kernel_rfl
theorem c23 : cfun Tryz.prog [27, 91, 266, 270, 307, 313] 23 = some f23 := by kernel_rfl
theorem c24 : cfun Tryz.prog [27, 91, 266, 270, 307, 313] 24 = some f24 := by kernel_rfl
theorem c25 : cfun Tryz.prog [27, 91, 266, 270, 307, 313] 25 = some f25 := by kernel_rfl
theorem c26 : cfun Tryz.prog [27, 91, 266, 270, 307, 313] 26 = some f26 := by kernel_rfl
theorem c27 : cfun Tryz.prog [27, 91, 266, 270, 307, 313] 27 = some f27 := by kernel_rfl
theorem c28 : cfun Tryz.prog [27, 91, 266, 270, 307, 313] 28 = some f28 := by kernel_rfl
theorem c29 : cfun Tryz.prog [27, 91, 266, 270, 307, 313] 29 = some f29 := by kernel_rfl
theorem c30 : cfun Tryz.prog [27, 91, 266, 270, 307, 313] 30 = some f30 := by kernel_rfl
theorem c31 : cfun Tryz.prog [27, 91, 266, 270, 307, 313] 31 = some f31 := by kernel_rfl
theorem c32 : cfun Tryz.prog [27, 91, 266, 270, 307, 313] 32 = some f32 := by kernel_rfl
theorem c33 : cfun Tryz.prog [27, 91, 266, 270, 307, 313] 33 = some f33 := by kernel_rfl
theorem c34 : cfun Tryz.prog [27, 91, 266, 270, 307, 313] 34 = some f34 := by kernel_rfl
theorem c36 : cfun Tryz.prog [27, 91, 266, 270, 307, 313] 36 = some f36 := by kernel_rfl
theorem c37 : cfun Tryz.prog [27, 91, 266, 270, 307, 313] 37 = some f37 := by kernel_rfl
theorem c40 : cfun Tryz.prog [27, 91, 266, 270, 307, 313] 40 = some f40 := by kernel_rfl
theorem c41 : cfun Tryz.prog [27, 91, 266, 270, 307, 313] 41 = some f41 := by kernel_rfl
theorem c42 : cfun Tryz.prog [27, 91, 266, 270, 307, 313] 42 = some f42 := by kernel_rfl
theorem c43 : cfun Tryz.prog [27, 91, 266, 270, 307, 313] 43 = some f43 := by kernel_rfl
theorem c44 : cfun Tryz.prog [27, 91, 266, 270, 307, 313] 44 = some f44 := by kernel_rfl
theorem c45 : cfun Tryz.prog [27, 91, 266, 270, 307, 313] 45 = some f45 := by kernel_rfl
theorem c47 : cfun Tryz.prog [27, 91, 266, 270, 307, 313] 47 = some f47 := by kernel_rfl
theorem c49 : cfun Tryz.prog [27, 91, 266, 270, 307, 313] 49 = some f49 := by kernel_rfl
theorem c50 : cfun Tryz.prog [27, 91, 266, 270, 307, 313] 50 = some f50 := by kernel_rfl
theorem c51 : cfun Tryz.prog [27, 91, 266, 270, 307, 313] 51 = some f51 := by kernel_rfl
theorem c54 : cfun Tryz.prog [27, 91, 266, 270, 307, 313] 54 = some f54 := by kernel_rfl
theorem c57 : cfun Tryz.prog [27, 91, 266, 270, 307, 313] 57 = some f57 := by kernel_rfl
theorem c58 : cfun Tryz.prog [27, 91, 266, 270, 307, 313] 58 = some f58 := by kernel_rfl
theorem c62 : cfun Tryz.prog [27, 91, 266, 270, 307, 313] 62 = some f62 := by kernel_rfl
theorem c64 : cfun Tryz.prog [27, 91, 266, 270, 307, 313] 64 = some f64 := by kernel_rfl
theorem c66 : cfun Tryz.prog [27, 91, 266, 270, 307, 313] 66 = some f66 := by kernel_rfl
theorem c67 : cfun Tryz.prog [27, 91, 266, 270, 307, 313] 67 = some f67 := by kernel_rfl
theorem c68 : cfun Tryz.prog [27, 91, 266, 270, 307, 313] 68 = some f68 := by kernel_rfl
theorem c69 : cfun Tryz.prog [27, 91, 266, 270, 307, 313] 69 = some f69 := by kernel_rfl
theorem c70 : cfun Tryz.prog [27, 91, 266, 270, 307, 313] 70 = some f70 := by kernel_rfl
theorem c71 : cfun Tryz.prog [27, 91, 266, 270, 307, 313] 71 = some f71 := by kernel_rfl
theorem c72 : cfun Tryz.prog [27, 91, 266, 270, 307, 313] 72 = some f72 := by kernel_rfl
end Go.Ev.Q
