/-
  Each table of part 1 is what the own function of the program gives. Conditions: none.
-/
import Derived.Test.YtnkfegnbddmebaaGreatXaQ1
import Derived.Test.YtnkfegnbddmebaaGreatProg
import Derived.KernelRfl
set_option maxRecDepth 1000000
namespace Go.Ev.Q
open Go Go.Ev Go.Proofs
theorem c50 : cfun Tryz.prog [27, 91, 266, 270, 307, 313] 50 = some f50 := by kernel_rfl
theorem c51 : cfun Tryz.prog [27, 91, 266, 270, 307, 313] 51 = some f51 := by kernel_rfl
theorem c52 : cfun Tryz.prog [27, 91, 266, 270, 307, 313] 52 = some f52 := by kernel_rfl
theorem c53 : cfun Tryz.prog [27, 91, 266, 270, 307, 313] 53 = some f53 := by kernel_rfl
theorem c54 : cfun Tryz.prog [27, 91, 266, 270, 307, 313] 54 = some f54 := by kernel_rfl
theorem c55 : cfun Tryz.prog [27, 91, 266, 270, 307, 313] 55 = some f55 := by kernel_rfl
theorem c57 : cfun Tryz.prog [27, 91, 266, 270, 307, 313] 57 = some f57 := by kernel_rfl
theorem c58 : cfun Tryz.prog [27, 91, 266, 270, 307, 313] 58 = some f58 := by kernel_rfl
theorem c59 : cfun Tryz.prog [27, 91, 266, 270, 307, 313] 59 = some f59 := by kernel_rfl
theorem c62 : cfun Tryz.prog [27, 91, 266, 270, 307, 313] 62 = some f62 := by kernel_rfl
theorem c63 : cfun Tryz.prog [27, 91, 266, 270, 307, 313] 63 = some f63 := by kernel_rfl
theorem c64 : cfun Tryz.prog [27, 91, 266, 270, 307, 313] 64 = some f64 := by kernel_rfl
theorem c65 : cfun Tryz.prog [27, 91, 266, 270, 307, 313] 65 = some f65 := by kernel_rfl
theorem c66 : cfun Tryz.prog [27, 91, 266, 270, 307, 313] 66 = some f66 := by kernel_rfl
theorem c77 : cfun Tryz.prog [27, 91, 266, 270, 307, 313] 77 = some f77 := by kernel_rfl
theorem c78 : cfun Tryz.prog [27, 91, 266, 270, 307, 313] 78 = some f78 := by kernel_rfl
theorem c79 : cfun Tryz.prog [27, 91, 266, 270, 307, 313] 79 = some f79 := by kernel_rfl
theorem c80 : cfun Tryz.prog [27, 91, 266, 270, 307, 313] 80 = some f80 := by kernel_rfl
theorem c81 : cfun Tryz.prog [27, 91, 266, 270, 307, 313] 81 = some f81 := by kernel_rfl
theorem c82 : cfun Tryz.prog [27, 91, 266, 270, 307, 313] 82 = some f82 := by kernel_rfl
theorem c83 : cfun Tryz.prog [27, 91, 266, 270, 307, 313] 83 = some f83 := by kernel_rfl
theorem c84 : cfun Tryz.prog [27, 91, 266, 270, 307, 313] 84 = some f84 := by kernel_rfl
theorem c85 : cfun Tryz.prog [27, 91, 266, 270, 307, 313] 85 = some f85 := by kernel_rfl
theorem c86 : cfun Tryz.prog [27, 91, 266, 270, 307, 313] 86 = some f86 := by kernel_rfl
theorem c87 : cfun Tryz.prog [27, 91, 266, 270, 307, 313] 87 = some f87 := by kernel_rfl
theorem c88 : cfun Tryz.prog [27, 91, 266, 270, 307, 313] 88 = some f88 := by kernel_rfl
theorem c89 : cfun Tryz.prog [27, 91, 266, 270, 307, 313] 89 = some f89 := by kernel_rfl
theorem c90 : cfun Tryz.prog [27, 91, 266, 270, 307, 313] 90 = some f90 := by kernel_rfl
theorem c91 : cfun Tryz.prog [27, 91, 266, 270, 307, 313] 91 = some f91 := by kernel_rfl
theorem c92 : cfun Tryz.prog [27, 91, 266, 270, 307, 313] 92 = some f92 := by kernel_rfl
theorem c93 : cfun Tryz.prog [27, 91, 266, 270, 307, 313] 93 = some f93 := by kernel_rfl
theorem c94 : cfun Tryz.prog [27, 91, 266, 270, 307, 313] 94 = some f94 := by kernel_rfl
theorem c95 : cfun Tryz.prog [27, 91, 266, 270, 307, 313] 95 = some f95 := by kernel_rfl
theorem c96 : cfun Tryz.prog [27, 91, 266, 270, 307, 313] 96 = some f96 := by kernel_rfl
theorem c97 : cfun Tryz.prog [27, 91, 266, 270, 307, 313] 97 = some f97 := by kernel_rfl
theorem c98 : cfun Tryz.prog [27, 91, 266, 270, 307, 313] 98 = some f98 := by kernel_rfl
theorem c99 : cfun Tryz.prog [27, 91, 266, 270, 307, 313] 99 = some f99 := by kernel_rfl
theorem c100 : cfun Tryz.prog [27, 91, 266, 270, 307, 313] 100 = some f100 := by kernel_rfl
theorem c101 : cfun Tryz.prog [27, 91, 266, 270, 307, 313] 101 = some f101 := by kernel_rfl
theorem c102 : cfun Tryz.prog [27, 91, 266, 270, 307, 313] 102 = some f102 := by kernel_rfl
theorem c103 : cfun Tryz.prog [27, 91, 266, 270, 307, 313] 103 = some f103 := by kernel_rfl
theorem c108 : cfun Tryz.prog [27, 91, 266, 270, 307, 313] 108 = some f108 := by kernel_rfl
theorem c109 : cfun Tryz.prog [27, 91, 266, 270, 307, 313] 109 = some f109 := by kernel_rfl
theorem c111 : cfun Tryz.prog [27, 91, 266, 270, 307, 313] 111 = some f111 := by kernel_rfl
theorem c112 : cfun Tryz.prog [27, 91, 266, 270, 307, 313] 112 = some f112 := by kernel_rfl
theorem c113 : cfun Tryz.prog [27, 91, 266, 270, 307, 313] 113 = some f113 := by kernel_rfl
theorem c114 : cfun Tryz.prog [27, 91, 266, 270, 307, 313] 114 = some f114 := by kernel_rfl
theorem c115 : cfun Tryz.prog [27, 91, 266, 270, 307, 313] 115 = some f115 := by kernel_rfl
theorem c125 : cfun Tryz.prog [27, 91, 266, 270, 307, 313] 125 = some f125 := by kernel_rfl
theorem c126 : cfun Tryz.prog [27, 91, 266, 270, 307, 313] 126 = some f126 := by kernel_rfl
theorem c127 : cfun Tryz.prog [27, 91, 266, 270, 307, 313] 127 = some f127 := by kernel_rfl
theorem c128 : cfun Tryz.prog [27, 91, 266, 270, 307, 313] 128 = some f128 := by kernel_rfl
end Go.Ev.Q
