/-
  Each table of part 2 is what the own function of the program gives. Conditions: none.
-/
import Derived.Test.YtnkfegnbddmebaaGreatXaQ2
import Derived.Test.YtnkfegnbddmebaaGreatProg
import Derived.KernelRfl
set_option maxRecDepth 1000000
namespace Go.Ev.Q
open Go Go.Ev Go.Proofs
theorem c129 : cfun Tryz.prog [27, 91, 266, 270, 307, 313] 129 = some f129 := by kernel_rfl
theorem c130 : cfun Tryz.prog [27, 91, 266, 270, 307, 313] 130 = some f130 := by kernel_rfl
theorem c131 : cfun Tryz.prog [27, 91, 266, 270, 307, 313] 131 = some f131 := by kernel_rfl
theorem c132 : cfun Tryz.prog [27, 91, 266, 270, 307, 313] 132 = some f132 := by kernel_rfl
theorem c133 : cfun Tryz.prog [27, 91, 266, 270, 307, 313] 133 = some f133 := by kernel_rfl
theorem c134 : cfun Tryz.prog [27, 91, 266, 270, 307, 313] 134 = some f134 := by kernel_rfl
theorem c135 : cfun Tryz.prog [27, 91, 266, 270, 307, 313] 135 = some f135 := by kernel_rfl
theorem c136 : cfun Tryz.prog [27, 91, 266, 270, 307, 313] 136 = some f136 := by kernel_rfl
theorem c137 : cfun Tryz.prog [27, 91, 266, 270, 307, 313] 137 = some f137 := by kernel_rfl
theorem c138 : cfun Tryz.prog [27, 91, 266, 270, 307, 313] 138 = some f138 := by kernel_rfl
theorem c139 : cfun Tryz.prog [27, 91, 266, 270, 307, 313] 139 = some f139 := by kernel_rfl
theorem c140 : cfun Tryz.prog [27, 91, 266, 270, 307, 313] 140 = some f140 := by kernel_rfl
theorem c141 : cfun Tryz.prog [27, 91, 266, 270, 307, 313] 141 = some f141 := by kernel_rfl
theorem c142 : cfun Tryz.prog [27, 91, 266, 270, 307, 313] 142 = some f142 := by kernel_rfl
theorem c143 : cfun Tryz.prog [27, 91, 266, 270, 307, 313] 143 = some f143 := by kernel_rfl
theorem c144 : cfun Tryz.prog [27, 91, 266, 270, 307, 313] 144 = some f144 := by kernel_rfl
theorem c147 : cfun Tryz.prog [27, 91, 266, 270, 307, 313] 147 = some f147 := by kernel_rfl
theorem c148 : cfun Tryz.prog [27, 91, 266, 270, 307, 313] 148 = some f148 := by kernel_rfl
theorem c149 : cfun Tryz.prog [27, 91, 266, 270, 307, 313] 149 = some f149 := by kernel_rfl
theorem c150 : cfun Tryz.prog [27, 91, 266, 270, 307, 313] 150 = some f150 := by kernel_rfl
theorem c154 : cfun Tryz.prog [27, 91, 266, 270, 307, 313] 154 = some f154 := by kernel_rfl
theorem c155 : cfun Tryz.prog [27, 91, 266, 270, 307, 313] 155 = some f155 := by kernel_rfl
theorem c157 : cfun Tryz.prog [27, 91, 266, 270, 307, 313] 157 = some f157 := by kernel_rfl
theorem c158 : cfun Tryz.prog [27, 91, 266, 270, 307, 313] 158 = some f158 := by kernel_rfl
theorem c159 : cfun Tryz.prog [27, 91, 266, 270, 307, 313] 159 = some f159 := by kernel_rfl
theorem c161 : cfun Tryz.prog [27, 91, 266, 270, 307, 313] 161 = some f161 := by kernel_rfl
theorem c162 : cfun Tryz.prog [27, 91, 266, 270, 307, 313] 162 = some f162 := by kernel_rfl
theorem c163 : cfun Tryz.prog [27, 91, 266, 270, 307, 313] 163 = some f163 := by kernel_rfl
theorem c169 : cfun Tryz.prog [27, 91, 266, 270, 307, 313] 169 = some f169 := by kernel_rfl
theorem c170 : cfun Tryz.prog [27, 91, 266, 270, 307, 313] 170 = some f170 := by kernel_rfl
theorem c171 : cfun Tryz.prog [27, 91, 266, 270, 307, 313] 171 = some f171 := by kernel_rfl
theorem c172 : cfun Tryz.prog [27, 91, 266, 270, 307, 313] 172 = some f172 := by kernel_rfl
theorem c173 : cfun Tryz.prog [27, 91, 266, 270, 307, 313] 173 = some f173 := by kernel_rfl
theorem c174 : cfun Tryz.prog [27, 91, 266, 270, 307, 313] 174 = some f174 := by kernel_rfl
theorem c175 : cfun Tryz.prog [27, 91, 266, 270, 307, 313] 175 = some f175 := by kernel_rfl
theorem c176 : cfun Tryz.prog [27, 91, 266, 270, 307, 313] 176 = some f176 := by kernel_rfl
theorem c177 : cfun Tryz.prog [27, 91, 266, 270, 307, 313] 177 = some f177 := by kernel_rfl
theorem c178 : cfun Tryz.prog [27, 91, 266, 270, 307, 313] 178 = some f178 := by kernel_rfl
theorem c182 : cfun Tryz.prog [27, 91, 266, 270, 307, 313] 182 = some f182 := by kernel_rfl
theorem c183 : cfun Tryz.prog [27, 91, 266, 270, 307, 313] 183 = some f183 := by kernel_rfl
theorem c184 : cfun Tryz.prog [27, 91, 266, 270, 307, 313] 184 = some f184 := by kernel_rfl
theorem c185 : cfun Tryz.prog [27, 91, 266, 270, 307, 313] 185 = some f185 := by kernel_rfl
theorem c186 : cfun Tryz.prog [27, 91, 266, 270, 307, 313] 186 = some f186 := by kernel_rfl
theorem c188 : cfun Tryz.prog [27, 91, 266, 270, 307, 313] 188 = some f188 := by kernel_rfl
theorem c189 : cfun Tryz.prog [27, 91, 266, 270, 307, 313] 189 = some f189 := by kernel_rfl
theorem c192 : cfun Tryz.prog [27, 91, 266, 270, 307, 313] 192 = some f192 := by kernel_rfl
theorem c193 : cfun Tryz.prog [27, 91, 266, 270, 307, 313] 193 = some f193 := by kernel_rfl
theorem c194 : cfun Tryz.prog [27, 91, 266, 270, 307, 313] 194 = some f194 := by kernel_rfl
theorem c197 : cfun Tryz.prog [27, 91, 266, 270, 307, 313] 197 = some f197 := by kernel_rfl
theorem c198 : cfun Tryz.prog [27, 91, 266, 270, 307, 313] 198 = some f198 := by kernel_rfl
theorem c199 : cfun Tryz.prog [27, 91, 266, 270, 307, 313] 199 = some f199 := by kernel_rfl
theorem c200 : cfun Tryz.prog [27, 91, 266, 270, 307, 313] 200 = some f200 := by kernel_rfl
theorem c201 : cfun Tryz.prog [27, 91, 266, 270, 307, 313] 201 = some f201 := by kernel_rfl
theorem c202 : cfun Tryz.prog [27, 91, 266, 270, 307, 313] 202 = some f202 := by kernel_rfl
theorem c203 : cfun Tryz.prog [27, 91, 266, 270, 307, 313] 203 = some f203 := by kernel_rfl
theorem c204 : cfun Tryz.prog [27, 91, 266, 270, 307, 313] 204 = some f204 := by kernel_rfl
theorem c206 : cfun Tryz.prog [27, 91, 266, 270, 307, 313] 206 = some f206 := by kernel_rfl
theorem c207 : cfun Tryz.prog [27, 91, 266, 270, 307, 313] 207 = some f207 := by kernel_rfl
theorem c208 : cfun Tryz.prog [27, 91, 266, 270, 307, 313] 208 = some f208 := by kernel_rfl
end Go.Ev.Q
