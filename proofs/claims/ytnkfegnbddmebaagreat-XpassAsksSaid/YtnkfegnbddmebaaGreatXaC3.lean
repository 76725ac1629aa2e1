/-
  Each table of part 3 is what the own function of the program gives. Conditions: none.
-/
import Derived.Test.YtnkfegnbddmebaaGreatXaQ3
import Derived.Test.YtnkfegnbddmebaaGreatProg
import Derived.KernelRfl
set_option maxRecDepth 1000000
namespace Go.Ev.Q
open Go Go.Ev Go.Proofs
theorem c217 : cfun Tryz.prog [27, 91, 266, 270, 307, 313] 217 = some f217 := by kernel_rfl
theorem c222 : cfun Tryz.prog [27, 91, 266, 270, 307, 313] 222 = some f222 := by kernel_rfl
theorem c223 : cfun Tryz.prog [27, 91, 266, 270, 307, 313] 223 = some f223 := by kernel_rfl
theorem c224 : cfun Tryz.prog [27, 91, 266, 270, 307, 313] 224 = some f224 := by kernel_rfl
theorem c226 : cfun Tryz.prog [27, 91, 266, 270, 307, 313] 226 = some f226 := by kernel_rfl
theorem c227 : cfun Tryz.prog [27, 91, 266, 270, 307, 313] 227 = some f227 := by kernel_rfl
theorem c228 : cfun Tryz.prog [27, 91, 266, 270, 307, 313] 228 = some f228 := by kernel_rfl
theorem c229 : cfun Tryz.prog [27, 91, 266, 270, 307, 313] 229 = some f229 := by kernel_rfl
theorem c230 : cfun Tryz.prog [27, 91, 266, 270, 307, 313] 230 = some f230 := by kernel_rfl
theorem c231 : cfun Tryz.prog [27, 91, 266, 270, 307, 313] 231 = some f231 := by kernel_rfl
theorem c240 : cfun Tryz.prog [27, 91, 266, 270, 307, 313] 240 = some f240 := by kernel_rfl
theorem c247 : cfun Tryz.prog [27, 91, 266, 270, 307, 313] 247 = some f247 := by kernel_rfl
theorem c274 : cfun Tryz.prog [27, 91, 266, 270, 307, 313] 274 = some f274 := by kernel_rfl
theorem c275 : cfun Tryz.prog [27, 91, 266, 270, 307, 313] 275 = some f275 := by kernel_rfl
theorem c278 : cfun Tryz.prog [27, 91, 266, 270, 307, 313] 278 = some f278 := by kernel_rfl
theorem c279 : cfun Tryz.prog [27, 91, 266, 270, 307, 313] 279 = some f279 := by kernel_rfl
theorem c281 : cfun Tryz.prog [27, 91, 266, 270, 307, 313] 281 = some f281 := by kernel_rfl
theorem c282 : cfun Tryz.prog [27, 91, 266, 270, 307, 313] 282 = some f282 := by kernel_rfl
theorem c284 : cfun Tryz.prog [27, 91, 266, 270, 307, 313] 284 = some f284 := by kernel_rfl
theorem c285 : cfun Tryz.prog [27, 91, 266, 270, 307, 313] 285 = some f285 := by kernel_rfl
theorem c286 : cfun Tryz.prog [27, 91, 266, 270, 307, 313] 286 = some f286 := by kernel_rfl
theorem c287 : cfun Tryz.prog [27, 91, 266, 270, 307, 313] 287 = some f287 := by kernel_rfl
theorem c288 : cfun Tryz.prog [27, 91, 266, 270, 307, 313] 288 = some f288 := by kernel_rfl
theorem c289 : cfun Tryz.prog [27, 91, 266, 270, 307, 313] 289 = some f289 := by kernel_rfl
theorem c290 : cfun Tryz.prog [27, 91, 266, 270, 307, 313] 290 = some f290 := by kernel_rfl
theorem c292 : cfun Tryz.prog [27, 91, 266, 270, 307, 313] 292 = some f292 := by kernel_rfl
theorem c293 : cfun Tryz.prog [27, 91, 266, 270, 307, 313] 293 = some f293 := by kernel_rfl
theorem c294 : cfun Tryz.prog [27, 91, 266, 270, 307, 313] 294 = some f294 := by kernel_rfl
theorem c295 : cfun Tryz.prog [27, 91, 266, 270, 307, 313] 295 = some f295 := by kernel_rfl
theorem c296 : cfun Tryz.prog [27, 91, 266, 270, 307, 313] 296 = some f296 := by kernel_rfl
theorem c297 : cfun Tryz.prog [27, 91, 266, 270, 307, 313] 297 = some f297 := by kernel_rfl
theorem c298 : cfun Tryz.prog [27, 91, 266, 270, 307, 313] 298 = some f298 := by kernel_rfl
theorem c299 : cfun Tryz.prog [27, 91, 266, 270, 307, 313] 299 = some f299 := by kernel_rfl
theorem c300 : cfun Tryz.prog [27, 91, 266, 270, 307, 313] 300 = some f300 := by kernel_rfl
theorem c301 : cfun Tryz.prog [27, 91, 266, 270, 307, 313] 301 = some f301 := by kernel_rfl
theorem c302 : cfun Tryz.prog [27, 91, 266, 270, 307, 313] 302 = some f302 := by kernel_rfl
theorem c303 : cfun Tryz.prog [27, 91, 266, 270, 307, 313] 303 = some f303 := by kernel_rfl
theorem c304 : cfun Tryz.prog [27, 91, 266, 270, 307, 313] 304 = some f304 := by kernel_rfl
theorem c305 : cfun Tryz.prog [27, 91, 266, 270, 307, 313] 305 = some f305 := by kernel_rfl
theorem c306 : cfun Tryz.prog [27, 91, 266, 270, 307, 313] 306 = some f306 := by kernel_rfl
theorem c307 : cfun Tryz.prog [27, 91, 266, 270, 307, 313] 307 = some f307 := by kernel_rfl
theorem c308 : cfun Tryz.prog [27, 91, 266, 270, 307, 313] 308 = some f308 := by kernel_rfl
theorem c309 : cfun Tryz.prog [27, 91, 266, 270, 307, 313] 309 = some f309 := by kernel_rfl
theorem c310 : cfun Tryz.prog [27, 91, 266, 270, 307, 313] 310 = some f310 := by kernel_rfl
theorem c311 : cfun Tryz.prog [27, 91, 266, 270, 307, 313] 311 = some f311 := by kernel_rfl
theorem c315 : cfun Tryz.prog [27, 91, 266, 270, 307, 313] 315 = some f315 := by kernel_rfl
theorem c316 : cfun Tryz.prog [27, 91, 266, 270, 307, 313] 316 = some f316 := by kernel_rfl
theorem c317 : cfun Tryz.prog [27, 91, 266, 270, 307, 313] 317 = some f317 := by kernel_rfl
theorem c318 : cfun Tryz.prog [27, 91, 266, 270, 307, 313] 318 = some f318 := by kernel_rfl
theorem c319 : cfun Tryz.prog [27, 91, 266, 270, 307, 313] 319 = some f319 := by kernel_rfl
theorem c322 : cfun Tryz.prog [27, 91, 266, 270, 307, 313] 322 = some f322 := by kernel_rfl
theorem c323 : cfun Tryz.prog [27, 91, 266, 270, 307, 313] 323 = some f323 := by kernel_rfl
end Go.Ev.Q
