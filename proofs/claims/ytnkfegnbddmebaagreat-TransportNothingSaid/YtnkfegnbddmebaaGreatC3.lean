/-
  Each table of part 3 is what the own function of the program gives. Conditions: none.
-/
import Derived.Test.YtnkfegnbddmebaaGreatQ3
import Derived.Test.YtnkfegnbddmebaaGreatProg
import Derived.KernelRfl
set_option maxRecDepth 1000000
namespace Go.Ev.Q
open Go Go.Ev Go.Proofs
theorem c231 : cfun Tryz.prog [27, 91, 266, 270, 307, 313] 231 = some f231 := by kernel_rfl
theorem c240 : cfun Tryz.prog [27, 91, 266, 270, 307, 313] 240 = some f240 := by kernel_rfl
theorem c247 : cfun Tryz.prog [27, 91, 266, 270, 307, 313] 247 = some f247 := by kernel_rfl
theorem c327 : cfun Tryz.prog [27, 91, 266, 270, 307, 313] 327 = some f327 := by kernel_rfl
theorem c329 : cfun Tryz.prog [27, 91, 266, 270, 307, 313] 329 = some f329 := by kernel_rfl
theorem c330 : cfun Tryz.prog [27, 91, 266, 270, 307, 313] 330 = some f330 := by kernel_rfl
theorem c331 : cfun Tryz.prog [27, 91, 266, 270, 307, 313] 331 = some f331 := by kernel_rfl
theorem c333 : cfun Tryz.prog [27, 91, 266, 270, 307, 313] 333 = some f333 := by kernel_rfl
theorem c334 : cfun Tryz.prog [27, 91, 266, 270, 307, 313] 334 = some f334 := by kernel_rfl
theorem c336 : cfun Tryz.prog [27, 91, 266, 270, 307, 313] 336 = some f336 := by kernel_rfl
theorem c337 : cfun Tryz.prog [27, 91, 266, 270, 307, 313] 337 = some f337 := by kernel_rfl
theorem c340 : cfun Tryz.prog [27, 91, 266, 270, 307, 313] 340 = some f340 := by kernel_rfl
theorem c341 : cfun Tryz.prog [27, 91, 266, 270, 307, 313] 341 = some f341 := by kernel_rfl
theorem c343 : cfun Tryz.prog [27, 91, 266, 270, 307, 313] 343 = some f343 := by kernel_rfl
theorem c344 : cfun Tryz.prog [27, 91, 266, 270, 307, 313] 344 = some f344 := by kernel_rfl
theorem c345 : cfun Tryz.prog [27, 91, 266, 270, 307, 313] 345 = some f345 := by kernel_rfl
theorem c346 : cfun Tryz.prog [27, 91, 266, 270, 307, 313] 346 = some f346 := by kernel_rfl
theorem c347 : cfun Tryz.prog [27, 91, 266, 270, 307, 313] 347 = some f347 := by kernel_rfl
theorem c348 : cfun Tryz.prog [27, 91, 266, 270, 307, 313] 348 = some f348 := by kernel_rfl
theorem c349 : cfun Tryz.prog [27, 91, 266, 270, 307, 313] 349 = some f349 := by kernel_rfl
theorem c350 : cfun Tryz.prog [27, 91, 266, 270, 307, 313] 350 = some f350 := by kernel_rfl
theorem c351 : cfun Tryz.prog [27, 91, 266, 270, 307, 313] 351 = some f351 := by kernel_rfl
theorem c352 : cfun Tryz.prog [27, 91, 266, 270, 307, 313] 352 = some f352 := by kernel_rfl
theorem c353 : cfun Tryz.prog [27, 91, 266, 270, 307, 313] 353 = some f353 := by kernel_rfl
theorem c354 : cfun Tryz.prog [27, 91, 266, 270, 307, 313] 354 = some f354 := by kernel_rfl
theorem c355 : cfun Tryz.prog [27, 91, 266, 270, 307, 313] 355 = some f355 := by kernel_rfl
theorem c357 : cfun Tryz.prog [27, 91, 266, 270, 307, 313] 357 = some f357 := by kernel_rfl
theorem c358 : cfun Tryz.prog [27, 91, 266, 270, 307, 313] 358 = some f358 := by kernel_rfl
theorem c359 : cfun Tryz.prog [27, 91, 266, 270, 307, 313] 359 = some f359 := by kernel_rfl
theorem c360 : cfun Tryz.prog [27, 91, 266, 270, 307, 313] 360 = some f360 := by kernel_rfl
theorem c361 : cfun Tryz.prog [27, 91, 266, 270, 307, 313] 361 = some f361 := by kernel_rfl
theorem c362 : cfun Tryz.prog [27, 91, 266, 270, 307, 313] 362 = some f362 := by kernel_rfl
theorem c364 : cfun Tryz.prog [27, 91, 266, 270, 307, 313] 364 = some f364 := by kernel_rfl
theorem c366 : cfun Tryz.prog [27, 91, 266, 270, 307, 313] 366 = some f366 := by kernel_rfl
theorem c368 : cfun Tryz.prog [27, 91, 266, 270, 307, 313] 368 = some f368 := by kernel_rfl
theorem c369 : cfun Tryz.prog [27, 91, 266, 270, 307, 313] 369 = some f369 := by kernel_rfl
theorem c370 : cfun Tryz.prog [27, 91, 266, 270, 307, 313] 370 = some f370 := by kernel_rfl
theorem c371 : cfun Tryz.prog [27, 91, 266, 270, 307, 313] 371 = some f371 := by kernel_rfl
theorem c372 : cfun Tryz.prog [27, 91, 266, 270, 307, 313] 372 = some f372 := by kernel_rfl
theorem c381 : cfun Tryz.prog [27, 91, 266, 270, 307, 313] 381 = some f381 := by kernel_rfl
end Go.Ev.Q
