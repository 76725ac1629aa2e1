/-
  The law XpassAsks: its second part, by the kernel (0). Conditions: none.
-/
import Derived.Test.YtnkfegnbddmebaaGreatXaL
set_option maxRecDepth 1000000
namespace Go.Ev.Q
open Go Go.Ev Go.Proofs
theorem bHR1 : chk2 (T2 0 1) (HR (Int.ofNat 1)) 1 = true := by kernel_rfl
theorem bHR2 : chk2 (T2 0 2) (HR (Int.ofNat 2)) 2 = true := by kernel_rfl
theorem bHR3 : chk2 (T2 0 3) (HR (Int.ofNat 3)) 3 = true := by kernel_rfl
theorem bHR4 : chk2 (T2 0 4) (HR (Int.ofNat 4)) 4 = true := by kernel_rfl
theorem bHR5 : chk2 (T2 0 5) (HR (Int.ofNat 5)) 5 = true := by kernel_rfl
theorem bHR6 : chk2 (T2 0 6) (HR (Int.ofNat 6)) 6 = true := by kernel_rfl
theorem bHR7 : chk2 (T2 0 7) (HR (Int.ofNat 7)) 7 = true := by kernel_rfl
theorem bHR8 : chk2 (T2 0 8) (HR (Int.ofNat 8)) 8 = true := by kernel_rfl
theorem bHR9 : chk2 (T2 0 9) (HR (Int.ofNat 9)) 9 = true := by kernel_rfl
theorem bHR10 : chk2 (T2 0 10) (HR (Int.ofNat 10)) 10 = true := by kernel_rfl
theorem bHR11 : chk2 (T2 0 11) (HR (Int.ofNat 11)) 11 = true := by kernel_rfl
theorem bHR12 : chk2 (T2 0 12) (HR (Int.ofNat 12)) 12 = true := by kernel_rfl
theorem bHR13 : chk2 (T2 0 13) (HR (Int.ofNat 13)) 13 = true := by kernel_rfl
theorem bHR14 : chk2 (T2 0 14) (HR (Int.ofNat 14)) 14 = true := by kernel_rfl
theorem bHR15 : chk2 (T2 0 15) (HR (Int.ofNat 15)) 15 = true := by kernel_rfl
theorem bHR16 : chk2 (T2 0 16) (HR (Int.ofNat 16)) 16 = true := by kernel_rfl
theorem bHR17 : chk2 (T2 0 17) (HR (Int.ofNat 17)) 17 = true := by kernel_rfl
theorem bHR18 : chk2 (T2 0 18) (HR (Int.ofNat 18)) 18 = true := by kernel_rfl
theorem bHR19 : chk2 (T2 0 19) (HR (Int.ofNat 19)) 19 = true := by kernel_rfl
theorem bHR20 : chk2 (T2 0 20) (HR (Int.ofNat 20)) 20 = true := by kernel_rfl
end Go.Ev.Q
