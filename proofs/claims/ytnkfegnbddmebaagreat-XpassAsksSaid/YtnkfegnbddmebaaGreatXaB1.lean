/-
  The law XpassAsks: its second part, by the kernel (1). Conditions: none.
-/
import Derived.Test.YtnkfegnbddmebaaGreatXaL
set_option maxRecDepth 1000000
namespace Go.Ev.Q
open Go Go.Ev Go.Proofs
theorem bHZ1 : chk2 (T2 1 1) (HZ (Int.ofNat 1)) 1 = true := by kernel_rfl
theorem bHZ2 : chk2 (T2 1 2) (HZ (Int.ofNat 2)) 2 = true := by kernel_rfl
theorem bHZ3 : chk2 (T2 1 3) (HZ (Int.ofNat 3)) 3 = true := by kernel_rfl
theorem bHZ4 : chk2 (T2 1 4) (HZ (Int.ofNat 4)) 4 = true := by kernel_rfl
theorem bHZ5 : chk2 (T2 1 5) (HZ (Int.ofNat 5)) 5 = true := by kernel_rfl
theorem bHZ6 : chk2 (T2 1 6) (HZ (Int.ofNat 6)) 6 = true := by kernel_rfl
theorem bHZ7 : chk2 (T2 1 7) (HZ (Int.ofNat 7)) 7 = true := by kernel_rfl
theorem bHZ8 : chk2 (T2 1 8) (HZ (Int.ofNat 8)) 8 = true := by kernel_rfl
theorem bHZ9 : chk2 (T2 1 9) (HZ (Int.ofNat 9)) 9 = true := by kernel_rfl
theorem bHZ10 : chk2 (T2 1 10) (HZ (Int.ofNat 10)) 10 = true := by kernel_rfl
theorem bHZ11 : chk2 (T2 1 11) (HZ (Int.ofNat 11)) 11 = true := by kernel_rfl
theorem bHZ12 : chk2 (T2 1 12) (HZ (Int.ofNat 12)) 12 = true := by kernel_rfl
theorem bHZ13 : chk2 (T2 1 13) (HZ (Int.ofNat 13)) 13 = true := by kernel_rfl
theorem bHZ14 : chk2 (T2 1 14) (HZ (Int.ofNat 14)) 14 = true := by kernel_rfl
theorem bHZ15 : chk2 (T2 1 15) (HZ (Int.ofNat 15)) 15 = true := by kernel_rfl
theorem bHZ16 : chk2 (T2 1 16) (HZ (Int.ofNat 16)) 16 = true := by kernel_rfl
theorem bHZ17 : chk2 (T2 1 17) (HZ (Int.ofNat 17)) 17 = true := by kernel_rfl
theorem bHZ18 : chk2 (T2 1 18) (HZ (Int.ofNat 18)) 18 = true := by kernel_rfl
theorem bHZ19 : chk2 (T2 1 19) (HZ (Int.ofNat 19)) 19 = true := by kernel_rfl
theorem bHZ20 : chk2 (T2 1 20) (HZ (Int.ofNat 20)) 20 = true := by kernel_rfl
end Go.Ev.Q
