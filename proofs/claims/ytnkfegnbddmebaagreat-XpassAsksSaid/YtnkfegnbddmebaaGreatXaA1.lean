/-
  The law XpassAsks: its first part, by the kernel (1). Conditions: none.
-/
import Derived.Test.YtnkfegnbddmebaaGreatXaL
set_option maxRecDepth 1000000
namespace Go.Ev.Q
open Go Go.Ev Go.Proofs
theorem aNz (g : Bool) : allN (fun j => chk1 (dsF [] true false false g) (T1 (.x 0) (.i .i64 0) (Nat.succ j)) (T2 0 (Nat.succ j)) (HR (Int.ofNat (Nat.succ j)))) 20 = true := by kernel_rfl
theorem aNp (g : Bool) : allN (fun j => chk1 (dsF [1] true false false g) (T1 (.x 0) (.x 1) (Nat.succ j)) (T2 0 (Nat.succ j)) (HR (Int.ofNat (Nat.succ j)))) 20 = true := by kernel_rfl
theorem aZz (g : Bool) : allN (fun j => chk1 (dsF [] false false false g) (T1 (.i .i64 0) (.i .i64 0) (Nat.succ j)) (T2 0 (Nat.succ j)) (HR (Int.ofNat (Nat.succ j)))) 20 = true := by kernel_rfl
end Go.Ev.Q
