/-
  The law XpassAsks: its first part, by the kernel (2). Conditions: none.
-/
import Derived.Test.YtnkfegnbddmebaaGreatXaL
set_option maxRecDepth 1000000
namespace Go.Ev.Q
open Go Go.Ev Go.Proofs
theorem aZp (g : Bool) : allN (fun j => chk1 (dsF [1] false false false g) (T1 (.i .i64 0) (.x 1) (Nat.succ j)) (T2 0 (Nat.succ j)) (HR (Int.ofNat (Nat.succ j)))) 20 = true := by kernel_rfl
theorem aFz (g : Bool) : allN (fun j => chk1 (dsF [] false true false g) (T1 (.x 0) (.i .i64 0) (Nat.succ j)) (T2 0 (Nat.succ j)) (HR (Int.ofNat (Nat.succ j)))) 20 = true := by kernel_rfl
theorem aFp (g : Bool) : allN (fun j => chk1 (dsF [1] false true false g) (T1 (.x 0) (.x 1) (Nat.succ j)) (T2 0 (Nat.succ j)) (HR (Int.ofNat (Nat.succ j)))) 20 = true := by kernel_rfl
end Go.Ev.Q
