/-
  The law XpassAsks: its first part, by the kernel (0). Conditions: none.
-/
import Derived.Test.YtnkfegnbddmebaaGreatXaL
set_option maxRecDepth 1000000
namespace Go.Ev.Q
open Go Go.Ev Go.Proofs
theorem aOz : allN (fun j => chk1 (dsF [] false false true false) (T1 (.i .i64 1) (.i .i64 0) (Nat.succ j)) (T2 1 (Nat.succ j)) (HZ (Int.ofNat (Nat.succ j)))) 20 = true := by kernel_rfl
theorem aOp : allN (fun j => chk1 (dsF [1] false false true false) (T1 (.i .i64 1) (.x 1) (Nat.succ j)) (T2 1 (Nat.succ j)) (HP (Int.ofNat (Nat.succ j)))) 20 = true := by kernel_rfl
theorem aOb : allN (fun j => chk1 (dsF [1] false false true true) (T1 (.i .i64 1) (.x 1) (Nat.succ j)) (T2 0 (Nat.succ j)) (HR (Int.ofNat (Nat.succ j)))) 20 = true := by kernel_rfl
end Go.Ev.Q
