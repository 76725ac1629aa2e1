/-
  The law XpassAsks: its second part, by the kernel (2). Conditions: none.
-/
import Derived.Test.YtnkfegnbddmebaaGreatXaL
set_option maxRecDepth 1000000
namespace Go.Ev.Q
open Go Go.Ev Go.Proofs
theorem bHP1 : chk2 (T2 1 1) (HP (Int.ofNat 1)) 1 = true := by kernel_rfl
theorem bHP2 : chk2 (T2 1 2) (HP (Int.ofNat 2)) 2 = true := by kernel_rfl
theorem bHP3 : chk2 (T2 1 3) (HP (Int.ofNat 3)) 3 = true := by kernel_rfl
theorem bHP4 : chk2 (T2 1 4) (HP (Int.ofNat 4)) 4 = true := by kernel_rfl
theorem bHP5 : chk2 (T2 1 5) (HP (Int.ofNat 5)) 5 = true := by kernel_rfl
theorem bHP6 : chk2 (T2 1 6) (HP (Int.ofNat 6)) 6 = true := by kernel_rfl
theorem bHP7 : chk2 (T2 1 7) (HP (Int.ofNat 7)) 7 = true := by kernel_rfl
theorem bHP8 : chk2 (T2 1 8) (HP (Int.ofNat 8)) 8 = true := by kernel_rfl
theorem bHP9 : chk2 (T2 1 9) (HP (Int.ofNat 9)) 9 = true := by kernel_rfl
theorem bHP10 : chk2 (T2 1 10) (HP (Int.ofNat 10)) 10 = true := by kernel_rfl
theorem bHP11 : chk2 (T2 1 11) (HP (Int.ofNat 11)) 11 = true := by kernel_rfl
theorem bHP12 : chk2 (T2 1 12) (HP (Int.ofNat 12)) 12 = true := by kernel_rfl
theorem bHP13 : chk2 (T2 1 13) (HP (Int.ofNat 13)) 13 = true := by kernel_rfl
theorem bHP14 : chk2 (T2 1 14) (HP (Int.ofNat 14)) 14 = true := by kernel_rfl
theorem bHP15 : chk2 (T2 1 15) (HP (Int.ofNat 15)) 15 = true := by kernel_rfl
theorem bHP16 : chk2 (T2 1 16) (HP (Int.ofNat 16)) 16 = true := by kernel_rfl
theorem bHP17 : chk2 (T2 1 17) (HP (Int.ofNat 17)) 17 = true := by kernel_rfl
theorem bHP18 : chk2 (T2 1 18) (HP (Int.ofNat 18)) 18 = true := by kernel_rfl
theorem bHP19 : chk2 (T2 1 19) (HP (Int.ofNat 19)) 19 = true := by kernel_rfl
theorem bHP20 : chk2 (T2 1 20) (HP (Int.ofNat 20)) 20 = true := by kernel_rfl
end Go.Ev.Q
