/-
  The law XpassAsks, walked: called with whatever numbers it returns true, and nothing that was there turns. Conditions: the third number is not less than zero.
-/
import Derived.Test.YtnkfegnbddmebaaGreatXaW
import Derived.Test.YtnkfegnbddmebaaGreatXaA0
import Derived.Test.YtnkfegnbddmebaaGreatXaA1
import Derived.Test.YtnkfegnbddmebaaGreatXaA2
import Derived.Test.YtnkfegnbddmebaaGreatXaB0
import Derived.Test.YtnkfegnbddmebaaGreatXaB1
import Derived.Test.YtnkfegnbddmebaaGreatXaB2
namespace Go.Ev.Q
open Go Go.Ev Go.Proofs Go.RowKit
theorem bHR : ∀ j : Nat, j < 20 → chk2 (T2 0 (Nat.succ j)) (HR (Int.ofNat (Nat.succ j))) (Nat.succ j) = true
  | 0, _ => bHR1
  | 1, _ => bHR2
  | 2, _ => bHR3
  | 3, _ => bHR4
  | 4, _ => bHR5
  | 5, _ => bHR6
  | 6, _ => bHR7
  | 7, _ => bHR8
  | 8, _ => bHR9
  | 9, _ => bHR10
  | 10, _ => bHR11
  | 11, _ => bHR12
  | 12, _ => bHR13
  | 13, _ => bHR14
  | 14, _ => bHR15
  | 15, _ => bHR16
  | 16, _ => bHR17
  | 17, _ => bHR18
  | 18, _ => bHR19
  | 19, _ => bHR20
  | n + 20, h => absurd h (by omega)
theorem bHZ : ∀ j : Nat, j < 20 → chk2 (T2 1 (Nat.succ j)) (HZ (Int.ofNat (Nat.succ j))) (Nat.succ j) = true
  | 0, _ => bHZ1
  | 1, _ => bHZ2
  | 2, _ => bHZ3
  | 3, _ => bHZ4
  | 4, _ => bHZ5
  | 5, _ => bHZ6
  | 6, _ => bHZ7
  | 7, _ => bHZ8
  | 8, _ => bHZ9
  | 9, _ => bHZ10
  | 10, _ => bHZ11
  | 11, _ => bHZ12
  | 12, _ => bHZ13
  | 13, _ => bHZ14
  | 14, _ => bHZ15
  | 15, _ => bHZ16
  | 16, _ => bHZ17
  | 17, _ => bHZ18
  | 18, _ => bHZ19
  | 19, _ => bHZ20
  | n + 20, h => absurd h (by omega)
theorem bHP : ∀ j : Nat, j < 20 → chk2 (T2 1 (Nat.succ j)) (HP (Int.ofNat (Nat.succ j))) (Nat.succ j) = true
  | 0, _ => bHP1
  | 1, _ => bHP2
  | 2, _ => bHP3
  | 3, _ => bHP4
  | 4, _ => bHP5
  | 5, _ => bHP6
  | 6, _ => bHP7
  | 7, _ => bHP8
  | 8, _ => bHP9
  | 9, _ => bHP10
  | 10, _ => bHP11
  | 11, _ => bHP12
  | 12, _ => bHP13
  | 13, _ => bHP14
  | 14, _ => bHP15
  | 15, _ => bHP16
  | 16, _ => bHP17
  | 17, _ => bHP18
  | 18, _ => bHP19
  | 19, _ => bHP20
  | n + 20, h => absurd h (by omega)

theorem walk (d s i l : Int) (hi : 0 ≤ i) (w0 : World) : Goal d s i l w0 := by
  by_cases ho : s < 0 ∨ 30000 < s ∨ l < 1 ∨ 20 < l
  · exact far d s i l w0 ho
  obtain ⟨j, rfl⟩ : ∃ j : Nat, l = Int.ofNat (Nat.succ j) := ⟨l.toNat - 1, by show l = ((l.toNat - 1 + 1 : Nat) : Int); omega⟩
  have hj : j < 20 := by
    have e : Int.ofNat (Nat.succ j) = (j : Int) + 1 := rfl
    rw [e] at ho
    omega
  have h0 : 0 ≤ s := by omega
  have h1 : s ≤ 30000 := by omega
  have hk : 1 ≤ Nat.succ j := by omega
  have no : ∀ k : Nat, k ∈ ([] : List Nat) → k = 1 ∧ 0 < s := fun k hk => by cases hk
  have on : 0 < s → ∀ k : Nat, k ∈ [1] → k = 1 ∧ 0 < s := fun hs k hk => by simp at hk; exact ⟨hk, hs⟩
  have fz := dsF_ok Tryz.prog (d := d) (i := i) (l := Int.ofNat (Nat.succ j)) h0 h1 no
  have fp := fun hs => dsF_ok Tryz.prog (d := d) (i := i) (l := Int.ofNat (Nat.succ j)) h0 h1 (on hs)
  rcases (show s = 0 ∨ 0 < s by omega) with hs | hs
  · subst hs
    rcases (show d < 0 ∨ d = 0 ∨ d = 1 ∨ 2 ≤ d by omega) with hd | hd | hd | hd
    · rw [ilt_t hd, ilt_t (x := d) (y := 2) (by omega), ieq_f (x := d) (y := 1) (by omega)] at fz
      exact near w0 hi hk fz rfl (da := .x 0) (by simp only [VR]; rfl) (sa := .i .i64 0) (by simp only [VR]) (allN_get (aNz _) j hj) (bHR j hj)
    · subst hd
      exact near w0 hi hk fz rfl (da := .i .i64 0) (by simp only [VR]) (sa := .i .i64 0) (by simp only [VR]) (allN_get (aZz _) j hj) (bHR j hj)
    · subst hd
      exact near w0 hi hk fz rfl (da := .i .i64 1) (by simp only [VR]) (sa := .i .i64 0) (by simp only [VR]) (allN_get aOz j hj) (bHZ j hj)
    · rw [ilt_f (x := d) (y := 0) (by omega), ilt_f (x := d) (y := 2) (by omega), ieq_f (x := d) (y := 1) (by omega)] at fz
      exact near w0 hi hk fz rfl (da := .x 0) (by simp only [VR]; rfl) (sa := .i .i64 0) (by simp only [VR]) (allN_get (aFz _) j hj) (bHR j hj)
  · have fp := fp hs
    rcases (show d < 0 ∨ d = 0 ∨ d = 1 ∨ 2 ≤ d by omega) with hd | hd | hd | hd
    · rw [ilt_t hd, ilt_t (x := d) (y := 2) (by omega), ieq_f (x := d) (y := 1) (by omega)] at fp
      exact near w0 hi hk fp rfl (da := .x 0) (by simp only [VR]; rfl) (sa := .x 1) (by simp only [VR]; rfl) (allN_get (aNp _) j hj) (bHR j hj)
    · subst hd
      exact near w0 hi hk fp rfl (da := .i .i64 0) (by simp only [VR]) (sa := .x 1) (by simp only [VR]; rfl) (allN_get (aZp _) j hj) (bHR j hj)
    · subst hd
      rcases Int.lt_or_le 20000 s with hb | hb
      · rw [ilt_t hb] at fp
        exact near w0 hi hk fp rfl (da := .i .i64 1) (by simp only [VR]) (sa := .x 1) (by simp only [VR]; rfl) (allN_get aOb j hj) (bHR j hj)
      · rw [ilt_f hb] at fp
        exact near w0 hi hk fp rfl (da := .i .i64 1) (by simp only [VR]) (sa := .x 1) (by simp only [VR]; rfl) (allN_get aOp j hj) (bHP j hj)
    · rw [ilt_f (x := d) (y := 0) (by omega), ilt_f (x := d) (y := 2) (by omega), ieq_f (x := d) (y := 1) (by omega)] at fp
      exact near w0 hi hk fp rfl (da := .x 0) (by simp only [VR]; rfl) (sa := .x 1) (by simp only [VR]; rfl) (allN_get (aFp _) j hj) (bHR j hj)
end Go.Ev.Q
