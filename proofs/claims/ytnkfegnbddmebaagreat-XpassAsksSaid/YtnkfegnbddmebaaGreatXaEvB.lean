/-
  The abstract evaluator: plain laws of its trees and lists; how its values and heap stand to those of the model.
  Conditions: none beyond those that each theorem names.
-/
import Derived.Test.YtnkfegnbddmebaaGreatXaEvA
import Derived.Laws.Sem
import Derived.CallsIn
namespace Go.Ev
open Go

theorem bd_some {α β : Type} {o : Option α} {f : α → Option β} {b : β} (h : bd o f = some b) : ∃ a, o = some a ∧ f a = some b := by
  cases o with
  | none => cases h
  | some a => exact ⟨a, rfl, h⟩
@[simp] theorem bd_some' {α β : Type} (a : α) (f : α → Option β) : bd (some a) f = f a := rfl
@[simp] theorem bd_none' {α β : Type} (f : α → Option β) : bd none f = none := rfl
@[simp] theorem iff_true {α : Type} (a b : α) : iff true a b = a := rfl
@[simp] theorem iff_false {α : Type} (a b : α) : iff false a b = b := rfl
@[simp] theorem orN_true {α : Type} (a : Option α) : orN true a = a := rfl
@[simp] theorem orN_false {α : Type} (a : Option α) : orN false a = none := rfl
theorem orN_some {α : Type} {c : Bool} {a : Option α} {b : α} (h : orN c a = some b) : c = true ∧ a = some b := by
  cases c
  · cases h
  · exact ⟨rfl, h⟩

namespace Tr
variable {α : Type}
theorem get_nd_zero (l r : Tr α) (v : Option α) : (nd l v r).get 0 = v := rfl
theorem get_nd_even (l r : Tr α) (v : Option α) (m : Nat) (h : m % 2 = 0) : (nd l v r).get (m + 1) = l.get (m / 2) := by
  show Bool.rec (motive := fun _ => Option α) (r.get (Nat.div m 2)) (l.get (Nat.div m 2)) (Nat.beq (Nat.mod m 2) 0) = _
  have : Nat.mod m 2 = 0 := h
  rw [this]; rfl
theorem get_nd_odd (l r : Tr α) (v : Option α) (m : Nat) (h : m % 2 = 1) : (nd l v r).get (m + 1) = r.get (m / 2) := by
  show Bool.rec (motive := fun _ => Option α) (r.get (Nat.div m 2)) (l.get (Nat.div m 2)) (Nat.beq (Nat.mod m 2) 0) = _
  have : Nat.mod m 2 = 1 := h
  rw [this]; rfl
theorem set_nd_zero (x : α) (l r : Tr α) (v : Option α) : (nd l v r).set x 0 = nd l (some x) r := rfl
theorem set_nd_even (x : α) (l r : Tr α) (v : Option α) (m : Nat) (h : m % 2 = 0) : (nd l v r).set x (m + 1) = nd (l.set x (m / 2)) v r := by
  show Bool.rec (motive := fun _ => Tr α) (.nd l v (r.set x (Nat.div m 2))) (.nd (l.set x (Nat.div m 2)) v r) (Nat.beq (Nat.mod m 2) 0) = _
  have : Nat.mod m 2 = 0 := h
  rw [this]; rfl
theorem set_nd_odd (x : α) (l r : Tr α) (v : Option α) (m : Nat) (h : m % 2 = 1) : (nd l v r).set x (m + 1) = nd l v (r.set x (m / 2)) := by
  show Bool.rec (motive := fun _ => Tr α) (.nd l v (r.set x (Nat.div m 2))) (.nd (l.set x (Nat.div m 2)) v r) (Nat.beq (Nat.mod m 2) 0) = _
  have : Nat.mod m 2 = 1 := h
  rw [this]; rfl
theorem del_nd_zero (l r : Tr α) (v : Option α) : (nd l v r).del 0 = nd l none r := rfl
theorem del_nd_even (l r : Tr α) (v : Option α) (m : Nat) (h : m % 2 = 0) : (nd l v r).del (m + 1) = nd (l.del (m / 2)) v r := by
  show Bool.rec (motive := fun _ => Tr α) (.nd l v (r.del (Nat.div m 2))) (.nd (l.del (Nat.div m 2)) v r) (Nat.beq (Nat.mod m 2) 0) = _
  have : Nat.mod m 2 = 0 := h
  rw [this]; rfl
theorem del_nd_odd (l r : Tr α) (v : Option α) (m : Nat) (h : m % 2 = 1) : (nd l v r).del (m + 1) = nd l v (r.del (m / 2)) := by
  show Bool.rec (motive := fun _ => Tr α) (.nd l v (r.del (Nat.div m 2))) (.nd (l.del (Nat.div m 2)) v r) (Nat.beq (Nat.mod m 2) 0) = _
  have : Nat.mod m 2 = 1 := h
  rw [this]; rfl
theorem one_zero (x : α) (f : Nat) : one x (f + 1) 0 = nd lf (some x) lf := rfl
theorem one_even (x : α) (f m : Nat) (h : m % 2 = 0) : one x (f + 1) (m + 1) = nd (one x f (m / 2)) none lf := by
  show Bool.rec (motive := fun _ => Tr α) (.nd .lf none (one x f (Nat.div m 2))) (.nd (one x f (Nat.div m 2)) none .lf) (Nat.beq (Nat.mod m 2) 0) = _
  have : Nat.mod m 2 = 0 := h
  rw [this]; rfl
theorem one_odd (x : α) (f m : Nat) (h : m % 2 = 1) : one x (f + 1) (m + 1) = nd lf none (one x f (m / 2)) := by
  show Bool.rec (motive := fun _ => Tr α) (.nd .lf none (one x f (Nat.div m 2))) (.nd (one x f (Nat.div m 2)) none .lf) (Nat.beq (Nat.mod m 2) 0) = _
  have : Nat.mod m 2 = 1 := h
  rw [this]; rfl
@[simp] theorem get_lf (n : Nat) : (lf : Tr α).get n = none := rfl

theorem get_one (x : α) : ∀ (f n k : Nat), n < f → (one x f n).get k = if k = n then some x else none := by
  intro f
  induction f with
  | zero => intro n k h; omega
  | succ f ih =>
    intro n k h
    cases n with
    | zero =>
      rw [one_zero]
      cases k with
      | zero => simp [get_nd_zero]
      | succ k =>
        rcases Nat.mod_two_eq_zero_or_one k with hk | hk
        · rw [get_nd_even _ _ _ _ hk]; simp
        · rw [get_nd_odd _ _ _ _ hk]; simp
    | succ n =>
      rcases Nat.mod_two_eq_zero_or_one n with hn | hn
      · rw [one_even x f n hn]
        cases k with
        | zero => simp [get_nd_zero]
        | succ k =>
          rcases Nat.mod_two_eq_zero_or_one k with hk | hk
          · rw [get_nd_even _ _ _ _ hk, ih _ _ (by omega)]
            congr 1
            apply propext; omega
          · rw [get_nd_odd _ _ _ _ hk, get_lf, if_neg (by omega)]
      · rw [one_odd x f n hn]
        cases k with
        | zero => simp [get_nd_zero]
        | succ k =>
          rcases Nat.mod_two_eq_zero_or_one k with hk | hk
          · rw [get_nd_even _ _ _ _ hk, get_lf, if_neg (by omega)]
          · rw [get_nd_odd _ _ _ _ hk, ih _ _ (by omega)]
            congr 1
            apply propext; omega

theorem get_set (x : α) (t : Tr α) : ∀ n k, (t.set x n).get k = if k = n then some x else t.get k := by
  induction t with
  | lf =>
    intro n k
    show (one x (n + 1) n).get k = _
    rw [get_one x _ _ _ (by omega)]; rfl
  | nd l v r ihl ihr =>
    intro n k
    cases n with
    | zero =>
      rw [set_nd_zero]
      cases k with
      | zero => simp [get_nd_zero]
      | succ k =>
        rcases Nat.mod_two_eq_zero_or_one k with hk | hk
        · rw [get_nd_even _ _ _ _ hk, get_nd_even _ _ _ _ hk]; simp
        · rw [get_nd_odd _ _ _ _ hk, get_nd_odd _ _ _ _ hk]; simp
    | succ n =>
      rcases Nat.mod_two_eq_zero_or_one n with hn | hn
      · rw [set_nd_even _ _ _ _ _ hn]
        cases k with
        | zero => simp [get_nd_zero]
        | succ k =>
          rcases Nat.mod_two_eq_zero_or_one k with hk | hk
          · rw [get_nd_even _ _ _ _ hk, get_nd_even _ _ _ _ hk, ihl]
            have : (k / 2 = n / 2) = (k + 1 = n + 1) := by apply propext; omega
            simp only [this]
          · rw [get_nd_odd _ _ _ _ hk, get_nd_odd _ _ _ _ hk, if_neg (by omega)]
      · rw [set_nd_odd _ _ _ _ _ hn]
        cases k with
        | zero => simp [get_nd_zero]
        | succ k =>
          rcases Nat.mod_two_eq_zero_or_one k with hk | hk
          · rw [get_nd_even _ _ _ _ hk, get_nd_even _ _ _ _ hk, if_neg (by omega)]
          · rw [get_nd_odd _ _ _ _ hk, get_nd_odd _ _ _ _ hk, ihr]
            have : (k / 2 = n / 2) = (k + 1 = n + 1) := by apply propext; omega
            simp only [this]

theorem get_del (t : Tr α) : ∀ n k, (t.del n).get k = if k = n then none else t.get k := by
  induction t with
  | lf => intro n k; show (none : Option α) = _; simp
  | nd l v r ihl ihr =>
    intro n k
    cases n with
    | zero =>
      rw [del_nd_zero]
      cases k with
      | zero => simp [get_nd_zero]
      | succ k =>
        rcases Nat.mod_two_eq_zero_or_one k with hk | hk
        · rw [get_nd_even _ _ _ _ hk, get_nd_even _ _ _ _ hk]; simp
        · rw [get_nd_odd _ _ _ _ hk, get_nd_odd _ _ _ _ hk]; simp
    | succ n =>
      rcases Nat.mod_two_eq_zero_or_one n with hn | hn
      · rw [del_nd_even _ _ _ _ hn]
        cases k with
        | zero => simp [get_nd_zero]
        | succ k =>
          rcases Nat.mod_two_eq_zero_or_one k with hk | hk
          · rw [get_nd_even _ _ _ _ hk, get_nd_even _ _ _ _ hk, ihl]
            have : (k / 2 = n / 2) = (k + 1 = n + 1) := by apply propext; omega
            simp only [this]
          · rw [get_nd_odd _ _ _ _ hk, get_nd_odd _ _ _ _ hk, if_neg (by omega)]
      · rw [del_nd_odd _ _ _ _ hn]
        cases k with
        | zero => simp [get_nd_zero]
        | succ k =>
          rcases Nat.mod_two_eq_zero_or_one k with hk | hk
          · rw [get_nd_even _ _ _ _ hk, get_nd_even _ _ _ _ hk, if_neg (by omega)]
          · rw [get_nd_odd _ _ _ _ hk, get_nd_odd _ _ _ _ hk, ihr]
            have : (k / 2 = n / 2) = (k + 1 = n + 1) := by apply propext; omega
            simp only [this]

theorem get_ofL (l : List α) : ∀ (n : Nat) (t : Tr α) (k : Nat), (ofL l n t).get k = if n ≤ k ∧ k < n + l.length then l[k - n]? else t.get k := by
  induction l with
  | nil => intro n t k; show t.get k = _; simp; omega
  | cons a l ih =>
    intro n t k
    show (ofL l (n + 1) (t.set a n)).get k = _
    rw [ih, get_set]
    by_cases h : n + 1 ≤ k ∧ k < n + 1 + l.length
    · rw [if_pos h, if_pos (by simp; omega)]
      have : k - n = (k - (n + 1)) + 1 := by omega
      rw [this]; simp
    · rw [if_neg h]
      by_cases hk : k = n
      · subst hk; simp
      · rw [if_neg hk, if_neg (by simp; omega)]
end Tr

@[simp] theorem AH.get_put (H : AH) (b : Nat) (o : AO) (k : Nat) : (H.put b o).get k = if k = b then some o else H.get k := Tr.get_set _ _ _ _
@[simp] theorem AH.get_new (H : AH) (o : AO) (k : Nat) : (H.new o).get k = if k = H.n then some o else H.get k := Tr.get_set _ _ _ _
@[simp] theorem AH.get_kill (H : AH) (b k : Nat) : (H.kill b).get k = if k = b then none else H.get k := Tr.get_del _ _ _
@[simp] theorem AH.n_put (H : AH) (b : Nat) (o : AO) : (H.put b o).n = H.n := rfl
@[simp] theorem AH.n_new (H : AH) (o : AO) : (H.new o).n = H.n + 1 := rfl
@[simp] theorem AH.n_kill (H : AH) (b : Nat) : (H.kill b).n = H.n := rfl

theorem lget_eq : ∀ (l : List AV) (n : Nat), lget l n = l[n]? := by
  intro l
  induction l with
  | nil => intro n; rfl
  | cons a l ih =>
    intro n
    cases n with
    | zero => rfl
    | succ n => show lget l n = _; rw [ih]; simp
theorem nget_eq : ∀ (l : List Nat) (n : Nat), nget l n = l[n]? := by
  intro l
  induction l with
  | nil => intro n; rfl
  | cons a l ih =>
    intro n
    cases n with
    | zero => rfl
    | succ n => show nget l n = _; rw [ih]; simp

theorem ltake_some : ∀ {l : List AV} {n : Nat} {r : List AV}, ltake l n = some r → r.length = n ∧ ∀ i, i < n → r[i]? = l[i]? := by
  intro l
  induction l with
  | nil =>
    intro n r h
    cases n with
    | zero => cases h; exact ⟨rfl, fun i hi => by omega⟩
    | succ n => cases h
  | cons a l ih =>
    intro n r h
    cases n with
    | zero => cases h; exact ⟨rfl, fun i hi => by omega⟩
    | succ n =>
      obtain ⟨r', h1, h2⟩ := bd_some (show bd (ltake l n) (fun r => some (a :: r)) = some r from h)
      cases h2
      obtain ⟨e1, e2⟩ := ih h1
      refine ⟨by simp [e1], fun i hi => ?_⟩
      cases i with
      | zero => simp
      | succ i => simpa using e2 i (by omega)

theorem cut_some : ∀ {l : List AV} {o n : Nat} {r : List AV}, cut l o n = some r → r.length = n ∧ ∀ i, i < n → r[i]? = l[o + i]? := by
  intro l
  induction l with
  | nil =>
    intro o n r h
    cases o with
    | zero =>
      have h' : ltake [] n = some r := h
      obtain ⟨e1, e2⟩ := ltake_some h'
      exact ⟨e1, fun i hi => by simpa using e2 i hi⟩
    | succ o =>
      cases n with
      | zero => cases h; exact ⟨rfl, fun i hi => by omega⟩
      | succ n => cases h
  | cons a l ih =>
    intro o n r h
    cases o with
    | zero =>
      have h' : ltake (a :: l) n = some r := h
      obtain ⟨e1, e2⟩ := ltake_some h'
      exact ⟨e1, fun i hi => by simpa using e2 i hi⟩
    | succ o =>
      have h' : cut l o n = some r := h
      obtain ⟨e1, e2⟩ := ih h'
      refine ⟨e1, fun i hi => ?_⟩
      rw [e2 i hi, show o + 1 + i = (o + i) + 1 from by omega]; simp

theorem lay0_some : ∀ {vs l r : List AV}, lay0 vs l = some r → r.length = l.length ∧ vs.length ≤ l.length ∧ ∀ i, r[i]? = if i < vs.length then vs[i]? else l[i]? := by
  intro vs
  induction vs with
  | nil => intro l r h; cases h; exact ⟨rfl, by simp, fun i => by simp⟩
  | cons v vs ih =>
    intro l r h
    cases l with
    | nil => cases h
    | cons a l =>
      obtain ⟨r', h1, h2⟩ := bd_some (show bd (lay0 vs l) (fun r => some (v :: r)) = some r from h)
      cases h2
      obtain ⟨e1, e2, e3⟩ := ih h1
      refine ⟨by simp [e1], by simpa using e2, fun i => ?_⟩
      cases i with
      | zero => simp
      | succ i => simp [e3 i]

theorem lay_some : ∀ {l vs : List AV} {o : Nat} {r : List AV}, lay l vs o = some r →
    r.length = l.length ∧ o + vs.length ≤ l.length ∧ ∀ i, r[i]? = if o ≤ i ∧ i < o + vs.length then vs[i - o]? else l[i]? := by
  intro l
  induction l with
  | nil =>
    intro vs o r h
    cases o with
    | zero =>
      obtain ⟨e1, e2, e3⟩ := lay0_some (show lay0 vs [] = some r from h)
      refine ⟨e1, by simpa using e2, fun i => ?_⟩
      rw [e3 i]; simp
    | succ o => cases h
  | cons a l ih =>
    intro vs o r h
    cases o with
    | zero =>
      obtain ⟨e1, e2, e3⟩ := lay0_some (show lay0 vs (a :: l) = some r from h)
      refine ⟨e1, by simpa using e2, fun i => ?_⟩
      rw [e3 i]; simp
    | succ o =>
      obtain ⟨r', h1, h2⟩ := bd_some (show bd (lay l vs o) (fun r => some (a :: r)) = some r from h)
      cases h2
      obtain ⟨e1, e2, e3⟩ := ih h1
      refine ⟨by simp [e1], by simp; omega, fun i => ?_⟩
      cases i with
      | zero => simp
      | succ i =>
        simp only [List.getElem?_cons_succ]
        rw [e3 i]
        have : (o + 1 ≤ i + 1 ∧ i + 1 < o + 1 + vs.length) = (o ≤ i ∧ i < o + vs.length) := by apply propext; omega
        simp only [this, show i + 1 - (o + 1) = i - o from by omega]

/-! ### numbers -/
theorem kbeq_eq {a b : IntKind} (h : kbeq a b = true) : a = b := by cases a <;> cases b <;> first | rfl | cases h
@[simp] theorem kbeq_self (a : IntKind) : kbeq a a = true := by cases a <;> rfl
theorem ilt_eq (x y : Int) : ilt x y = decide (x < y) := by
  rw [Bool.eq_iff_iff, decide_eq_true_iff]
  cases x with
  | ofNat a => cases y with
    | ofNat c => show Nat.blt a c = true ↔ _; rw [Nat.blt_eq]; simp
    | negSucc c => show false = true ↔ _; simp; omega
  | negSucc a => cases y with
    | ofNat c => show true = true ↔ _; simp; omega
    | negSucc c => show Nat.blt c a = true ↔ _; rw [Nat.blt_eq]; omega
theorem ile_eq (x y : Int) : ile x y = decide (x ≤ y) := by
  rw [Bool.eq_iff_iff, decide_eq_true_iff]
  cases x with
  | ofNat a => cases y with
    | ofNat c => show Nat.ble a c = true ↔ _; rw [Nat.ble_eq]; simp
    | negSucc c => show false = true ↔ _; simp; omega
  | negSucc a => cases y with
    | ofNat c => show true = true ↔ _; simp; omega
    | negSucc c => show Nat.ble c a = true ↔ _; rw [Nat.ble_eq]; omega
theorem ieq_eq (x y : Int) : ieq x y = (x == y) := by
  rw [Bool.eq_iff_iff, beq_iff_eq]
  cases x with
  | ofNat a => cases y with
    | ofNat c => show Nat.beq a c = true ↔ _; rw [Nat.beq_eq]; exact ⟨fun h => by rw [h], fun h => by cases h; rfl⟩
    | negSucc c => show false = true ↔ _; simp
  | negSucc a => cases y with
    | ofNat c => show false = true ↔ _; simp
    | negSucc c => show Nat.beq c a = true ↔ _; rw [Nat.beq_eq]; constructor <;> intro h <;> omega

theorem fits64_wrap {x : Int} (h : fits64 x = true) : IntKind.wrap .i64 x = x := by
  have hb : -9223372036854775808 ≤ x ∧ x ≤ 9223372036854775807 := by
    cases x with
    | ofNat a => have := Nat.le_of_ble_eq_true h; simp; omega
    | negSucc a => have := Nat.le_of_ble_eq_true h; omega
  have e : (2 : Int) ^ 64 = 18446744073709551616 := by decide
  have e' : (2 : Int) ^ (64 - 1) = 9223372036854775808 := by decide
  simp only [IntKind.wrap, IntKind.bits, IntKind.signed, Bool.true_and, decide_eq_true_eq, e, e']
  by_cases h0 : 0 ≤ x
  · have : x % 18446744073709551616 = x := Int.emod_eq_of_lt h0 (by omega)
    rw [this, if_neg (by omega)]
  · have : x % 18446744073709551616 = x + 18446744073709551616 := by omega
    rw [this, if_pos (by omega)]; omega

theorem wr_eq (k : IntKind) (x : Int) : wr k x = k.wrap x := by
  cases k with
  | i8 => rfl
  | i16 => rfl
  | i32 => rfl
  | i64 =>
    show iff (fits64 x) x (IntKind.wrap .i64 x) = _
    cases h : fits64 x with
    | true => exact (fits64_wrap h).symm
    | false => rfl
  | u8 => cases x <;> first | rfl | (show Int.ofNat _ = _; simp [IntKind.wrap, IntKind.bits, IntKind.signed]; rfl)
  | u16 => cases x <;> first | rfl | (show Int.ofNat _ = _; simp [IntKind.wrap, IntKind.bits, IntKind.signed]; rfl)
  | u32 => cases x <;> first | rfl | (show Int.ofNat _ = _; simp [IntKind.wrap, IntKind.bits, IntKind.signed]; rfl)
  | u64 => cases x <;> first | rfl | (show Int.ofNat _ = _; simp [IntKind.wrap, IntKind.bits, IntKind.signed]; rfl)
end Go.Ev

namespace Go.Ev
open Go

structure MB where
  b : Nat
  o : Nat
  x : Nat

abbrev Emb := Nat → Option MB

def Emb.le (m m' : Emb) : Prop := ∀ b e, m b = some e → m' b = some e
theorem Emb.le_refl (m : Emb) : m.le m := fun _ _ h => h
theorem Emb.le_trans {m m' m'' : Emb} (h : m.le m') (h' : m'.le m'') : m.le m'' := fun b e x => h' b e (h b e x)

def bytesArr (l : List Nat) : ByteArray := ⟨(l.map fun n => UInt8.ofNat n).toArray⟩

mutual
/-- an abstract value and a value of the model's -/
def VR (ρ : Nat → Value) (m : Emb) : AV → Value → Prop
  | .b x, v => v = .bool x
  | .i k n, v => v = .int k n
  | .s l, v => v = .string (bytesArr l) ∧ ∀ n ∈ l, n < 256
  | .np, v => v = .pointer none
  | .p b o, v => ∃ e, m b = some e ∧ v = .pointer (some ⟨e.b, e.o + o, none⟩)
  | .nsl, v => v = .slice none 0 0
  | .sl b o len cap ex, v => ∃ e o' c', m b = some e ∧ v = .slice (some ⟨e.b, o', none⟩) len c' ∧ len ≤ cap ∧ c' = (if ex then cap else cap + e.x) ∧ (c' = 0 ∨ o' = e.o + o)
  | .nm, v => v = .map none
  | .mp b, v => ∃ e, m b = some e ∧ v = .map (some e.b)
  | .nf, v => v = .nilFunc
  | .fn g f c, v => ∃ f' c', v = .func (.func g) f' c' ∧ VRs ρ m f f'.toList ∧ VRs ρ m c c'.toList
  | .yl b, v => ∃ e, m b = some e ∧ v = .func (.yield e.b) #[] #[]
  | .ni, v => v = .nilIface
  | .ifc t a, v => ∃ v', v = .iface t v' ∧ VR ρ m a v'
  | .agg l, v => ∃ vs, v = .agg vs ∧ VRs ρ m l vs.toList ∧ allSingle l = true
  | .tup l, v => ∃ vs, v = .tuple vs ∧ VRs ρ m l vs.toList
  | .x k, v => v = ρ k
  | .sx b k, v => ∃ (e : MB) (n c' : Nat), m b = some e ∧ ρ k = .int .i64 (n : Int) ∧ v = .slice (some ⟨e.b, e.o, none⟩) n c' ∧ n ≤ c' ∧ 0 < n
def VRs (ρ : Nat → Value) (m : Emb) : List AV → List Value → Prop
  | [], l => l = []
  | a :: as, l => ∃ v vs, l = v :: vs ∧ VR ρ m a v ∧ VRs ρ m as vs
end

section
variable {ρ : Nat → Value} {m m' : Emb}

mutual
theorem VR.mono (h : m.le m') : ∀ {a : AV} {v : Value}, VR ρ m a v → VR ρ m' a v
  | .b _, _, x => by simpa only [VR] using x
  | .i _ _, _, x => by simpa only [VR] using x
  | .s _, _, x => by simpa only [VR] using x
  | .np, _, x => by simpa only [VR] using x
  | .p _ _, _, x => by simp only [VR] at x ⊢; obtain ⟨e, h1, h2⟩ := x; exact ⟨e, h _ _ h1, h2⟩
  | .nsl, _, x => by simpa only [VR] using x
  | .sl _ _ _ _ _, _, x => by simp only [VR] at x ⊢; obtain ⟨e, o', c', h1, h2⟩ := x; exact ⟨e, o', c', h _ _ h1, h2⟩
  | .nm, _, x => by simpa only [VR] using x
  | .mp _, _, x => by simp only [VR] at x ⊢; obtain ⟨e, h1, h2⟩ := x; exact ⟨e, h _ _ h1, h2⟩
  | .nf, _, x => by simpa only [VR] using x
  | .fn _ _ _, _, x => by simp only [VR] at x ⊢; obtain ⟨f', c', h1, h2, h3⟩ := x; exact ⟨f', c', h1, VRs.mono h h2, VRs.mono h h3⟩
  | .yl _, _, x => by simp only [VR] at x ⊢; obtain ⟨e, h1, h2⟩ := x; exact ⟨e, h _ _ h1, h2⟩
  | .ni, _, x => by simpa only [VR] using x
  | .ifc _ _, _, x => by simp only [VR] at x ⊢; obtain ⟨v', h1, h2⟩ := x; exact ⟨v', h1, VR.mono h h2⟩
  | .agg _, _, x => by simp only [VR] at x ⊢; obtain ⟨vs, h1, h2, h3⟩ := x; exact ⟨vs, h1, VRs.mono h h2, h3⟩
  | .tup _, _, x => by simp only [VR] at x ⊢; obtain ⟨vs, h1, h2⟩ := x; exact ⟨vs, h1, VRs.mono h h2⟩
  | .x _, _, x => by simpa only [VR] using x
  | .sx _ _, _, x => by simp only [VR] at x ⊢; obtain ⟨e, n, c', h1, h2⟩ := x; exact ⟨e, n, c', h _ _ h1, h2⟩
theorem VRs.mono (h : m.le m') : ∀ {as : List AV} {vs : List Value}, VRs ρ m as vs → VRs ρ m' as vs
  | [], _, x => by simpa only [VRs] using x
  | _ :: _, _, x => by simp only [VRs] at x ⊢; obtain ⟨v, vs, h1, h2, h3⟩ := x; exact ⟨v, vs, h1, VR.mono h h2, VRs.mono h h3⟩
end

theorem VRs.nil : VRs ρ m [] [] := by simp only [VRs]
theorem VRs.cons {a : AV} {v : Value} {as : List AV} {vs : List Value} (h : VR ρ m a v) (h' : VRs ρ m as vs) : VRs ρ m (a :: as) (v :: vs) := by
  simp only [VRs]; exact ⟨v, vs, rfl, h, h'⟩
theorem VRs.cons_inv {a : AV} {as : List AV} {l : List Value} (h : VRs ρ m (a :: as) l) : ∃ v vs, l = v :: vs ∧ VR ρ m a v ∧ VRs ρ m as vs := by
  simpa only [VRs] using h
theorem VRs.nil_inv {l : List Value} (h : VRs ρ m [] l) : l = [] := by simpa only [VRs] using h
theorem VRs.length : ∀ {as : List AV} {vs : List Value}, VRs ρ m as vs → as.length = vs.length
  | [], _, h => by rw [VRs.nil_inv h]; rfl
  | a :: as, _, h => by obtain ⟨v, vs, rfl, _, h2⟩ := VRs.cons_inv h; simp [VRs.length h2]
theorem VRs.get : ∀ {as : List AV} {vs : List Value} (_ : VRs ρ m as vs) {i : Nat} {a : AV}, as[i]? = some a → ∃ v, vs[i]? = some v ∧ VR ρ m a v
  | [], _, _, _, _, h => by simp at h
  | b :: as, _, h, i, a, hi => by
    obtain ⟨v, vs, rfl, h1, h2⟩ := VRs.cons_inv h
    cases i with
    | zero => simp at hi; subst hi; exact ⟨v, by simp, h1⟩
    | succ i => simp at hi; obtain ⟨v', h3, h4⟩ := VRs.get h2 hi; exact ⟨v', by simpa using h3, h4⟩
theorem VRs.of_get : ∀ {as : List AV} {vs : List Value}, as.length = vs.length → (∀ (i : Nat) a, as[i]? = some a → ∃ v, vs[i]? = some v ∧ VR ρ m a v) → VRs ρ m as vs
  | [], vs, h, _ => by cases vs with | nil => exact .nil | cons _ _ => simp at h
  | a :: as, vs, h, g => by
    cases vs with
    | nil => simp at h
    | cons v vs =>
      obtain ⟨v', h1, h2⟩ := g 0 a (by simp)
      simp at h1; subst h1
      refine .cons h2 (VRs.of_get (by simpa using h) fun i a hi => ?_)
      simpa using g (i + 1) a (by simpa using hi)
theorem VRs.append : ∀ {as bs : List AV} {vs ws : List Value}, VRs ρ m as vs → VRs ρ m bs ws → VRs ρ m (as ++ bs) (vs ++ ws)
  | [], _, _, _, h, h' => by rw [VRs.nil_inv h]; exact h'
  | a :: as, _, _, _, h, h' => by obtain ⟨v, vs, rfl, h1, h2⟩ := VRs.cons_inv h; exact .cons h1 (VRs.append h2 h')
theorem VRs.back {as : List AV} {vs : List Value} (h : VRs ρ m as vs) {i : Nat} {v : Value} (hi : vs[i]? = some v) : ∃ a, as[i]? = some a ∧ VR ρ m a v := by
  have hl := VRs.length h
  have hlt : i < vs.length := (List.getElem?_eq_some_iff.1 hi).1
  have : as[i]? = some (as[i]'(by omega)) := List.getElem?_eq_getElem (by omega)
  obtain ⟨v', h1, h2⟩ := VRs.get h this
  rw [hi] at h1; cases h1
  exact ⟨_, this, h2⟩

theorem allSingle_get : ∀ {l : List AV} (_ : allSingle l = true) {i : Nat} {a : AV}, l[i]? = some a → single a = true
  | [], _, _, _, h => by simp at h
  | b :: l, h, i, a, hi => by
    simp only [allSingle, Bool.and_eq_true] at h
    cases i with
    | zero => simp at hi; subst hi; exact h.1
    | succ i => simp at hi; exact allSingle_get h.2 hi
theorem allSingle_of : ∀ {l : List AV}, (∀ (i : Nat) a, l[i]? = some a → single a = true) → allSingle l = true
  | [], _ => rfl
  | a :: l, h => by
    simp only [allSingle, Bool.and_eq_true]
    exact ⟨h 0 a (by simp), allSingle_of fun i b hi => h (i + 1) b (by simpa using hi)⟩
theorem allSingle_append {l l' : List AV} (h : allSingle l = true) (h' : allSingle l' = true) : allSingle (l ++ l') = true := by
  induction l with
  | nil => exact h'
  | cons a l ih => simp only [allSingle, Bool.and_eq_true, List.cons_append] at h ⊢; exact ⟨h.1, ih h.2⟩

/-- the unknown values take one cell each -/
def One (ρ : Nat → Value) : Prop := ∀ k, (ρ k).oneCell' = true

theorem VR.one (hρ : One ρ) {a : AV} {v : Value} (h : VR ρ m a v) (hs : single a = true) : v.oneCell' = true := by
  cases a <;> simp only [VR] at h <;> first
    | (cases hs; done)
    | (obtain ⟨_, _, _, _, rfl, _⟩ := h; rfl)
    | (obtain ⟨_, _, _, _, _, rfl, _⟩ := h; rfl)
    | (obtain ⟨_, _, rfl⟩ := h; rfl)
    | (obtain ⟨_, _, rfl, _⟩ := h; rfl)
    | (obtain ⟨_, rfl, _⟩ := h; rfl)
    | (obtain ⟨rfl, _⟩ := h; rfl)
    | (subst h; first | rfl | exact hρ _)
end

/-- temporaries -/
def TR (ρ : Nat → Value) (m : Emb) (T : Tr AV) (tmps : Array Value) : Prop := ∀ t a, T.get t = some a → ∃ v, tmps[t]? = some v ∧ VR ρ m a v

theorem TR.mono {ρ : Nat → Value} {m m' : Emb} (h : m.le m') {T : Tr AV} {tmps : Array Value} (ht : TR ρ m T tmps) : TR ρ m' T tmps := fun t a x => by
  obtain ⟨v, h1, h2⟩ := ht t a x; exact ⟨v, h1, h2.mono h⟩

/-- entries of a map -/
def ER (ρ : Nat → Value) (m : Emb) : List (AV × AV × Nat) → List MapEntry → Prop
  | [], l => l = []
  | (k, v, n) :: es, l => ∃ e l', l = e :: l' ∧ VR ρ m k e.key ∧ VR ρ m v e.val ∧ e.born = n ∧ ER ρ m es l'

theorem ER.mono {ρ : Nat → Value} {m m' : Emb} (h : m.le m') : ∀ {es : List (AV × AV × Nat)} {l : List MapEntry}, ER ρ m es l → ER ρ m' es l
  | [], _, x => x
  | (_, _, _) :: _, _, x => by
    obtain ⟨e, l', h1, h2, h3, h4, h5⟩ := x
    exact ⟨e, l', h1, h2.mono h, h3.mono h, h4, h5.mono h⟩

def stOf : Nat → LoopState
  | 0 => .ready
  | 1 => .busy
  | _ => .exhausted

section
variable (P : Program) (ifts : List TypeId)

/-- a block -/
def OR (ρ : Nat → Value) (m : Emb) : AO → MB → Array Obj → Prop
  | .cells l esz fl, e, hp => ∃ C el fr, hp[e.b]? = some (.cells C el fr) ∧ e.o + l.length + e.x * esz ≤ C.size ∧
      (∀ i a, l[i]? = some a → single a = true ∧ ∃ v, C[e.o + i]? = some v ∧ VR ρ m a v) ∧
      (fl ≠ 2 → ∀ j, j < C.size → ¬ (fr.1 ≤ j ∧ j < fr.2)) ∧ (fl = 0 → fr = (0, 0))
  | .map es clock, e, hp => e.o = 0 ∧ ∃ es', hp[e.b]? = some (.map es' clock) ∧ ER ρ m es es'.toList
  | .si l pos, e, hp => e.o = 0 ∧ hp[e.b]? = some (.stringIter (bytesArr l) pos) ∧ ∀ n ∈ l, n < 256
  | .mi none since seen last, e, hp => e.o = 0 ∧ hp[e.b]? = some (.mapIter none since seen.toArray last)
  | .mi (some b) since seen last, e, hp => e.o = 0 ∧ ∃ e', m b = some e' ∧ hp[e.b]? = some (.mapIter (some e'.b) since seen.toArray last)
  | .loop st T ps a b, e, hp => e.o = 0 ∧ ∃ fn tmps ca cb d, hp[e.b]? = some (.loop { state := stOf st, pending := none, fn, tmps, params := ps.toArray, assign := ca, body := cb, defers := d }) ∧
      TR ρ m T tmps ∧ (∃ N, N ≤ tmps.size ∧ ccode P ifts N ca = some a ∧ ccode P ifts N cb = some b ∧ ∀ p ∈ ps, p < tmps.size)
  | .dfr, e, hp => e.o = 0 ∧ hp[e.b]? = some (.deferred (some []))
  | .os k, e, hp => ∃ (C : Array Value) (el : TypeId) (n : Nat), hp[e.b]? = some (.cells C el (0, 0)) ∧ ρ k = .int .i64 (n : Int) ∧ e.o + n ≤ C.size ∧ 0 < n ∧ ∀ i, i < n → ∃ x, C[e.o + i]? = some (.int .u8 x)

variable {P ifts} {ρ : Nat → Value} {m m' : Emb}

theorem OR.mono (h : m.le m') {o : AO} {e : MB} {hp : Array Obj} (x : OR P ifts ρ m o e hp) : OR P ifts ρ m' o e hp := by
  cases o with
  | cells l esz fl =>
    obtain ⟨C, el, fr, h1, h2, h3, h4⟩ := x
    exact ⟨C, el, fr, h1, h2, fun i a hi => by obtain ⟨s, v, h5, h6⟩ := h3 i a hi; exact ⟨s, v, h5, h6.mono h⟩, h4⟩
  | map es clock => obtain ⟨h0, es', h1, h2⟩ := x; exact ⟨h0, es', h1, h2.mono h⟩
  | si l pos => exact x
  | mi mp since seen last =>
    cases mp with
    | none => exact x
    | some b => obtain ⟨h0, e', h1, h2⟩ := x; exact ⟨h0, e', h _ _ h1, h2⟩
  | loop st T ps a b => obtain ⟨h0, fn, tmps, ca, cb, d, h1, h2, h3⟩ := x; exact ⟨h0, fn, tmps, ca, cb, d, h1, h2.mono h, h3⟩
  | dfr => exact x
  | os k => exact x

theorem OR.congr {o : AO} {e : MB} {hp hp' : Array Obj} (h : hp'[e.b]? = hp[e.b]?) (x : OR P ifts ρ m o e hp) : OR P ifts ρ m o e hp' := by
  cases o with
  | mi mp since seen last => cases mp <;> (simp only [OR] at x ⊢; rw [h]; exact x)
  | _ => simp only [OR] at x ⊢; rw [h]; exact x

theorem OR.lt {o : AO} {e : MB} {hp : Array Obj} (x : OR P ifts ρ m o e hp) : e.b < hp.size := by
  have key : ∀ {y : Obj}, hp[e.b]? = some y → e.b < hp.size := fun h => (Array.getElem?_eq_some_iff.1 h).1
  cases o with
  | cells l esz fl => obtain ⟨C, el, fr, h1, _⟩ := x; exact key h1
  | map es clock => obtain ⟨_, es', h1, _⟩ := x; exact key h1
  | si l pos => exact key x.2.1
  | mi mp since seen last =>
    cases mp with
    | none => exact key x.2
    | some b => obtain ⟨_, e', _, h1⟩ := x; exact key h1
  | loop st T ps a b => obtain ⟨_, fn, tmps, ca, cb, d, h1, _⟩ := x; exact key h1
  | dfr => exact key x.2
  | os k => obtain ⟨C, el, n, h1, _⟩ := x; exact key h1

variable (P ifts)
structure WR (ρ : Nat → Value) (m : Emb) (H : AH) (hp : Array Obj) : Prop where
  nx : ∀ b, H.n ≤ b → m b = none
  lt : ∀ b o, H.get b = some o → b < H.n
  ob : ∀ b o e, H.get b = some o → m b = some e → OR P ifts ρ m o e hp
  dj : ∀ b b' o o' e e', H.get b = some o → H.get b' = some o' → m b = some e → m b' = some e' → e.b = e'.b → b = b'

/-- a step of the abstract heap, and of the model's -/
structure St (ρ : Nat → Value) (m : Emb) (H : AH) (hp : Array Obj) (m' : Emb) (H' : AH) (hp' : Array Obj) : Prop where
  le : H.n ≤ H'.n
  sm : ∀ b, b < H.n → m' b = m b
  wr : WR P ifts ρ m' H' hp'
  sz : hp.size ≤ hp'.size
  fr : ∀ B, B < hp.size → (∀ b o e, H.get b = some o → m b = some e → e.b ≠ B) → hp'[B]? = hp[B]?
  ow : ∀ b o e, H'.get b = some o → m' b = some e → hp.size ≤ e.b ∨ ∃ b0 o0 e0, H.get b0 = some o0 ∧ m b0 = some e0 ∧ e0.b = e.b
  ub : ∀ b, b < H.n → m b = none → H'.get b = H.get b

variable {P ifts} {H H' H'' : AH} {hp hp' hp'' : Array Obj} {m'' : Emb}

theorem St.refl (h : WR P ifts ρ m H hp) : St P ifts ρ m H hp m H hp :=
  ⟨Nat.le_refl _, fun _ _ => rfl, h, Nat.le_refl _, fun _ _ _ => rfl, fun b o e h1 h2 => .inr ⟨b, o, e, h1, h2, rfl⟩, fun _ _ _ => rfl⟩

theorem WR.lt_of (h : WR P ifts ρ m H hp) {b : Nat} {e : MB} (hb : m b = some e) : b < H.n := by
  rcases Nat.lt_or_ge b H.n with h' | h'
  · exact h'
  · rw [h.nx b h'] at hb; cases hb

theorem St.emb (h : WR P ifts ρ m H hp) (s : St P ifts ρ m H hp m' H' hp') : m.le m' := fun b e hb => by
  rw [s.sm b (h.lt_of hb)]; exact hb

theorem St.trans (s : St P ifts ρ m H hp m' H' hp') (t : St P ifts ρ m' H' hp' m'' H'' hp'') : St P ifts ρ m H hp m'' H'' hp'' := by
  refine ⟨Nat.le_trans s.le t.le, fun b hb => (t.sm b (Nat.lt_of_lt_of_le hb s.le)).trans (s.sm b hb), t.wr, Nat.le_trans s.sz t.sz, ?_, ?_, ?_⟩
  · intro B hB hf
    refine (t.fr B (Nat.lt_of_lt_of_le hB s.sz) ?_).trans (s.fr B hB hf)
    intro b o e h1 h2 he
    rcases s.ow b o e h1 h2 with h3 | ⟨b0, o0, e0, h3, h4, h5⟩
    · omega
    · exact hf b0 o0 e0 h3 h4 (h5.trans he)
  · intro b o e h1 h2
    rcases t.ow b o e h1 h2 with h3 | ⟨b0, o0, e0, h3, h4, h5⟩
    · exact .inl (Nat.le_trans s.sz h3)
    · rcases s.ow b0 o0 e0 h3 h4 with h6 | ⟨b1, o1, e1, h6, h7, h8⟩
      · exact .inl (h5 ▸ h6)
      · exact .inr ⟨b1, o1, e1, h6, h7, h8.trans h5⟩
  · intro b hb hm
    rw [t.ub b (Nat.lt_of_lt_of_le hb s.le) (by rw [s.sm b hb]; exact hm), s.ub b hb hm]

/-- the embedding with one block more -/
def Emb.add (m : Emb) (b : Nat) (e : MB) : Emb := fun k => if k = b then some e else m k
@[simp] theorem Emb.add_same (m : Emb) (b : Nat) (e : MB) : m.add b e b = some e := by simp [Emb.add]
theorem Emb.add_ne (m : Emb) {b k : Nat} (e : MB) (h : k ≠ b) : m.add b e k = m k := by simp [Emb.add, h]
theorem Emb.le_add {m : Emb} {b : Nat} {e : MB} (h : m b = none) : m.le (m.add b e) := fun k e' hk => by
  by_cases hkb : k = b
  · subst hkb; rw [h] at hk; cases hk
  · rw [Emb.add_ne _ _ hkb]; exact hk

theorem St.alloc (w : WR P ifts ρ m H hp) {o : AO} {obj : Obj} {x : Nat} (ho : OR P ifts ρ (m.add H.n ⟨hp.size, 0, x⟩) o ⟨hp.size, 0, x⟩ (hp.push obj)) :
    St P ifts ρ m H hp (m.add H.n ⟨hp.size, 0, x⟩) (H.new o) (hp.push obj) := by
  have hle : m.le (m.add H.n ⟨hp.size, 0, x⟩) := Emb.le_add (w.nx _ (Nat.le_refl _))
  have old : ∀ b o' e, H.get b = some o' → m b = some e → e.b < hp.size := fun b o' e h1 h2 => (w.ob b o' e h1 h2).lt
  refine ⟨by simp, fun b hb => Emb.add_ne _ _ (by omega), ⟨?_, ?_, ?_, ?_⟩, by simp, ?_, ?_, ?_⟩
  · intro b hb
    simp at hb
    rw [Emb.add_ne _ _ (by omega)]; exact w.nx b (by omega)
  · intro b o' h
    rw [AH.get_new] at h
    simp
    split at h
    · omega
    · have := w.lt b o' h; omega
  · intro b o' e h1 h2
    rw [AH.get_new] at h1
    split at h1
    · rename_i hb; subst hb; cases h1
      rw [Emb.add_same] at h2; cases h2; exact ho
    · rename_i hb
      rw [Emb.add_ne _ _ hb] at h2
      refine OR.congr ?_ ((w.ob b o' e h1 h2).mono hle)
      rw [Array.getElem?_push, if_neg (by have := old b o' e h1 h2; omega)]
  · intro b b' o1 o2 e1 e2 h1 h2 h3 h4 he
    rw [AH.get_new] at h1 h2
    by_cases hb : b = H.n
    · by_cases hb' : b' = H.n
      · rw [hb, hb']
      · subst hb
        rw [Emb.add_same] at h3; cases h3
        rw [if_neg hb'] at h2; rw [Emb.add_ne _ _ hb'] at h4
        have := old b' o2 e2 h2 h4
        simp at he; omega
    · rw [if_neg hb] at h1; rw [Emb.add_ne _ _ hb] at h3
      by_cases hb' : b' = H.n
      · subst hb'
        rw [Emb.add_same] at h4; cases h4
        have := old b o1 e1 h1 h3
        simp at he; omega
      · rw [if_neg hb'] at h2; rw [Emb.add_ne _ _ hb'] at h4
        exact w.dj b b' o1 o2 e1 e2 h1 h2 h3 h4 he
  · intro B hB _
    rw [Array.getElem?_push, if_neg (by omega)]
  · intro b o' e h1 h2
    rw [AH.get_new] at h1
    by_cases hb : b = H.n
    · subst hb
      rw [Emb.add_same] at h2; cases h2; exact .inl (Nat.le_refl _)
    · rw [if_neg hb] at h1; rw [Emb.add_ne _ _ hb] at h2
      exact .inr ⟨b, o', e, h1, h2, rfl⟩
  · intro b hb _
    rw [AH.get_new, if_neg (by omega)]

theorem St.upd (w : WR P ifts ρ m H hp) {b : Nat} {o o' : AO} {e : MB} {obj : Obj} (hb : H.get b = some o) (hm : m b = some e)
    (ho : OR P ifts ρ m o' e (hp.setIfInBounds e.b obj)) : St P ifts ρ m H hp m (H.put b o') (hp.setIfInBounds e.b obj) := by
  have oth : ∀ k, k ≠ e.b → (hp.setIfInBounds e.b obj)[k]? = hp[k]? := fun k hk => by rw [Array.getElem?_setIfInBounds_ne]; omega
  have live : ∀ k o2, (H.put b o').get k = some o2 → ∃ o3, H.get k = some o3 := fun k o2 h => by
    rw [AH.get_put] at h
    split at h
    · rename_i hk; subst hk; exact ⟨o, hb⟩
    · exact ⟨o2, h⟩
  refine ⟨Nat.le_refl _, fun _ _ => rfl, ⟨w.nx, ?_, ?_, ?_⟩, by simp, ?_, ?_, ?_⟩
  · intro k o2 h
    obtain ⟨o3, h3⟩ := live k o2 h
    exact w.lt k o3 h3
  · intro k o2 e2 h1 h2
    rw [AH.get_put] at h1
    split at h1
    · rename_i hk; subst hk; cases h1; rw [hm] at h2; cases h2; exact ho
    · rename_i hk
      refine OR.congr (oth _ fun he => hk ?_) (w.ob k o2 e2 h1 h2)
      exact w.dj k b o2 o e2 e h1 hb h2 hm he
  · intro k k' o1 o2 e1 e2 h1 h2 h3 h4 he
    obtain ⟨o3, h5⟩ := live k o1 h1
    obtain ⟨o4, h6⟩ := live k' o2 h2
    exact w.dj k k' o3 o4 e1 e2 h5 h6 h3 h4 he
  · intro B hB hf
    exact oth B fun he => hf b o e hb hm he.symm
  · intro k o2 e2 h1 h2
    obtain ⟨o3, h5⟩ := live k o2 h1
    exact .inr ⟨k, o3, e2, h5, h2, rfl⟩
  · intro k _ hk
    rw [AH.get_put, if_neg]
    intro he; subst he; rw [hm] at hk; cases hk

theorem St.kill (w : WR P ifts ρ m H hp) {b : Nat} {e : MB} (hm : m b = some e) : St P ifts ρ m H hp m (H.kill b) hp := by
  have live : ∀ k o2, (H.kill b).get k = some o2 → H.get k = some o2 := fun k o2 h => by
    rw [AH.get_kill] at h
    split at h
    · cases h
    · exact h
  refine ⟨Nat.le_refl _, fun _ _ => rfl, ⟨w.nx, fun k o h => w.lt k o (live k o h), fun k o e h1 h2 => w.ob k o e (live k o h1) h2,
    fun k k' o1 o2 e1 e2 h1 h2 h3 h4 he => w.dj k k' o1 o2 e1 e2 (live _ _ h1) (live _ _ h2) h3 h4 he⟩, Nat.le_refl _, fun _ _ _ => rfl, fun k o e h1 h2 => .inr ⟨k, o, e, live _ _ h1, h2, rfl⟩, ?_⟩
  intro k _ hk
  rw [AH.get_kill, if_neg]
  intro he; subst he; rw [hm] at hk; cases hk
end
end Go.Ev

namespace Go.Ev
open Go
theorem onP_some {β : Type} {f : Nat → Nat → Option β} {v : AV} {r : β} (h : onP f v = some r) : (∃ a0 a1, v = .p a0 a1 ∧ f a0 a1 = some r) := by
  cases v with
  | b _ => exact absurd (show (none : Option β) = some r from h) (by simp)
  | i _ _ => exact absurd (show (none : Option β) = some r from h) (by simp)
  | s _ => exact absurd (show (none : Option β) = some r from h) (by simp)
  | np  => exact absurd (show (none : Option β) = some r from h) (by simp)
  | p _ _ => exact ⟨_, _, rfl, h⟩
  | nsl  => exact absurd (show (none : Option β) = some r from h) (by simp)
  | sl _ _ _ _ _ => exact absurd (show (none : Option β) = some r from h) (by simp)
  | nm  => exact absurd (show (none : Option β) = some r from h) (by simp)
  | mp _ => exact absurd (show (none : Option β) = some r from h) (by simp)
  | nf  => exact absurd (show (none : Option β) = some r from h) (by simp)
  | fn _ _ _ => exact absurd (show (none : Option β) = some r from h) (by simp)
  | yl _ => exact absurd (show (none : Option β) = some r from h) (by simp)
  | ni  => exact absurd (show (none : Option β) = some r from h) (by simp)
  | ifc _ _ => exact absurd (show (none : Option β) = some r from h) (by simp)
  | agg _ => exact absurd (show (none : Option β) = some r from h) (by simp)
  | tup _ => exact absurd (show (none : Option β) = some r from h) (by simp)
  | x _ => exact absurd (show (none : Option β) = some r from h) (by simp)
  | sx _ _ => exact absurd (show (none : Option β) = some r from h) (by simp)
theorem onB_some {β : Type} {f : Bool → Option β} {v : AV} {r : β} (h : onB f v = some r) : (∃ a0, v = .b a0 ∧ f a0 = some r) := by
  cases v with
  | b _ => exact ⟨_, rfl, h⟩
  | i _ _ => exact absurd (show (none : Option β) = some r from h) (by simp)
  | s _ => exact absurd (show (none : Option β) = some r from h) (by simp)
  | np  => exact absurd (show (none : Option β) = some r from h) (by simp)
  | p _ _ => exact absurd (show (none : Option β) = some r from h) (by simp)
  | nsl  => exact absurd (show (none : Option β) = some r from h) (by simp)
  | sl _ _ _ _ _ => exact absurd (show (none : Option β) = some r from h) (by simp)
  | nm  => exact absurd (show (none : Option β) = some r from h) (by simp)
  | mp _ => exact absurd (show (none : Option β) = some r from h) (by simp)
  | nf  => exact absurd (show (none : Option β) = some r from h) (by simp)
  | fn _ _ _ => exact absurd (show (none : Option β) = some r from h) (by simp)
  | yl _ => exact absurd (show (none : Option β) = some r from h) (by simp)
  | ni  => exact absurd (show (none : Option β) = some r from h) (by simp)
  | ifc _ _ => exact absurd (show (none : Option β) = some r from h) (by simp)
  | agg _ => exact absurd (show (none : Option β) = some r from h) (by simp)
  | tup _ => exact absurd (show (none : Option β) = some r from h) (by simp)
  | x _ => exact absurd (show (none : Option β) = some r from h) (by simp)
  | sx _ _ => exact absurd (show (none : Option β) = some r from h) (by simp)
theorem onI_some {β : Type} {f : IntKind → Int → Option β} {v : AV} {r : β} (h : onI f v = some r) : (∃ a0 a1, v = .i a0 a1 ∧ f a0 a1 = some r) := by
  cases v with
  | b _ => exact absurd (show (none : Option β) = some r from h) (by simp)
  | i _ _ => exact ⟨_, _, rfl, h⟩
  | s _ => exact absurd (show (none : Option β) = some r from h) (by simp)
  | np  => exact absurd (show (none : Option β) = some r from h) (by simp)
  | p _ _ => exact absurd (show (none : Option β) = some r from h) (by simp)
  | nsl  => exact absurd (show (none : Option β) = some r from h) (by simp)
  | sl _ _ _ _ _ => exact absurd (show (none : Option β) = some r from h) (by simp)
  | nm  => exact absurd (show (none : Option β) = some r from h) (by simp)
  | mp _ => exact absurd (show (none : Option β) = some r from h) (by simp)
  | nf  => exact absurd (show (none : Option β) = some r from h) (by simp)
  | fn _ _ _ => exact absurd (show (none : Option β) = some r from h) (by simp)
  | yl _ => exact absurd (show (none : Option β) = some r from h) (by simp)
  | ni  => exact absurd (show (none : Option β) = some r from h) (by simp)
  | ifc _ _ => exact absurd (show (none : Option β) = some r from h) (by simp)
  | agg _ => exact absurd (show (none : Option β) = some r from h) (by simp)
  | tup _ => exact absurd (show (none : Option β) = some r from h) (by simp)
  | x _ => exact absurd (show (none : Option β) = some r from h) (by simp)
  | sx _ _ => exact absurd (show (none : Option β) = some r from h) (by simp)
theorem onS_some {β : Type} {f : List Nat → Option β} {v : AV} {r : β} (h : onS f v = some r) : (∃ a0, v = .s a0 ∧ f a0 = some r) := by
  cases v with
  | b _ => exact absurd (show (none : Option β) = some r from h) (by simp)
  | i _ _ => exact absurd (show (none : Option β) = some r from h) (by simp)
  | s _ => exact ⟨_, rfl, h⟩
  | np  => exact absurd (show (none : Option β) = some r from h) (by simp)
  | p _ _ => exact absurd (show (none : Option β) = some r from h) (by simp)
  | nsl  => exact absurd (show (none : Option β) = some r from h) (by simp)
  | sl _ _ _ _ _ => exact absurd (show (none : Option β) = some r from h) (by simp)
  | nm  => exact absurd (show (none : Option β) = some r from h) (by simp)
  | mp _ => exact absurd (show (none : Option β) = some r from h) (by simp)
  | nf  => exact absurd (show (none : Option β) = some r from h) (by simp)
  | fn _ _ _ => exact absurd (show (none : Option β) = some r from h) (by simp)
  | yl _ => exact absurd (show (none : Option β) = some r from h) (by simp)
  | ni  => exact absurd (show (none : Option β) = some r from h) (by simp)
  | ifc _ _ => exact absurd (show (none : Option β) = some r from h) (by simp)
  | agg _ => exact absurd (show (none : Option β) = some r from h) (by simp)
  | tup _ => exact absurd (show (none : Option β) = some r from h) (by simp)
  | x _ => exact absurd (show (none : Option β) = some r from h) (by simp)
  | sx _ _ => exact absurd (show (none : Option β) = some r from h) (by simp)
theorem onAgg_some {β : Type} {f : List AV → Option β} {v : AV} {r : β} (h : onAgg f v = some r) : (∃ a0, v = .agg a0 ∧ f a0 = some r) := by
  cases v with
  | b _ => exact absurd (show (none : Option β) = some r from h) (by simp)
  | i _ _ => exact absurd (show (none : Option β) = some r from h) (by simp)
  | s _ => exact absurd (show (none : Option β) = some r from h) (by simp)
  | np  => exact absurd (show (none : Option β) = some r from h) (by simp)
  | p _ _ => exact absurd (show (none : Option β) = some r from h) (by simp)
  | nsl  => exact absurd (show (none : Option β) = some r from h) (by simp)
  | sl _ _ _ _ _ => exact absurd (show (none : Option β) = some r from h) (by simp)
  | nm  => exact absurd (show (none : Option β) = some r from h) (by simp)
  | mp _ => exact absurd (show (none : Option β) = some r from h) (by simp)
  | nf  => exact absurd (show (none : Option β) = some r from h) (by simp)
  | fn _ _ _ => exact absurd (show (none : Option β) = some r from h) (by simp)
  | yl _ => exact absurd (show (none : Option β) = some r from h) (by simp)
  | ni  => exact absurd (show (none : Option β) = some r from h) (by simp)
  | ifc _ _ => exact absurd (show (none : Option β) = some r from h) (by simp)
  | agg _ => exact ⟨_, rfl, h⟩
  | tup _ => exact absurd (show (none : Option β) = some r from h) (by simp)
  | x _ => exact absurd (show (none : Option β) = some r from h) (by simp)
  | sx _ _ => exact absurd (show (none : Option β) = some r from h) (by simp)
theorem onTup_some {β : Type} {f : List AV → Option β} {v : AV} {r : β} (h : onTup f v = some r) : (∃ a0, v = .tup a0 ∧ f a0 = some r) := by
  cases v with
  | b _ => exact absurd (show (none : Option β) = some r from h) (by simp)
  | i _ _ => exact absurd (show (none : Option β) = some r from h) (by simp)
  | s _ => exact absurd (show (none : Option β) = some r from h) (by simp)
  | np  => exact absurd (show (none : Option β) = some r from h) (by simp)
  | p _ _ => exact absurd (show (none : Option β) = some r from h) (by simp)
  | nsl  => exact absurd (show (none : Option β) = some r from h) (by simp)
  | sl _ _ _ _ _ => exact absurd (show (none : Option β) = some r from h) (by simp)
  | nm  => exact absurd (show (none : Option β) = some r from h) (by simp)
  | mp _ => exact absurd (show (none : Option β) = some r from h) (by simp)
  | nf  => exact absurd (show (none : Option β) = some r from h) (by simp)
  | fn _ _ _ => exact absurd (show (none : Option β) = some r from h) (by simp)
  | yl _ => exact absurd (show (none : Option β) = some r from h) (by simp)
  | ni  => exact absurd (show (none : Option β) = some r from h) (by simp)
  | ifc _ _ => exact absurd (show (none : Option β) = some r from h) (by simp)
  | agg _ => exact absurd (show (none : Option β) = some r from h) (by simp)
  | tup _ => exact ⟨_, rfl, h⟩
  | x _ => exact absurd (show (none : Option β) = some r from h) (by simp)
  | sx _ _ => exact absurd (show (none : Option β) = some r from h) (by simp)
theorem onIfc_some {β : Type} {f : Nat → AV → Option β} {v : AV} {r : β} (h : onIfc f v = some r) : (∃ a0 a1, v = .ifc a0 a1 ∧ f a0 a1 = some r) := by
  cases v with
  | b _ => exact absurd (show (none : Option β) = some r from h) (by simp)
  | i _ _ => exact absurd (show (none : Option β) = some r from h) (by simp)
  | s _ => exact absurd (show (none : Option β) = some r from h) (by simp)
  | np  => exact absurd (show (none : Option β) = some r from h) (by simp)
  | p _ _ => exact absurd (show (none : Option β) = some r from h) (by simp)
  | nsl  => exact absurd (show (none : Option β) = some r from h) (by simp)
  | sl _ _ _ _ _ => exact absurd (show (none : Option β) = some r from h) (by simp)
  | nm  => exact absurd (show (none : Option β) = some r from h) (by simp)
  | mp _ => exact absurd (show (none : Option β) = some r from h) (by simp)
  | nf  => exact absurd (show (none : Option β) = some r from h) (by simp)
  | fn _ _ _ => exact absurd (show (none : Option β) = some r from h) (by simp)
  | yl _ => exact absurd (show (none : Option β) = some r from h) (by simp)
  | ni  => exact absurd (show (none : Option β) = some r from h) (by simp)
  | ifc _ _ => exact ⟨_, _, rfl, h⟩
  | agg _ => exact absurd (show (none : Option β) = some r from h) (by simp)
  | tup _ => exact absurd (show (none : Option β) = some r from h) (by simp)
  | x _ => exact absurd (show (none : Option β) = some r from h) (by simp)
  | sx _ _ => exact absurd (show (none : Option β) = some r from h) (by simp)
theorem onCall_some {β : Type} {f : Nat → List AV → List AV → Option β} {g : Nat → Option β} {v : AV} {r : β} (h : onCall f g v = some r) : (∃ a0 a1 a2, v = .fn a0 a1 a2 ∧ f a0 a1 a2 = some r) ∨ (∃ a0, v = .yl a0 ∧ g a0 = some r) := by
  cases v with
  | b _ => exact absurd (show (none : Option β) = some r from h) (by simp)
  | i _ _ => exact absurd (show (none : Option β) = some r from h) (by simp)
  | s _ => exact absurd (show (none : Option β) = some r from h) (by simp)
  | np  => exact absurd (show (none : Option β) = some r from h) (by simp)
  | p _ _ => exact absurd (show (none : Option β) = some r from h) (by simp)
  | nsl  => exact absurd (show (none : Option β) = some r from h) (by simp)
  | sl _ _ _ _ _ => exact absurd (show (none : Option β) = some r from h) (by simp)
  | nm  => exact absurd (show (none : Option β) = some r from h) (by simp)
  | mp _ => exact absurd (show (none : Option β) = some r from h) (by simp)
  | nf  => exact absurd (show (none : Option β) = some r from h) (by simp)
  | fn _ _ _ => exact .inl ⟨_, _, _, rfl, h⟩
  | yl _ => exact .inr (⟨_, rfl, h⟩)
  | ni  => exact absurd (show (none : Option β) = some r from h) (by simp)
  | ifc _ _ => exact absurd (show (none : Option β) = some r from h) (by simp)
  | agg _ => exact absurd (show (none : Option β) = some r from h) (by simp)
  | tup _ => exact absurd (show (none : Option β) = some r from h) (by simp)
  | x _ => exact absurd (show (none : Option β) = some r from h) (by simp)
  | sx _ _ => exact absurd (show (none : Option β) = some r from h) (by simp)
theorem onSl_some {β : Type} {z : Option β} {f : Nat → Nat → Nat → Nat → Bool → Option β} {v : AV} {r : β} (h : onSl z f v = some r) : (v = .nsl ∧ z = some r) ∨ (∃ a0 a1 a2 a3 a4, v = .sl a0 a1 a2 a3 a4 ∧ f a0 a1 a2 a3 a4 = some r) := by
  cases v with
  | b _ => exact absurd (show (none : Option β) = some r from h) (by simp)
  | i _ _ => exact absurd (show (none : Option β) = some r from h) (by simp)
  | s _ => exact absurd (show (none : Option β) = some r from h) (by simp)
  | np  => exact absurd (show (none : Option β) = some r from h) (by simp)
  | p _ _ => exact absurd (show (none : Option β) = some r from h) (by simp)
  | nsl  => exact .inl ⟨rfl, h⟩
  | sl _ _ _ _ _ => exact .inr (⟨_, _, _, _, _, rfl, h⟩)
  | nm  => exact absurd (show (none : Option β) = some r from h) (by simp)
  | mp _ => exact absurd (show (none : Option β) = some r from h) (by simp)
  | nf  => exact absurd (show (none : Option β) = some r from h) (by simp)
  | fn _ _ _ => exact absurd (show (none : Option β) = some r from h) (by simp)
  | yl _ => exact absurd (show (none : Option β) = some r from h) (by simp)
  | ni  => exact absurd (show (none : Option β) = some r from h) (by simp)
  | ifc _ _ => exact absurd (show (none : Option β) = some r from h) (by simp)
  | agg _ => exact absurd (show (none : Option β) = some r from h) (by simp)
  | tup _ => exact absurd (show (none : Option β) = some r from h) (by simp)
  | x _ => exact absurd (show (none : Option β) = some r from h) (by simp)
  | sx _ _ => exact absurd (show (none : Option β) = some r from h) (by simp)
theorem onSrc_some {β : Type} {z : Option β} {f : Nat → Nat → Nat → Nat → Bool → Option β} {g : List Nat → Option β} {v : AV} {r : β} (h : onSrc z f g v = some r) : (v = .nsl ∧ z = some r) ∨ (∃ a0 a1 a2 a3 a4, v = .sl a0 a1 a2 a3 a4 ∧ f a0 a1 a2 a3 a4 = some r) ∨ (∃ a0, v = .s a0 ∧ g a0 = some r) := by
  cases v with
  | b _ => exact absurd (show (none : Option β) = some r from h) (by simp)
  | i _ _ => exact absurd (show (none : Option β) = some r from h) (by simp)
  | s _ => exact .inr (.inr (⟨_, rfl, h⟩))
  | np  => exact absurd (show (none : Option β) = some r from h) (by simp)
  | p _ _ => exact absurd (show (none : Option β) = some r from h) (by simp)
  | nsl  => exact .inl ⟨rfl, h⟩
  | sl _ _ _ _ _ => exact .inr (.inl ⟨_, _, _, _, _, rfl, h⟩)
  | nm  => exact absurd (show (none : Option β) = some r from h) (by simp)
  | mp _ => exact absurd (show (none : Option β) = some r from h) (by simp)
  | nf  => exact absurd (show (none : Option β) = some r from h) (by simp)
  | fn _ _ _ => exact absurd (show (none : Option β) = some r from h) (by simp)
  | yl _ => exact absurd (show (none : Option β) = some r from h) (by simp)
  | ni  => exact absurd (show (none : Option β) = some r from h) (by simp)
  | ifc _ _ => exact absurd (show (none : Option β) = some r from h) (by simp)
  | agg _ => exact absurd (show (none : Option β) = some r from h) (by simp)
  | tup _ => exact absurd (show (none : Option β) = some r from h) (by simp)
  | x _ => exact absurd (show (none : Option β) = some r from h) (by simp)
  | sx _ _ => exact absurd (show (none : Option β) = some r from h) (by simp)
theorem onLen_some {β : Type} {z : Option β} {f : Nat → Nat → Nat → Nat → Bool → Option β} {g : List Nat → Option β} {q : Nat → Option β} {v : AV} {r : β} (h : onLen z f g q v = some r) : (v = .nsl ∧ z = some r) ∨ (∃ a0 a1 a2 a3 a4, v = .sl a0 a1 a2 a3 a4 ∧ f a0 a1 a2 a3 a4 = some r) ∨ (∃ a0, v = .s a0 ∧ g a0 = some r) ∨ (∃ a0, v = .x a0 ∧ q a0 = some r) := by
  cases v with
  | b _ => exact absurd (show (none : Option β) = some r from h) (by simp)
  | i _ _ => exact absurd (show (none : Option β) = some r from h) (by simp)
  | s _ => exact .inr (.inr (.inl ⟨_, rfl, h⟩))
  | np  => exact absurd (show (none : Option β) = some r from h) (by simp)
  | p _ _ => exact absurd (show (none : Option β) = some r from h) (by simp)
  | nsl  => exact .inl ⟨rfl, h⟩
  | sl _ _ _ _ _ => exact .inr (.inl ⟨_, _, _, _, _, rfl, h⟩)
  | nm  => exact absurd (show (none : Option β) = some r from h) (by simp)
  | mp _ => exact absurd (show (none : Option β) = some r from h) (by simp)
  | nf  => exact absurd (show (none : Option β) = some r from h) (by simp)
  | fn _ _ _ => exact absurd (show (none : Option β) = some r from h) (by simp)
  | yl _ => exact absurd (show (none : Option β) = some r from h) (by simp)
  | ni  => exact absurd (show (none : Option β) = some r from h) (by simp)
  | ifc _ _ => exact absurd (show (none : Option β) = some r from h) (by simp)
  | agg _ => exact absurd (show (none : Option β) = some r from h) (by simp)
  | tup _ => exact absurd (show (none : Option β) = some r from h) (by simp)
  | x _ => exact .inr (.inr (.inr (⟨_, rfl, h⟩)))
  | sx _ _ => exact absurd (show (none : Option β) = some r from h) (by simp)
theorem onMp_some {β : Type} {z : Option β} {f : Nat → Option β} {v : AV} {r : β} (h : onMp z f v = some r) : (v = .nm ∧ z = some r) ∨ (∃ a0, v = .mp a0 ∧ f a0 = some r) := by
  cases v with
  | b _ => exact absurd (show (none : Option β) = some r from h) (by simp)
  | i _ _ => exact absurd (show (none : Option β) = some r from h) (by simp)
  | s _ => exact absurd (show (none : Option β) = some r from h) (by simp)
  | np  => exact absurd (show (none : Option β) = some r from h) (by simp)
  | p _ _ => exact absurd (show (none : Option β) = some r from h) (by simp)
  | nsl  => exact absurd (show (none : Option β) = some r from h) (by simp)
  | sl _ _ _ _ _ => exact absurd (show (none : Option β) = some r from h) (by simp)
  | nm  => exact .inl ⟨rfl, h⟩
  | mp _ => exact .inr (⟨_, rfl, h⟩)
  | nf  => exact absurd (show (none : Option β) = some r from h) (by simp)
  | fn _ _ _ => exact absurd (show (none : Option β) = some r from h) (by simp)
  | yl _ => exact absurd (show (none : Option β) = some r from h) (by simp)
  | ni  => exact absurd (show (none : Option β) = some r from h) (by simp)
  | ifc _ _ => exact absurd (show (none : Option β) = some r from h) (by simp)
  | agg _ => exact absurd (show (none : Option β) = some r from h) (by simp)
  | tup _ => exact absurd (show (none : Option β) = some r from h) (by simp)
  | x _ => exact absurd (show (none : Option β) = some r from h) (by simp)
  | sx _ _ => exact absurd (show (none : Option β) = some r from h) (by simp)
theorem onNc_some {β : Type} {f : Nat → Nat → Option β} {g : Nat → List AV → List AV → Option β} {q : Nat → Option β} {k : Nat → AV → Option β} {v : AV} {r : β} (h : onNc f g q k v = some r) : (∃ a0 a1, v = .p a0 a1 ∧ f a0 a1 = some r) ∨ (∃ a0 a1 a2, v = .fn a0 a1 a2 ∧ g a0 a1 a2 = some r) ∨ (∃ a0, v = .yl a0 ∧ q a0 = some r) ∨ (∃ a0 a1, v = .ifc a0 a1 ∧ k a0 a1 = some r) := by
  cases v with
  | b _ => exact absurd (show (none : Option β) = some r from h) (by simp)
  | i _ _ => exact absurd (show (none : Option β) = some r from h) (by simp)
  | s _ => exact absurd (show (none : Option β) = some r from h) (by simp)
  | np  => exact absurd (show (none : Option β) = some r from h) (by simp)
  | p _ _ => exact .inl ⟨_, _, rfl, h⟩
  | nsl  => exact absurd (show (none : Option β) = some r from h) (by simp)
  | sl _ _ _ _ _ => exact absurd (show (none : Option β) = some r from h) (by simp)
  | nm  => exact absurd (show (none : Option β) = some r from h) (by simp)
  | mp _ => exact absurd (show (none : Option β) = some r from h) (by simp)
  | nf  => exact absurd (show (none : Option β) = some r from h) (by simp)
  | fn _ _ _ => exact .inr (.inl ⟨_, _, _, rfl, h⟩)
  | yl _ => exact .inr (.inr (.inl ⟨_, rfl, h⟩))
  | ni  => exact absurd (show (none : Option β) = some r from h) (by simp)
  | ifc _ _ => exact .inr (.inr (.inr (⟨_, _, rfl, h⟩)))
  | agg _ => exact absurd (show (none : Option β) = some r from h) (by simp)
  | tup _ => exact absurd (show (none : Option β) = some r from h) (by simp)
  | x _ => exact absurd (show (none : Option β) = some r from h) (by simp)
  | sx _ _ => exact absurd (show (none : Option β) = some r from h) (by simp)
theorem onPN_some {β : Type} {z : Option β} {f : Nat → Nat → Option β} {v : AV} {r : β} (h : onPN z f v = some r) : (v = .np ∧ z = some r) ∨ (∃ a0 a1, v = .p a0 a1 ∧ f a0 a1 = some r) := by
  cases v with
  | b _ => exact absurd (show (none : Option β) = some r from h) (by simp)
  | i _ _ => exact absurd (show (none : Option β) = some r from h) (by simp)
  | s _ => exact absurd (show (none : Option β) = some r from h) (by simp)
  | np  => exact .inl ⟨rfl, h⟩
  | p _ _ => exact .inr (⟨_, _, rfl, h⟩)
  | nsl  => exact absurd (show (none : Option β) = some r from h) (by simp)
  | sl _ _ _ _ _ => exact absurd (show (none : Option β) = some r from h) (by simp)
  | nm  => exact absurd (show (none : Option β) = some r from h) (by simp)
  | mp _ => exact absurd (show (none : Option β) = some r from h) (by simp)
  | nf  => exact absurd (show (none : Option β) = some r from h) (by simp)
  | fn _ _ _ => exact absurd (show (none : Option β) = some r from h) (by simp)
  | yl _ => exact absurd (show (none : Option β) = some r from h) (by simp)
  | ni  => exact absurd (show (none : Option β) = some r from h) (by simp)
  | ifc _ _ => exact absurd (show (none : Option β) = some r from h) (by simp)
  | agg _ => exact absurd (show (none : Option β) = some r from h) (by simp)
  | tup _ => exact absurd (show (none : Option β) = some r from h) (by simp)
  | x _ => exact absurd (show (none : Option β) = some r from h) (by simp)
  | sx _ _ => exact absurd (show (none : Option β) = some r from h) (by simp)
theorem onIN_some {β : Type} {z : Option β} {f : Nat → AV → Option β} {v : AV} {r : β} (h : onIN z f v = some r) : (v = .ni ∧ z = some r) ∨ (∃ a0 a1, v = .ifc a0 a1 ∧ f a0 a1 = some r) := by
  cases v with
  | b _ => exact absurd (show (none : Option β) = some r from h) (by simp)
  | i _ _ => exact absurd (show (none : Option β) = some r from h) (by simp)
  | s _ => exact absurd (show (none : Option β) = some r from h) (by simp)
  | np  => exact absurd (show (none : Option β) = some r from h) (by simp)
  | p _ _ => exact absurd (show (none : Option β) = some r from h) (by simp)
  | nsl  => exact absurd (show (none : Option β) = some r from h) (by simp)
  | sl _ _ _ _ _ => exact absurd (show (none : Option β) = some r from h) (by simp)
  | nm  => exact absurd (show (none : Option β) = some r from h) (by simp)
  | mp _ => exact absurd (show (none : Option β) = some r from h) (by simp)
  | nf  => exact absurd (show (none : Option β) = some r from h) (by simp)
  | fn _ _ _ => exact absurd (show (none : Option β) = some r from h) (by simp)
  | yl _ => exact absurd (show (none : Option β) = some r from h) (by simp)
  | ni  => exact .inl ⟨rfl, h⟩
  | ifc _ _ => exact .inr (⟨_, _, rfl, h⟩)
  | agg _ => exact absurd (show (none : Option β) = some r from h) (by simp)
  | tup _ => exact absurd (show (none : Option β) = some r from h) (by simp)
  | x _ => exact absurd (show (none : Option β) = some r from h) (by simp)
  | sx _ _ => exact absurd (show (none : Option β) = some r from h) (by simp)
theorem onFN_some {β : Type} {z : Option β} {f : Nat → List AV → List AV → Option β} {v : AV} {r : β} (h : onFN z f v = some r) : (v = .nf ∧ z = some r) ∨ (∃ a0 a1 a2, v = .fn a0 a1 a2 ∧ f a0 a1 a2 = some r) := by
  cases v with
  | b _ => exact absurd (show (none : Option β) = some r from h) (by simp)
  | i _ _ => exact absurd (show (none : Option β) = some r from h) (by simp)
  | s _ => exact absurd (show (none : Option β) = some r from h) (by simp)
  | np  => exact absurd (show (none : Option β) = some r from h) (by simp)
  | p _ _ => exact absurd (show (none : Option β) = some r from h) (by simp)
  | nsl  => exact absurd (show (none : Option β) = some r from h) (by simp)
  | sl _ _ _ _ _ => exact absurd (show (none : Option β) = some r from h) (by simp)
  | nm  => exact absurd (show (none : Option β) = some r from h) (by simp)
  | mp _ => exact absurd (show (none : Option β) = some r from h) (by simp)
  | nf  => exact .inl ⟨rfl, h⟩
  | fn _ _ _ => exact .inr (⟨_, _, _, rfl, h⟩)
  | yl _ => exact absurd (show (none : Option β) = some r from h) (by simp)
  | ni  => exact absurd (show (none : Option β) = some r from h) (by simp)
  | ifc _ _ => exact absurd (show (none : Option β) = some r from h) (by simp)
  | agg _ => exact absurd (show (none : Option β) = some r from h) (by simp)
  | tup _ => exact absurd (show (none : Option β) = some r from h) (by simp)
  | x _ => exact absurd (show (none : Option β) = some r from h) (by simp)
  | sx _ _ => exact absurd (show (none : Option β) = some r from h) (by simp)
theorem onPX_some {β : Type} {f : Nat → Nat → Option β} {g : Nat → Option β} {v : AV} {r : β} (h : onPX f g v = some r) : (∃ a0 a1, v = .p a0 a1 ∧ f a0 a1 = some r) ∨ (∃ a0, v = .x a0 ∧ g a0 = some r) := by
  cases v with
  | b _ => exact absurd (show (none : Option β) = some r from h) (by simp)
  | i _ _ => exact absurd (show (none : Option β) = some r from h) (by simp)
  | s _ => exact absurd (show (none : Option β) = some r from h) (by simp)
  | np  => exact absurd (show (none : Option β) = some r from h) (by simp)
  | p _ _ => exact .inl ⟨_, _, rfl, h⟩
  | nsl  => exact absurd (show (none : Option β) = some r from h) (by simp)
  | sl _ _ _ _ _ => exact absurd (show (none : Option β) = some r from h) (by simp)
  | nm  => exact absurd (show (none : Option β) = some r from h) (by simp)
  | mp _ => exact absurd (show (none : Option β) = some r from h) (by simp)
  | nf  => exact absurd (show (none : Option β) = some r from h) (by simp)
  | fn _ _ _ => exact absurd (show (none : Option β) = some r from h) (by simp)
  | yl _ => exact absurd (show (none : Option β) = some r from h) (by simp)
  | ni  => exact absurd (show (none : Option β) = some r from h) (by simp)
  | ifc _ _ => exact absurd (show (none : Option β) = some r from h) (by simp)
  | agg _ => exact absurd (show (none : Option β) = some r from h) (by simp)
  | tup _ => exact absurd (show (none : Option β) = some r from h) (by simp)
  | x _ => exact .inr (⟨_, rfl, h⟩)
  | sx _ _ => exact absurd (show (none : Option β) = some r from h) (by simp)
theorem onIX_some {β : Type} {f : IntKind → Int → Option β} {g : Nat → Option β} {v : AV} {r : β} (h : onIX f g v = some r) : (∃ a0 a1, v = .i a0 a1 ∧ f a0 a1 = some r) ∨ (∃ a0, v = .x a0 ∧ g a0 = some r) := by
  cases v with
  | b _ => exact absurd (show (none : Option β) = some r from h) (by simp)
  | i _ _ => exact .inl ⟨_, _, rfl, h⟩
  | s _ => exact absurd (show (none : Option β) = some r from h) (by simp)
  | np  => exact absurd (show (none : Option β) = some r from h) (by simp)
  | p _ _ => exact absurd (show (none : Option β) = some r from h) (by simp)
  | nsl  => exact absurd (show (none : Option β) = some r from h) (by simp)
  | sl _ _ _ _ _ => exact absurd (show (none : Option β) = some r from h) (by simp)
  | nm  => exact absurd (show (none : Option β) = some r from h) (by simp)
  | mp _ => exact absurd (show (none : Option β) = some r from h) (by simp)
  | nf  => exact absurd (show (none : Option β) = some r from h) (by simp)
  | fn _ _ _ => exact absurd (show (none : Option β) = some r from h) (by simp)
  | yl _ => exact absurd (show (none : Option β) = some r from h) (by simp)
  | ni  => exact absurd (show (none : Option β) = some r from h) (by simp)
  | ifc _ _ => exact absurd (show (none : Option β) = some r from h) (by simp)
  | agg _ => exact absurd (show (none : Option β) = some r from h) (by simp)
  | tup _ => exact absurd (show (none : Option β) = some r from h) (by simp)
  | x _ => exact .inr (⟨_, rfl, h⟩)
  | sx _ _ => exact absurd (show (none : Option β) = some r from h) (by simp)
theorem onSx_some {β : Type} {d : Option β} {f : Nat → Nat → Option β} {v : AV} {r : β} (h : onSx d f v = some r) : (∃ b k, v = .sx b k ∧ f b k = some r) ∨ ((∀ b k, v ≠ .sx b k) ∧ d = some r) := by
  cases v <;> first
    | exact .inl ⟨_, _, rfl, h⟩
    | exact .inr ⟨fun _ _ e => (by cases e), h⟩

theorem onOs_some {β : Type} {f : Nat → Option β} {o : AO} {r : β} (h : onOs f o = some r) : ∃ k, o = .os k ∧ f k = some r := by
  cases o <;> first
    | exact ⟨_, rfl, h⟩
    | exact absurd (show (none : Option β) = some r from h) (by simp)

theorem onBU_some {β : Type} {f : Bool → Option β} {g : List AV → Option β} {v : AV} {r : β} (h : onBU f g v = some r) : (∃ a0, v = .b a0 ∧ f a0 = some r) ∨ (∃ a0, v = .tup a0 ∧ g a0 = some r) := by
  cases v with
  | b _ => exact .inl ⟨_, rfl, h⟩
  | i _ _ => exact absurd (show (none : Option β) = some r from h) (by simp)
  | s _ => exact absurd (show (none : Option β) = some r from h) (by simp)
  | np  => exact absurd (show (none : Option β) = some r from h) (by simp)
  | p _ _ => exact absurd (show (none : Option β) = some r from h) (by simp)
  | nsl  => exact absurd (show (none : Option β) = some r from h) (by simp)
  | sl _ _ _ _ _ => exact absurd (show (none : Option β) = some r from h) (by simp)
  | nm  => exact absurd (show (none : Option β) = some r from h) (by simp)
  | mp _ => exact absurd (show (none : Option β) = some r from h) (by simp)
  | nf  => exact absurd (show (none : Option β) = some r from h) (by simp)
  | fn _ _ _ => exact absurd (show (none : Option β) = some r from h) (by simp)
  | yl _ => exact absurd (show (none : Option β) = some r from h) (by simp)
  | ni  => exact absurd (show (none : Option β) = some r from h) (by simp)
  | ifc _ _ => exact absurd (show (none : Option β) = some r from h) (by simp)
  | agg _ => exact absurd (show (none : Option β) = some r from h) (by simp)
  | tup _ => exact .inr (⟨_, rfl, h⟩)
  | x _ => exact absurd (show (none : Option β) = some r from h) (by simp)
  | sx _ _ => exact absurd (show (none : Option β) = some r from h) (by simp)
section
variable {P : Program} {ifts : List TypeId} {ρ : Nat → Value} {m : Emb}

theorem bytesArr_of (s : ByteArray) : bytesArr (s.data.toList.map fun c => c.toNat) = s := by
  unfold bytesArr
  rw [List.map_map]
  have : (fun n => UInt8.ofNat n) ∘ (fun c : UInt8 => c.toNat) = id := by funext c; simp
  rw [this, List.map_id]

theorem cval_ok : ∀ (n : Nat) {v : Value} {a : AV}, cval n v = some a → VR ρ m a v := by
  intro n
  induction n with
  | zero => intro v a h; cases h
  | succ n ih =>
    have ihs : ∀ {l : List Value} {as : List AV}, cvals (cval n) l = some as → VRs ρ m as l := by
      intro l
      induction l with
      | nil => intro as h; cases h; exact .nil
      | cons v l ihl =>
        intro as h
        obtain ⟨a, h1, h2⟩ := bd_some (show bd (cval n v) (fun a => bd (cvals (cval n) l) fun as => some (a :: as)) = some as from h)
        obtain ⟨as', h3, h4⟩ := bd_some h2
        cases h4
        exact .cons (ih h1) (ihl h3)
    intro v a h
    unfold cval at h
    split at h
    · cases h; simp only [VR]
    · cases h; simp only [VR]
    · rename_i s; cases h; simp only [VR]; refine ⟨by rw [bytesArr_of], fun n hn => ?_⟩
      obtain ⟨c, _, rfl⟩ := List.mem_map.1 hn
      exact c.toNat_lt
    · cases h; simp only [VR]
    · cases h; simp only [VR]
    · cases h; simp only [VR]
    · cases h; simp only [VR]
    · cases h; simp only [VR]
    · rename_i cs
      obtain ⟨l, h1, h2⟩ := bd_some h
      cases hs : allSingle l with
      | true => simp only [hs] at h2; cases h2; simp only [VR]; exact ⟨cs, rfl, ihs h1, hs⟩
      | false => simp only [hs] at h2; cases h2
    · rename_i cs
      obtain ⟨l, h1, h2⟩ := bd_some h
      cases h2; simp only [VR]; exact ⟨cs, rfl, ihs h1⟩
    · cases h

theorem opd_ok {a : Act} {T : Tr AV} (hT : TR ρ m T a.tmps) {x : Operand} {ax : AOpd} {v : AV} (hx : copd x = some ax) (hv : ax.ev T = some v) : VR ρ m v (a.eval x) := by
  unfold copd at hx
  split at hx
  · cases hx
    obtain ⟨v', h1, h2⟩ := hT _ _ (show T.get _ = some v from hv)
    simpa [Act.eval, Array.getD_eq_getD_getElem?, h1] using h2
  · obtain ⟨c, h1, h2⟩ := bd_some hx
    cases h2
    cases (show some c = some v from hv)
    exact cval_ok _ h1
  · cases hx
    cases (show some (AV.fn _ [] []) = some v from hv)
    simp only [VR, Act.eval]
    exact ⟨#[], #[], rfl, .nil, .nil⟩
  · cases hx

theorem opds_ok {a : Act} {T : Tr AV} (hT : TR ρ m T a.tmps) : ∀ {xs : List Operand} {axs : List AOpd} {vs : List AV}, copds xs = some axs → evs axs T = some vs → VRs ρ m vs (xs.map a.eval)
  | [], _, _, h, h' => by cases h; cases h'; exact .nil
  | x :: xs, _, _, h, h' => by
    obtain ⟨ax, h1, h2⟩ := bd_some (show bd (copd x) (fun a => bd (copds xs) fun as => some (a :: as)) = _ from h)
    obtain ⟨axs, h3, h4⟩ := bd_some h2
    cases h4
    obtain ⟨v, h5, h6⟩ := bd_some (show bd (ax.ev T) (fun v => bd (evs axs T) fun vs => some (v :: vs)) = _ from h')
    obtain ⟨vs, h7, h8⟩ := bd_some h6
    cases h8
    exact .cons (opd_ok hT h1 h5) (opds_ok hT h3 h7)

/-! the model's reads of its tables -/
variable {w : World}
theorem r_und {t : TypeId} {d : TypeDesc} (h : P.underlying t = some d) : (underlying t).run P w = .ok d w := by simp [underlying, h]
theorem r_inf {t : TypeId} {i : TypeInfo} (h : P.info? t = some i) : (typeInfo t).run P w = .ok i w := by simp [typeInfo, h]
theorem r_size {t : TypeId} {n : Nat} (h : tsize P t = some n) : (sizeOf t).run P w = .ok n w := by
  obtain ⟨i, h1, h2⟩ := bd_some h; cases h2
  simp [sizeOf, r_inf h1]
theorem r_agg {t : TypeId} {g : Bool} (h : tagg P t = some g) : (isAgg t).run P w = .ok g w := by
  obtain ⟨d, h1, h2⟩ := bd_some h
  simp only [isAgg, Sem.run_bind, r_und h1, Result.andThen_ok]
  split at h2 <;> cases h2 <;> simp_all
theorem r_zero {t : TypeId} {z : AV} (h : tzero P t = some z) : ∃ v, (∀ (ρ : Nat → Value) (m : Emb), VR ρ m z v) ∧ ∀ w, (zeroValue t).run P w = .ok v w := by
  obtain ⟨i, h1, h2⟩ := bd_some h
  obtain ⟨v, h3, h4⟩ := bd_some h2
  exact ⟨v, fun ρ m => cval_ok _ h4, fun w => by simp [zeroValue, r_inf h1, h3]⟩
end
end Go.Ev

