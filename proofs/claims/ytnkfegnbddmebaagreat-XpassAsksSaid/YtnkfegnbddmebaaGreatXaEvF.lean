/-
  The abstract evaluator: regions that draw their order; code, calls, rounds: what is reckoned of a call holds of it in every world that stands so.
  Conditions: none beyond those that each theorem names.
-/
import Derived.Test.YtnkfegnbddmebaaGreatXaEvE
import Derived.LoopNIn
import Derived.Below
namespace Go.Ev
open Go
section
variable {P : Program} {ifts : List TypeId} {N : Nat} {ops' : Array Oper}

/-- k is waited for by i -/
def prec (ms : Array Nat) (k i : Nat) : Prop := (ms.getD i 0).testBit k = true

theorem maskOf_bit (ms : Array Nat) (k : Nat) : ∀ (l : List Nat), (maskOf ms l).testBit k = true ↔ ∃ e ∈ l, k = e ∨ (ms.getD e 0).testBit k = true
  | [] => by simp [maskOf]
  | e :: l => by
    simp only [maskOf, Nat.testBit_or, Bool.or_eq_true, maskOf_bit ms k l, List.mem_cons]
    rw [Nat.one_shiftLeft, Nat.testBit_two_pow, decide_eq_true_iff]
    constructor
    · rintro ((h | h) | ⟨e', h1, h2⟩)
      · exact ⟨e, .inl rfl, .inl h.symm⟩
      · exact ⟨e, .inl rfl, .inr h⟩
      · exact ⟨e', .inr h1, h2⟩
    · rintro ⟨e', rfl | h1, h2⟩
      · rcases h2 with h | h
        · exact .inl (.inl h.symm)
        · exact .inl (.inr h)
      · exact .inr ⟨e', h1, h2⟩

theorem maskOf_congr {ms ms' : Array Nat} : ∀ {l : List Nat}, (∀ e ∈ l, ms.getD e 0 = ms'.getD e 0) → maskOf ms l = maskOf ms' l
  | [], _ => rfl
  | e :: l, h => by
    simp only [maskOf]
    rw [h e (by simp), maskOf_congr fun e' he => h e' (by simp [he])]

theorem masks_size : ∀ (l : List Oper) (ms : Array Nat), (masks l ms).size = ms.size + l.length
  | [], ms => by simp [masks]
  | o :: l, ms => by simp [masks, masks_size l, Nat.add_assoc, Nat.add_comm 1]

theorem getD_push_lt {ms : Array Nat} {x i : Nat} (h : i < ms.size) : (ms.push x).getD i 0 = ms.getD i 0 := by
  simp only [Array.getD_eq_getD_getElem?, Array.getElem?_push]
  rw [if_neg (by omega)]

theorem masks_old : ∀ (l : List Oper) (ms : Array Nat) (i : Nat), i < ms.size → (masks l ms).getD i 0 = ms.getD i 0
  | [], _, _, _ => rfl
  | o :: l, ms, i, h => by
    simp only [masks]
    rw [masks_old l _ i (by simp; omega), getD_push_lt h]

theorem masks_spec : ∀ (l : List Oper) (ms : Array Nat) (i : Nat) (o : Oper), l[i]? = some o →
    ∃ ms', ms'.size = ms.size + i ∧ (∀ k, k < ms'.size → ms'.getD k 0 = (masks l ms).getD k 0) ∧ (masks l ms).getD (ms.size + i) 0 = maskOf ms' (afts o)
  | [], _, _, _, h => by simp at h
  | o' :: l, ms, 0, o, h => by
    simp at h; subst h
    refine ⟨ms, by simp, fun k hk => (masks_old _ _ _ hk).symm, ?_⟩
    simp only [masks, Nat.add_zero]
    rw [masks_old l _ _ (by simp)]
    simp [Array.getD_eq_getD_getElem?]
  | o' :: l, ms, i + 1, o, h => by
    simp at h
    obtain ⟨ms', h1, h2, h3⟩ := masks_spec l (ms.push (maskOf ms (afts o'))) i o h
    refine ⟨ms', by simp at h1; omega, fun k hk => by rw [h2 k hk]; rfl, ?_⟩
    rw [← h3]
    simp only [masks, Array.size_push]
    congr 1; omega

theorem backOk_spec : ∀ (l : List Oper) (n i : Nat) (o : Oper), backOk l n = true → l[i]? = some o → ∀ e ∈ afts o, e < n + i
  | [], _, _, _, _, h => by simp at h
  | o' :: l, n, 0, o, hb, h => by
    simp at h; subst h
    simp only [backOk, Bool.and_eq_true, List.all_eq_true] at hb
    intro e he
    have := Nat.le_of_ble_eq_true (hb.1 e he)
    omega
  | o' :: l, n, i + 1, o, hb, h => by
    simp at h
    simp only [backOk, Bool.and_eq_true] at hb
    intro e he
    have := backOk_spec l (n + 1) i o hb.2 h e he
    omega

theorem copers_at : ∀ {l : List Oper} {al : List AOper}, copers P ifts N ops' l = some al → al.length = l.length ∧ ∀ (i : Nat) (o : Oper), l[i]? = some o → ∃ a, al[i]? = some a ∧ coper P ifts N ops' o = some a
  | [], al, h => by cases h; exact ⟨rfl, fun i o h => by simp at h⟩
  | o :: l, al, h => by
    obtain ⟨a, h1, h2⟩ := bd_some (show bd (coper P ifts N ops' o) _ = some al from h)
    obtain ⟨al', h3, h4⟩ := bd_some h2
    cases h4
    obtain ⟨h5, h6⟩ := copers_at h3
    refine ⟨by simp [h5], fun i o' hi => ?_⟩
    cases i with
    | zero => simp at hi; subst hi; exact ⟨a, by simp, h1⟩
    | succ i => simp at hi; simpa using h6 i o' hi

/-- the operation at a place -/
def opAt (as : Array AOper) (i : Nat) : AOper := as.getD i default
theorem getD_opAt (as : Array AOper) (i : Nat) : as.getD i default = opAt as i := rfl

/-- the plan goes on behind what is done -/
def PlanP (as : Array AOper) (ms : Array Nat) : List Nat → List Nat → Prop
  | _, [] => True
  | bef, i :: l => i < as.size ∧ i ∉ bef ∧ (∀ k, prec ms k i → k ∈ bef) ∧ (cls (opAt as i).op = 3 → ∀ j ∈ l, prec ms i j) ∧ PlanP as ms (i :: bef) l

theorem planOk_spec {as : Array AOper} {ms : Array Nat} : ∀ (l : List Nat) (done : Nat) (bef : List Nat), (∀ k, done.testBit k = true ↔ k ∈ bef) → planOk as ms l done = true → PlanP as ms bef l
  | [], _, _, _, _ => trivial
  | i :: l, done, bef, hd, h => by
    simp only [planOk, getD_opAt, Bool.and_eq_true, Bool.or_eq_true, Bool.not_eq_true', bne_iff_ne, ne_eq, List.all_eq_true, beq_iff_eq] at h
    obtain ⟨⟨⟨⟨h1, h2⟩, h3⟩, h4⟩, h5⟩ := h
    refine ⟨Nat.le_of_ble_eq_true h1, fun hi => ?_, fun k hk => ?_, fun hc j hj => ?_, planOk_spec l _ (i :: bef) (fun k => ?_) h5⟩
    · rw [(hd i).2 hi] at h2; cases h2
    · refine (hd k).1 ?_
      have hk' : (ms.getD i 0).testBit k = true := hk
      rw [← h3, Nat.testBit_and, Bool.and_eq_true] at hk'
      exact hk'.2
    · rcases h4 with h4 | h4
      · exact absurd hc h4
      · exact h4 j hj
    · rw [Nat.testBit_or, Bool.or_eq_true, Nat.one_shiftLeft, Nat.testBit_two_pow, decide_eq_true_iff, hd k, List.mem_cons]
      constructor
      · rintro (h | h)
        · exact .inr h
        · exact .inl h.symm
      · rintro (h | h)
        · exact .inr h.symm
        · exact .inl h

/-- what the checks of a drawn region say -/
structure DOk (P : Program) (ifts : List TypeId) (N : Nat) (ops' : Array Oper) (as : Array AOper) (ms : Array Nat) : Prop where
  sz : as.size = ops'.size
  op : ∀ i o, ops'[i]? = some o → coper P ifts N ops' o = some (opAt as i)
  msk : ∀ i o, ops'[i]? = some o → ∀ k, prec ms k i ↔ ∃ e ∈ afts o, k = e ∨ prec ms k e
  back : ∀ i o, ops'[i]? = some o → ∀ e ∈ afts o, e < i
  uniq : ∀ i j t, i < as.size → j < as.size → (opAt as i).d = some t → (opAt as j).d = some t → i = j
  rd : ∀ i j t, i < as.size → j < as.size → (opAt as j).d = some t → t ∈ reads (opAt as i) → prec ms j i ∨ (cls (opAt as i).op ≠ 1 ∧ (i = j ∨ prec ms i j))
  c1 : ∀ i, i < as.size → cls (opAt as i).op = 1 → ∃ t, (opAt as i).d = some t

theorem cdrw_some {al : List AOper} (h : cdrw P ifts N ops' = some al) : ∃ as ms π, DOk P ifts N ops' as ms ∧ PlanP as ms [] π ∧ (∀ i, i < as.size → i ∈ π) ∧ al = withRc as ms [] π := by
  obtain ⟨l, h1, h2⟩ := bd_some (show bd (copers P ifts N ops' ops'.toList) _ = some al from h)
  simp only at h2
  split at h2
  · rename_i hc
    cases h2
    simp only [Bool.and_eq_true, List.all_eq_true] at hc
    obtain ⟨⟨⟨⟨hb, hcov⟩, hp⟩, hn⟩, hg⟩ := hc
    obtain ⟨hl, hat⟩ := copers_at h1
    have hback : ∀ i o, ops'[i]? = some o → ∀ e ∈ afts o, e < i := fun i o ho e he => by
      have := backOk_spec ops'.toList 0 i o hb (by simpa using ho) e he
      omega
    refine ⟨l.toArray, masks ops'.toList #[], _, ⟨?_, ?_, ?_, hback, ?_, ?_, ?_⟩, planOk_spec _ 0 [] (fun k => by simp) hp, fun i hi => ?_, rfl⟩
    · simp [hl]
    · intro i o ho
      obtain ⟨a, h3, h4⟩ := hat i o (by simpa using ho)
      rw [h4, ← getD_opAt]
      simp [Array.getD_eq_getD_getElem?, h3]
    · intro i o ho k
      obtain ⟨ms', g1, g2, g3⟩ := masks_spec ops'.toList #[] i o (by simpa using ho)
      simp only [List.size_toArray, List.length_nil, Nat.zero_add] at g1 g3
      unfold prec
      rw [g3, maskOf_bit]
      constructor
      · rintro ⟨e, h5, h6⟩
        exact ⟨e, h5, h6.imp id fun h => by rw [← g2 e (by rw [g1]; exact hback i o ho e h5)]; exact h⟩
      · rintro ⟨e, h5, h6⟩
        exact ⟨e, h5, h6.imp id fun h => by rw [g2 e (by rw [g1]; exact hback i o ho e h5)]; exact h⟩
    · intro i j t hi hj hdi hdj
      have := hn
      simp only [namesOk, List.all_eq_true, List.mem_range, getD_opAt] at this
      have h5 := this j hj
      rw [hdj] at h5
      have h6 := h5
      simp only [List.all_eq_true, List.mem_range, Bool.and_eq_true, Bool.or_eq_true] at h6
      have h7 := (h6 i hi).1
      rw [hdi] at h7
      rcases h7 with h7 | h7
      · exact Nat.eq_of_beq_eq_true h7
      · simp at h7
    · intro i j t hi hj hdj hr
      have := hn
      simp only [namesOk, List.all_eq_true, List.mem_range, getD_opAt] at this
      have h5 := this j hj
      rw [hdj] at h5
      simp only [List.all_eq_true, List.mem_range, Bool.and_eq_true, Bool.or_eq_true] at h5
      rcases (h5 i hi).2 with (h7 | h7) | ⟨h7, h8⟩
      · have hct : (reads (opAt l.toArray i)).contains t = true := by simpa using hr
        rw [hct] at h7; simp at h7
      · exact .inl h7
      · refine .inr ⟨by simpa using h7, ?_⟩
        rcases h8 with h8 | h8
        · exact .inl (Nat.eq_of_beq_eq_true h8)
        · exact .inr h8
    · intro i hi hc1
      have := hn
      simp only [namesOk, List.all_eq_true, List.mem_range, getD_opAt] at this
      have h5 := this i hi
      cases hd : (opAt l.toArray i).d with
      | some t => exact ⟨t, rfl⟩
      | none => rw [hd] at h5; simp only [hc1] at h5; simp at h5
    · have := hcov i (by simpa using hi)
      simpa using this
  · cases h2
end
end Go.Ev

namespace Go.Ev
open Go

/-- a tree cut down to some places -/
noncomputable def Tr.only {α : Type} (T : Tr α) : List Nat → Tr α
  | [] => .lf
  | t :: l => match T.get t with
    | some v => (only T l).set v t
    | none => only T l

theorem Tr.only_get {α : Type} {T : Tr α} : ∀ {l : List Nat} {t : Nat}, (T.only l).get t = if t ∈ l then T.get t else none
  | [], t => by simp [Tr.only]
  | u :: l, t => by
    unfold Tr.only
    split
    · rename_i v hv
      rw [Tr.get_set, Tr.only_get]
      by_cases h : t = u
      · subst h; simp [hv]
      · simp [h]
    · rename_i hv
      rw [Tr.only_get]
      by_cases h : t = u
      · subst h; simp [hv]
      · simp [h]

section
variable {F : Facts} {T T' : Tr AV} {H H' : AH} {R : Rec} {FT : Fns}

theorem wants_congr {g : Option (Nat × Bool)} (h : ∀ j b, g = some (j, b) → T.get j = T'.get j) : wants g T = wants g T' := by
  cases g with
  | none => rfl
  | some p =>
    show bd (T.get p.1) _ = bd (T'.get p.1) _
    rw [h p.1 p.2 rfl]

theorem pure_congr {op : AOp} (h : ∀ t ∈ readsOp op, T.get t = T'.get t) : pureOp op F T H = pureOp op F T' H := by
  have h0 := exop_congr (F := F) (H := H) (R := fun _ _ _ _ => none) (FT := fun _ => none) h
  have inj : ∀ {x y : Option AV}, bd x (fun v => some (v, H)) = bd y (fun v => some (v, H)) → x = y := by
    intro x y hxy
    cases x <;> cases y <;> simp_all
  cases op <;> first
    | rfl
    | exact inj h0

theorem eff_congr {op : AOp} (h : ∀ t ∈ readsOp op, T.get t = T'.get t) : effOp op T H = effOp op T' H := by
  have h0 := exop_congr (F := {}) (H := H) (R := fun _ _ _ _ => none) (FT := fun _ => none) h
  cases op <;> first
    | rfl
    | exact h0
    | skip
  case mks a b z l c =>
    simp only [readsOp, List.mem_append, or_imp, forall_and] at h
    show e_mks a b z l c T H = e_mks a b z l c T' H
    simp only [e_mks, ev_congr h.1, ev_congr h.2]
  case ap e x y =>
    simp only [readsOp, List.mem_append, or_imp, forall_and] at h
    show e_ap e x y T H = e_ap e x y T' H
    simp only [e_ap, ev_congr h.1, ev_congr h.2]

theorem born_congr {op : AOp} (h : ∀ t ∈ readsOp op, T.get t = T'.get t) : born op T = born op T' := by
  cases op <;> simp only [readsOp] at h <;> first
    | rfl
    | (rename_i x; simp only [born, ev_congr h]; done)
    | (simp only [born, fills_congr h]; done)

theorem eff_cls {op : AOp} {v : AV} (h : effOp op T H = some (v, H')) : cls op = 2 ∨ cls op = 3 := by
  cases op <;> first
    | exact .inl rfl
    | exact .inr rfl
    | exact (no_ h).elim

theorem sym_cls {op : AOp} {v : AV} (h : symOp op F T H = some (v, H')) : cls op = 3 := by
  cases op <;> first
    | rfl
    | exact (no_ h).elim

theorem reads_op {o : AOper} {t : Nat} (h : t ∈ readsOp o.op) : t ∈ reads o := List.mem_append_left _ h
theorem reads_g {o : AOper} {j : Nat} {b : Bool} (h : o.g = some (j, b)) : j ∈ reads o := List.mem_append_right _ (by rw [h]; simp)

/-- an operation that does not do more than read, or make a block -/
theorem exop_soft {op : AOp} {v : AV} (hc : cls op ≠ 3) (h : exop op F R FT T H = some (v, H')) :
    ((cls op = 0 ∨ cls op = 1) ∧ pureOp op F T H = some v ∧ H' = H) ∨ (cls op = 2 ∧ ∃ mk ob, born op T = some (mk, ob) ∧ v = mk H.n ∧ H' = H.new ob) := by
  rcases exop_split h with ⟨hp, rfl⟩ | he | hy | ⟨g, l, rfl⟩ | ⟨f, l, rfl⟩ | ⟨r, ms, l, rfl⟩
  · refine .inl ⟨?_, hp, rfl⟩
    revert hp hc
    cases op <;> first
      | (intro _ _; exact .inl rfl)
      | (intro _ _; exact .inr rfl)
      | (intro _ hp; exact (no_ hp).elim)
      | skip
    rename_i neg q x y
    intro _ _
    cases q <;> first
      | exact .inl rfl
      | exact .inr rfl
  · rcases eff_cls he with h2 | h3
    · exact .inr ⟨h2, eff_born h2 he⟩
    · exact absurd h3 hc
  · exact absurd (sym_cls hy) hc
  · exact absurd rfl hc
  · exact absurd rfl hc
  · exact absurd rfl hc

theorem cls_born {op : AOp} {mk : Nat → AV} {ob : AO} (h : born op T = some (mk, ob)) : cls op = 2 := by
  cases op <;> first
    | rfl
    | (cases h; done)

theorem recheck_mem {T : Tr AV} : ∀ {l : List (Nat × AOp × Option (Nat × Bool))}, recheck F T H l = true → ∀ d op g, (d, op, g) ∈ l →
    wants g T = some false ∨ (wants g T = some true ∧ ∃ v, T.get d = some v ∧ pureOp op F T H = some v)
  | [], _, _, _, _, hm => by cases hm
  | (d', op', g') :: l, h, d, op, g, hm => by
    have step : (wants g' T = some false ∧ recheck F T H l = true) ∨ (wants g' T = some true ∧ ∃ v, T.get d' = some v ∧ pureOp op' F T H = some v ∧ recheck F T H l = true) := by
      have h' : Option.rec (motive := fun _ => Bool) false
        (fun w => iff w (Option.rec (motive := fun _ => Bool) false (fun v => Option.rec (motive := fun _ => Bool) false (fun v' => iff (veq v v') (recheck F T H l) false) (pureOp op' F T H)) (T.get d')) (recheck F T H l)) (wants g' T) = true := h
      cases hw : wants g' T with
      | none => rw [hw] at h'; cases h'
      | some b =>
        rw [hw] at h'
        cases b with
        | false => exact .inl ⟨rfl, h'⟩
        | true =>
          refine .inr ⟨rfl, ?_⟩
          cases hv : T.get d' with
          | none => rw [hv] at h'; cases h'
          | some v =>
            rw [hv] at h'
            cases hp : pureOp op' F T H with
            | none => rw [hp] at h'; cases h'
            | some v' =>
              rw [hp] at h'
              have h2 : iff (veq v v') (recheck F T H l) false = true := h'
              cases he : veq v v' with
              | false => rw [he] at h2; cases h2
              | true => rw [he] at h2; exact ⟨v, rfl, by rw [veq_eq he], h2⟩
    rcases List.mem_cons.1 hm with he | hm'
    · cases he
      rcases step with ⟨h1, _⟩ | ⟨h1, v, h2, h3, _⟩
      · exact .inl h1
      · exact .inr ⟨h1, v, h2, h3⟩
    · rcases step with ⟨_, h1⟩ | ⟨_, v, _, _, h1⟩
      · exact recheck_mem h1 d op g hm'
      · exact recheck_mem h1 d op g hm'

theorem rcs_mem {as : Array AOper} {ms : Array Nat} {k i d : Nat} : ∀ {l : List Nat}, i ∈ l → cls (opAt as i).op = 1 → ¬ prec ms i k → (opAt as i).d = some d →
    (d, (opAt as i).op, (opAt as i).g) ∈ rcs as ms k l
  | [], h, _, _, _ => by cases h
  | j :: l, h, hc, hp, hd => by
    rcases List.mem_cons.1 h with rfl | h'
    · have hp' : (ms.getD k 0).testBit i = false := by
        cases hb : (ms.getD k 0).testBit i with
        | false => rfl
        | true => exact absurd hb hp
      have hb : (cls (opAt as i).op == 1 && !(ms.getD k 0).testBit i) = true := by rw [hc, hp']; rfl
      have : rcs as ms k (i :: l) = (d, (opAt as i).op, (opAt as i).g) :: rcs as ms k l := by
        show (match cls (opAt as i).op == 1 && !(ms.getD k 0).testBit i, (opAt as i).d with
          | true, some d => (d, (opAt as i).op, (opAt as i).g) :: rcs as ms k l
          | _, _ => rcs as ms k l) = _
        rw [hb, hd]
      rw [this]; exact List.mem_cons_self
    · have ih := rcs_mem (k := k) h' hc hp hd
      show _ ∈ (match cls (opAt as j).op == 1 && !(ms.getD k 0).testBit j, (opAt as j).d with
          | true, some d => (d, (opAt as j).op, (opAt as j).g) :: rcs as ms k l
          | _, _ => rcs as ms k l)
      split
      · exact List.mem_cons_of_mem _ ih
      · exact ih
end

section
variable {P : Program} {ifts : List TypeId} {F : Facts} {ρ : Nat → Value} {N : Nat} {ops' : Array Oper} {R : Rec} {FT : Fns} {as : Array AOper} {ms : Array Nat}

theorem put_at {a : Act} {d : Option Tmp} {v : Value} {t : Nat} (h : d = some t) (ht : t < a.tmps.size) : (a.put d v).tmps[t]? = some v := by
  subst h
  show (a.tmps.setIfInBounds t v)[t]? = some v
  simp [ht]
theorem put_off {a : Act} {d : Option Tmp} {v : Value} {t : Nat} (h : d ≠ some t) : (a.put d v).tmps[t]? = a.tmps[t]? := by
  cases d with
  | none => rfl
  | some u =>
    show (a.tmps.setIfInBounds u v)[t]? = a.tmps[t]?
    rw [Array.getElem?_setIfInBounds_ne]
    intro hu; subst hu; exact h rfl

theorem putD_at {d : Option Nat} {v : AV} {T : Tr AV} {t : Nat} (h : d = some t) : (putD d v T).get t = some v := by
  subst h
  show (T.set v t).get t = some v
  rw [Tr.get_set, if_pos rfl]
theorem putD_off {d : Option Nat} {v : AV} {T : Tr AV} {t : Nat} (h : d ≠ some t) : (putD d v T).get t = T.get t := by
  cases d with
  | none => rfl
  | some u =>
    show (T.set v u).get t = _
    rw [Tr.get_set, if_neg]
    intro hu; subst hu; exact h rfl

/-- what one that was reckoned ahead will yield -/
def PendV (F : Facts) (m : Emb) (H0 H : AH) (o : AOper) (E : Tr AV) (v : AV) (b : Nat) : Prop :=
  (wants o.g E = some false ∧ v = .tup []) ∨
  (wants o.g E = some true ∧ (((cls o.op = 0 ∨ cls o.op = 1) ∧ pureOp o.op F E H = some v) ∨
    ∃ mk ob, born o.op E = some (mk, ob) ∧ v = mk b ∧ H.get b = some ob ∧ m b = none ∧ H0.n ≤ b ∧ b < H.n))

/-- which of the temporaries one reads stand for what -/
structure EnvP (as : Array AOper) (ms : Array Nat) (vals : Nat → AV) (T0 : Tr AV) (i : Nat) (E : Tr AV) : Prop where
  er : ∀ j t, j < as.size → (opAt as j).d = some t → t ∈ reads (opAt as i) → prec ms j i → E.get t = some (vals j)
  e0 : ∀ t, t ∈ reads (opAt as i) → (∀ j, j < as.size → (opAt as j).d = some t → ¬ prec ms j i) → E.get t = T0.get t

/-- where the walk stands: 'bef' was reckoned, 'suf' not yet -/
structure Inv (P : Program) (ifts : List TypeId) (F : Facts) (ρ : Nat → Value) (R : Rec) (FT : Fns) (as : Array AOper) (ms : Array Nat)
    (T0 : Tr AV) (H0 : AH) (a0 : Act) (w0 : World) (m0 : Emb) (Tf : Tr AV) (Hf : AH)
    (listed : Array Bool) (a : Act) (w : World) (m : Emb) (bef suf : List Nat) (T : Tr AV) (H : AH) (vals : Nat → AV) (envs : Nat → Tr AV) (blk : Nat → Nat) : Prop where
  lsz : listed.size = as.size
  cov : ∀ i, i < as.size → i ∈ bef ∨ i ∈ suf
  plan : PlanP as ms bef suf
  run : ops F R FT (withRc as ms bef suf) T H = some (Tf, Hf)
  sub : ∀ i, listed.getD i false = true → i ∈ bef
  e3 : ∀ i, i ∈ bef → cls (opAt as i).op = 3 → listed.getD i false = true
  cl : ∀ i k, listed.getD i false = true → prec ms k i → listed.getD k false = true
  bsz : ∀ i, i ∈ bef → i < as.size
  bcl : ∀ i k, i ∈ bef → prec ms k i → k ∈ bef
  tv : ∀ j t, j ∈ bef → (opAt as j).d = some t → T.get t = some (vals j)
  t0 : ∀ t, (∀ j, j ∈ bef → (opAt as j).d ≠ some t) → T.get t = T0.get t
  cv : ∀ j t, listed.getD j false = true → (opAt as j).d = some t → ∃ v', a.tmps[t]? = some v' ∧ VR ρ m (vals j) v'
  c0 : ∀ t, (∀ j, listed.getD j false = true → (opAt as j).d ≠ some t) → ∀ x, T0.get t = some x → ∃ v', a.tmps[t]? = some v' ∧ VR ρ m x v'
  st : St P ifts ρ m0 H0 w0.heap m H w.heap
  we : WE w0 w
  tsz : a.tmps.size = a0.tmps.size
  df : a.defers = a0.defers
  pe : ∀ i, i ∈ bef → listed.getD i false = false → EnvP as ms vals T0 i (envs i)
  pv : ∀ i, i ∈ bef → listed.getD i false = false → PendV F m H0 H (opAt as i) (envs i) (vals i) (blk i)
  inj : ∀ i j, i ∈ bef → j ∈ bef → listed.getD i false = false → listed.getD j false = false → cls (opAt as i).op = 2 → cls (opAt as j).op = 2 →
    wants (opAt as i).g (envs i) = some true → wants (opAt as j).g (envs j) = some true → blk i = blk j → i = j

variable {T0 : Tr AV} {H0 : AH} {a0 : Act} {w0 : World} {m0 : Emb} {Tf : Tr AV} {Hf : AH}
  {listed : Array Bool} {a : Act} {w : World} {m : Emb} {bef suf : List Nat} {T : Tr AV} {H : AH} {vals : Nat → AV} {envs : Nat → Tr AV} {blk : Nat → Nat}

theorem bool_f {b : Bool} (h : ¬ b = true) : b = false := by cases b <;> simp_all

/-- the temporaries that one reads, as they stand -/
theorem Inv.env (D : DOk P ifts N ops' as ms) (I : Inv P ifts F ρ R FT as ms T0 H0 a0 w0 m0 Tf Hf listed a w m bef suf T H vals envs blk) {i : Nat} {E : Tr AV} (hi : i < as.size)
    (hu : listed.getD i false = false) (hp : ∀ k, prec ms k i → listed.getD k false = true) (hE : EnvP as ms vals T0 i E) : TR ρ m (E.only (reads (opAt as i))) a.tmps := by
  intro t x hx
  rw [Tr.only_get] at hx
  split at hx
  · rename_i hr
    by_cases hj : ∃ j, j < as.size ∧ (opAt as j).d = some t
    · obtain ⟨j, hjs, hjd⟩ := hj
      rcases D.rd i j t hi hjs hjd hr with h1 | ⟨_, h1⟩
      · rw [hE.er j t hjs hjd hr h1] at hx; cases hx
        exact I.cv j t (hp j h1) hjd
      · have hnl : ¬ listed.getD j false = true := by
          rcases h1 with h1 | h1
          · subst h1; rw [hu]; simp
          · intro hl; have := I.cl j i hl h1; rw [hu] at this; cases this
        have hnp : ¬ prec ms j i := fun h => hnl (hp j h)
        rw [hE.e0 t hr (fun j' hj' hd' => by rw [D.uniq j' j t hj' hjs hd' hjd]; exact hnp)] at hx
        exact I.c0 t (fun j' hl' hd' => hnl (by rw [← D.uniq j' j t (I.bsz _ (I.sub _ hl')) hjs hd' hjd]; exact hl')) x hx
    · rw [hE.e0 t hr (fun j hj' hd' => absurd ⟨j, hj', hd'⟩ hj)] at hx
      exact I.c0 t (fun j hl hd => hj ⟨j, I.bsz _ (I.sub _ hl), hd⟩) x hx
  · cases hx

/-- the reckoning's own temporaries, at the next of the plan -/
theorem Inv.envT (D : DOk P ifts N ops' as ms) (I : Inv P ifts F ρ R FT as ms T0 H0 a0 w0 m0 Tf Hf listed a w m bef suf T H vals envs blk) {i : Nat} (hi : i < as.size) (hb : i ∉ bef)
    (hp : ∀ k, prec ms k i → k ∈ bef) : EnvP as ms vals T0 i T := by
  refine ⟨fun j t _ hd _ hj => I.tv j t (hp j hj) hd, fun t hr hn => I.t0 t fun j hj hd => ?_⟩
  have hjs := I.bsz j hj
  rcases D.rd i j t hi hjs hd hr with h1 | ⟨_, h1 | h1⟩
  · exact hn j hjs hd h1
  · subst h1; exact hb hj
  · exact hb (I.bcl j i hj h1)

theorem EnvP.turn {v : AV} {i k : Nat} {E : Tr AV} (h : EnvP as ms vals T0 i E) (hk : ¬ prec ms k i) : EnvP as ms (fun j => if j = k then v else vals j) T0 i E := by
  refine ⟨fun j t hj hd hr hp => ?_, h.e0⟩
  have : j ≠ k := fun e => hk (e ▸ hp)
  simp only [if_neg this]
  exact h.er j t hj hd hr hp

theorem PendV.mono {m : Emb} {H0 H : AH} {o : AOper} {E : Tr AV} {v : AV} {b : Nat} {ob : AO} (hn : H.get H.n = none) (h : PendV F m H0 H o E v b) : PendV F m H0 (H.new ob) o E v b := by
  have hl : HLe H (H.new ob) := fun k o hk => by
    rw [AH.get_new, if_neg]
    · exact hk
    · intro e; subst e; rw [hn] at hk; cases hk
  rcases h with h | ⟨hw, ⟨hc, hp⟩ | ⟨mk, ob', h1, h2, h3, h4, h5, h6⟩⟩
  · exact .inl h
  · exact .inr ⟨hw, .inl ⟨hc, pure_mono hl hp⟩⟩
  · exact .inr ⟨hw, .inr ⟨mk, ob', h1, h2, hl _ _ h3, h4, h5, by simp; omega⟩⟩

theorem WR.top {hp : Array Obj} (h : WR P ifts ρ m H hp) : H.get H.n = none := by
  cases hg : H.get H.n with
  | none => rfl
  | some o => have := h.lt _ _ hg; omega

/-- a block that is made ahead of its time changes nothing else -/
theorem St.unborn {hp0 hp : Array Obj} (s : St P ifts ρ m0 H0 hp0 m H hp) (ob : AO) : St P ifts ρ m0 H0 hp0 m (H.new ob) hp := by
  have hw := s.wr
  refine ⟨Nat.le_trans s.le (by simp), s.sm, hw.unborn ob, s.sz, s.fr, fun b o e h1 h2 => ?_, fun b hb hm => ?_⟩
  · rw [AH.get_new] at h1
    split at h1
    · rename_i hb; subst hb; rw [hw.nx _ (Nat.le_refl _)] at h2; cases h2
    · exact s.ow b o e h1 h2
  · rw [AH.get_new, if_neg (by have := s.le; omega)]
    exact s.ub b hb hm

/-- one of the plan is reckoned ahead: it reads, or makes a block -/
theorem Inv.absorb (D : DOk P ifts N ops' as ms) {i : Nat} {l : List Nat} (I : Inv P ifts F ρ R FT as ms T0 H0 a0 w0 m0 Tf Hf listed a w m bef (i :: l) T H vals envs blk)
    (hc : cls (opAt as i).op ≠ 3) : ∃ T' H' vals' envs' blk', Inv P ifts F ρ R FT as ms T0 H0 a0 w0 m0 Tf Hf listed a w m (i :: bef) l T' H' vals' envs' blk' := by
  obtain ⟨hi, hb, hp, _, hpl⟩ := I.plan
  have hrun := I.run
  have hw3 : withRc as ms bef (i :: l) = opAt as i :: withRc as ms (i :: bef) l := by
    show (if cls (opAt as i).op == 3 then { opAt as i with rc := rcs as ms i bef.reverse } else opAt as i) :: withRc as ms (i :: bef) l = _
    rw [if_neg (by simpa using hc)]
  rw [hw3] at hrun
  have hrcn : (opAt as i).rc = [] := by
    have : i < ops'.size := by rw [← D.sz]; exact hi
    have h1 := D.op i ops'[i] (by simp [this])
    unfold coper at h1
    split at h1
    · cases h1
    · obtain ⟨g, _, h2⟩ := bd_some h1
      rw [← Option.some.inj h2]
  obtain ⟨b, h6, h7⟩ := bd_some (show bd (wants (opAt as i).g T) _ = some (Tf, Hf) from hrun)
  have hnl : listed.getD i false = false := bool_f fun h => hb (I.sub i h)
  have hE := I.envT D hi hb hp
  have hni : ∀ k, k ∈ bef → ¬ prec ms i k := fun k hk h => hb (I.bcl k i hk h)
  have hii : ¬ prec ms i i := fun h => hb (hp i h)
  have hnei : ∀ k, k ∈ bef → k ≠ i := fun k hk e => hb (e ▸ hk)
  -- what is common
  have fin : ∀ (v : AV) (H' : AH) (bi : Nat), ops F R FT (withRc as ms (i :: bef) l) (putD (opAt as i).d v T) H' = some (Tf, Hf) → St P ifts ρ m0 H0 w0.heap m H' w.heap →
      (∀ k, k ∈ bef → listed.getD k false = false → PendV F m H0 H' (opAt as k) (envs k) (vals k) (blk k)) → PendV F m H0 H' (opAt as i) T v bi →
      (cls (opAt as i).op = 2 → wants (opAt as i).g T = some true → ∀ k, k ∈ bef → listed.getD k false = false → cls (opAt as k).op = 2 → wants (opAt as k).g (envs k) = some true → blk k ≠ bi) →
      ∃ T' H' vals' envs' blk', Inv P ifts F ρ R FT as ms T0 H0 a0 w0 m0 Tf Hf listed a w m (i :: bef) l T' H' vals' envs' blk' := by
    intro v H' bi hr hst hold hnew hbl
    suffices hI : Inv P ifts F ρ R FT as ms T0 H0 a0 w0 m0 Tf Hf listed a w m (i :: bef) l (putD (opAt as i).d v T) H' (fun k => if k = i then v else vals k) (fun k => if k = i then T else envs k) (fun k => if k = i then bi else blk k) from ⟨_, _, _, _, _, hI⟩
    refine ⟨I.lsz, fun k hk => ?_, hpl, hr, fun k hk => List.mem_cons_of_mem _ (I.sub k hk), fun k hk h3 => ?_, I.cl, fun k hk => ?_, fun k j hk hj => ?_, fun j t hj hd => ?_, fun t ht => ?_, fun j t hj hd => ?_, I.c0, hst, I.we, I.tsz, I.df, fun k hk hul => ?_, fun k hk hul => ?_, fun k j hk hj hul huj ck cj wk wj he => ?_⟩
    · rcases I.cov k hk with h | h
      · exact .inl (List.mem_cons_of_mem _ h)
      · rcases List.mem_cons.1 h with rfl | h
        · exact .inl (by simp)
        · exact .inr h
    · rcases List.mem_cons.1 hk with rfl | hk
      · exact absurd h3 hc
      · exact I.e3 k hk h3
    · rcases List.mem_cons.1 hk with rfl | hk
      · exact hi
      · exact I.bsz k hk
    · rcases List.mem_cons.1 hk with rfl | hk
      · exact List.mem_cons_of_mem _ (hp j hj)
      · exact List.mem_cons_of_mem _ (I.bcl k j hk hj)
    · rcases List.mem_cons.1 hj with rfl | hj
      · simp only [if_true]; exact putD_at hd
      · simp only [if_neg (hnei j hj)]
        rw [putD_off fun h => hnei j hj (D.uniq j i t (I.bsz j hj) hi hd h)]
        exact I.tv j t hj hd
    · rw [putD_off (ht i (by simp))]
      exact I.t0 t fun j hj => ht j (List.mem_cons_of_mem _ hj)
    · have hji : j ≠ i := hnei j (I.sub j hj)
      simp only [if_neg hji]
      exact I.cv j t hj hd
    · rcases List.mem_cons.1 hk with rfl | hk
      · simp only [if_true]; exact hE.turn hii
      · simp only [if_neg (hnei k hk)]; exact (I.pe k hk hul).turn (hni k hk)
    · rcases List.mem_cons.1 hk with rfl | hk
      · simp only [if_true]; exact hnew
      · simp only [if_neg (hnei k hk)]; exact hold k hk hul
    · rcases List.mem_cons.1 hk with hk1 | hk1
      · rcases List.mem_cons.1 hj with hj1 | hj1
        · rw [hk1, hj1]
        · subst hk1
          simp only [if_true, if_neg (hnei j hj1)] at he wk wj
          exact absurd he.symm (hbl ck wk j hj1 huj cj wj)
      · rcases List.mem_cons.1 hj with hj1 | hj1
        · subst hj1
          simp only [if_true, if_neg (hnei k hk1)] at he wk wj
          exact absurd he (hbl cj wj k hk1 hul ck wk)
        · simp only [if_neg (hnei k hk1), if_neg (hnei j hj1)] at he wk wj
          exact I.inj k j hk1 hj1 hul huj ck cj wk wj he
  cases b with
  | false => exact fin (.tup []) H 0 h7 I.st I.pv (.inl ⟨h6, rfl⟩) (fun _ h => by rw [h6] at h; cases h)
  | true =>
    obtain ⟨⟨v, H1⟩, h8, h9⟩ := bd_some (show bd (exop (opAt as i).op F R FT T H) _ = some (Tf, Hf) from h7)
    obtain ⟨_, h10⟩ := orN_some (show orN (recheck F (putD (opAt as i).d v T) H1 (opAt as i).rc) (ops F R FT (withRc as ms (i :: bef) l) (putD (opAt as i).d v T) H1) = some (Tf, Hf) from h9)
    rcases exop_soft hc h8 with ⟨hcc, hpu, rfl⟩ | ⟨hcc, mk, ob, hbo, rfl, rfl⟩
    · exact fin v H1 0 h10 I.st I.pv (.inr ⟨h6, .inl ⟨hcc, hpu⟩⟩) (fun h => by omega)
    · have htop := I.st.wr.top
      refine fin (mk H.n) (H.new ob) H.n h10 (I.st.unborn ob) (fun k hk hul => (I.pv k hk hul).mono htop) (.inr ⟨h6, .inr ⟨mk, ob, hbo, rfl, by rw [AH.get_new, if_pos rfl], I.st.wr.nx _ (Nat.le_refl _), I.st.le, by simp⟩⟩) ?_
      intro _ _ k hk hul ck wk he
      rcases I.pv k hk hul with ⟨h1, _⟩ | ⟨_, ⟨h1, _⟩ | ⟨mk', ob', _, _, _, _, _, h1⟩⟩
      · rw [h1] at wk; cases wk
      · omega
      · omega

/-- all that may be reckoned ahead is -/
theorem Inv.absorbs (D : DOk P ifts N ops' as ms) : ∀ {suf bef : List Nat} {T : Tr AV} {H : AH} {vals : Nat → AV} {envs : Nat → Tr AV} {blk : Nat → Nat}, Inv P ifts F ρ R FT as ms T0 H0 a0 w0 m0 Tf Hf listed a w m bef suf T H vals envs blk →
    ∃ bef' suf' T' H' vals' envs' blk', Inv P ifts F ρ R FT as ms T0 H0 a0 w0 m0 Tf Hf listed a w m bef' suf' T' H' vals' envs' blk' ∧ ∀ i l, suf' = i :: l → cls (opAt as i).op = 3
  | [], bef, T, H, vals, envs, blk, I => ⟨bef, [], T, H, vals, envs, blk, I, fun _ _ h => by cases h⟩
  | i :: l, bef, T, H, vals, envs, blk, I => by
    by_cases hc : cls (opAt as i).op = 3
    · exact ⟨bef, i :: l, T, H, vals, envs, blk, I, fun i' l' h => by cases h; exact hc⟩
    · obtain ⟨T', H', vals', envs', blk', I'⟩ := I.absorb D hc
      exact Inv.absorbs D I'
end
end Go.Ev

namespace Go.Ev
open Go
section
variable {P : Program} {ifts : List TypeId} {F : Facts} {ρ : Nat → Value} {N : Nat} {ops' : Array Oper} {R : Rec} {FT : Fns} {as : Array AOper} {ms : Array Nat}
  {T0 : Tr AV} {H0 : AH} {a0 : Act} {w0 : World} {m0 : Emb} {Tf : Tr AV} {Hf : AH}
  {listed : Array Bool} {a : Act} {w : World} {m : Emb} {bef suf : List Nat} {T : Tr AV} {H : AH} {vals : Nat → AV} {envs : Nat → Tr AV} {blk : Nat → Nat}

theorem set_true {i j : Nat} (h : (listed.setIfInBounds i true).getD j false = true) : j = i ∨ listed.getD j false = true := by
  by_cases hij : i = j
  · exact .inl hij.symm
  · rw [getD_set_ne false hij] at h; exact .inr h

theorem set_false {i j : Nat} (hi : i < listed.size) (h : (listed.setIfInBounds i true).getD j false = false) : j ≠ i ∧ listed.getD j false = false := by
  by_cases hij : i = j
  · subst hij
    simp [hi] at h
  · rw [getD_set_ne false hij] at h; exact ⟨fun e => hij e.symm, h⟩

theorem lset_self {i : Nat} (hi : i < listed.size) : (listed.setIfInBounds i true).getD i false = true := by simp [hi]

theorem DOk.at (D : DOk P ifts N ops' as ms) {i : Nat} (hi : i < as.size) : ∃ o, ops'[i]? = some o ∧ coper P ifts N ops' o = some (opAt as i) := by
  have : i < ops'.size := by rw [← D.sz]; exact hi
  exact ⟨ops'[i], by simp [this], D.op i _ (by simp [this])⟩

theorem cop_of {o : Oper} {ao : AOper} (h : coper P ifts N ops' o = some ao) (hb : ao.op ≠ .bad) : cop P ifts o = some ao.op := by
  obtain ⟨_, _, _, h4⟩ := coper_some h
  cases hc : cop P ifts o with
  | none => rw [hc] at h4; exact absurd h4 hb
  | some op => rw [hc] at h4; rw [h4]; rfl

/-- one that was reckoned ahead is listed -/
theorem Inv.listF (D : DOk P ifts N ops' as ms) (I : Inv P ifts F ρ R FT as ms T0 H0 a0 w0 m0 Tf Hf listed a w m bef suf T H vals envs blk) {i : Nat} (hi : i ∈ bef) (hp : ∀ k, prec ms k i → listed.getD k false = true)
    (hN : N ≤ a0.tmps.size) {o : Oper} (ho : coper P ifts N ops' o = some (opAt as i)) {w' : World} {m' : Emb} {v' : Value} (hle : m.le m') (hst : St P ifts ρ m0 H0 w0.heap m' H w'.heap) (hwe : WE w w') (hv : VR ρ m' (vals i) v')
    (hpv : ∀ k, k ∈ bef → k ≠ i → listed.getD k false = false → PendV F m' H0 H (opAt as k) (envs k) (vals k) (blk k)) :
    Inv P ifts F ρ R FT as ms T0 H0 a0 w0 m0 Tf Hf (listed.setIfInBounds i true) (a.put o.dst v') w' m' bef suf T H vals envs blk := by
  obtain ⟨d1, d2, _, _⟩ := coper_some ho
  have his : i < as.size := I.bsz i hi
  have hil : i < listed.size := by rw [I.lsz]; exact his
  refine ⟨by simp [I.lsz], I.cov, I.plan, I.run, fun k hk => ?_, fun k hk h3 => getD_set_true (I.e3 k hk h3), fun j k hj hk => ?_, I.bsz, I.bcl, I.tv, I.t0, fun j t hj hd => ?_, fun t ht x hx => ?_, hst, I.we.trans hwe, by rw [put_size]; exact I.tsz, by rw [put_defers]; exact I.df,
    fun k hk hu => I.pe k hk (set_false hil hu).2, fun k hk hu => hpv k hk (set_false hil hu).1 (set_false hil hu).2, fun k j hk hj hu hu' => I.inj k j hk hj (set_false hil hu).2 (set_false hil hu').2⟩
  · rcases set_true hk with rfl | hk
    · exact hi
    · exact I.sub k hk
  · rcases set_true hj with rfl | hj
    · exact getD_set_true (hp k hk)
    · exact getD_set_true (I.cl j k hj hk)
  · rcases set_true hj with rfl | hj
    · refine ⟨v', put_at (by rw [← d1]; exact hd) ?_, hv⟩
      rw [I.tsz]
      exact Nat.lt_of_lt_of_le (d2 t (by rw [← d1]; exact hd)) hN
    · by_cases hji : j = i
      · subst hji
        refine ⟨v', put_at (by rw [← d1]; exact hd) ?_, hv⟩
        rw [I.tsz]
        exact Nat.lt_of_lt_of_le (d2 t (by rw [← d1]; exact hd)) hN
      · obtain ⟨u, h1, h2⟩ := I.cv j t hj hd
        refine ⟨u, ?_, h2.mono hle⟩
        rw [put_off]
        · exact h1
        · intro h; rw [← d1] at h
          exact hji (D.uniq j i t (I.bsz _ (I.sub _ hj)) his hd h)
  · obtain ⟨u, h1, h2⟩ := I.c0 t (fun j hj => ht j (getD_set_true hj)) x hx
    refine ⟨u, ?_, h2.mono hle⟩
    rw [put_off]
    · exact h1
    · intro h; rw [← d1] at h
      exact ht i (lset_self hil) h

theorem Inv.float (D : DOk P ifts N ops' as ms) (hf : FOk P F ρ) (h1 : One ρ) (hz : Fz F ρ m0 H0 w0.heap) (I : Inv P ifts F ρ R FT as ms T0 H0 a0 w0 m0 Tf Hf listed a w m bef suf T H vals envs blk) {i : Nat} (hi : i ∈ bef) (hu : listed.getD i false = false)
    (hp : ∀ k, prec ms k i → listed.getD k false = true) (hN : N ≤ a0.tmps.size) {ro : Option Nat} {K : Act → World → Prop} {Q : Exit → Act → World → Prop}
    (hK : ∀ a' w' m', Inv P ifts F ρ R FT as ms T0 H0 a0 w0 m0 Tf Hf (listed.setIfInBounds i true) a' w' m' bef suf T H vals envs blk → K a' w') : wpOpIn (FF ro) 0 P ops' Q i K a w := by
  have his := I.bsz i hi
  obtain ⟨o, ho, hco⟩ := D.at his
  have hT := I.env D his hu hp (I.pe i hi hu)
  have hag : ∀ t, t ∈ reads (opAt as i) → ((envs i).only (reads (opAt as i))).get t = (envs i).get t := fun t ht => by rw [Tr.only_get, if_pos ht]
  have hwa : wants (opAt as i).g ((envs i).only (reads (opAt as i))) = wants (opAt as i).g (envs i) := wants_congr fun j b hg => hag j (reads_g hg)
  have hwm := I.st.wr
  unfold wpOpIn
  simp only [ho]
  rcases I.pv i hi hu with ⟨h2, h3⟩ | ⟨h2, h3⟩
  · rw [wants_ok hT hco (hwa.trans h2)]
    simp only [Bool.false_eq_true, if_false]
    refine ⟨fun _ _ => trivial, hK _ _ m (I.listF D hi hp hN hco (Emb.le_refl m) I.st (WE.refl w) (by rw [h3]; exact VR_undef) fun k hk _ hku => I.pv k hk hku)⟩
  · rw [wants_ok hT hco (hwa.trans h2)]
    simp only [if_true]
    have hb : (opAt as i).op ≠ .bad := by
      intro hb; rw [hb] at h3
      rcases h3 with ⟨_, h3⟩ | ⟨mk, ob, h3, _⟩
      · cases h3
      · cases h3
    have hcop := cop_of hco hb
    have hnd : ∀ k, o.op ≠ .defer k := fun k hk => by simp [cop, hk] at hcop
    refine ⟨fun _ _ => trivial, ?_⟩
    rw [Oper.semAt_eq _ _ _ hnd]
    rcases h3 with ⟨_, h3⟩ | ⟨mk, ob, h3, h4, h5, h6, h7, h8⟩
    · obtain ⟨v', hv, hr⟩ := pure_ok (a := a) (w := w) ⟨hT, hwm, h1, hf, hz.step I.st⟩ hcop ((pure_congr fun t ht => hag t (reads_op ht)).trans h3)
      rw [hr, Oper.uponIn_value]
      exact hK _ _ m (I.listF D hi hp hN hco (Emb.le_refl m) I.st (WE.refl w) hv fun k hk _ hku => I.pv k hk hku)
    · obtain ⟨obj, v', hr, hm⟩ := birth_ok (a := a) (w := w) (H := H) ⟨hT, hwm, h1, hf, hz.step I.st⟩ hcop ((born_congr fun t ht => hag t (reads_op ht)).trans h3)
      rw [hr, Oper.uponIn_value]
      have hle : m.le (m.add (blk i) ⟨w.heap.size, 0, 0⟩) := Emb.le_add h6
      obtain ⟨hv, hor⟩ := hm _ (blk i) hle (Emb.add_same _ _ _)
      obtain ⟨hwr, hpush⟩ := St.birth hwm h5 h6 hor
      refine hK _ _ _ (I.listF D hi hp hN hco hle ?_ ⟨rfl, rfl, rfl⟩ (by rw [h4]; exact hv) fun k hk hki hku => ?_)
      · have s := I.st
        refine ⟨s.le, fun b hb => ?_, hwr, Nat.le_trans s.sz (by simp), fun B hB hfr => ?_, fun b o' e g1 g2 => ?_, s.ub⟩
        · rw [Emb.add_ne _ _ (by omega)]; exact s.sm b hb
        · have hB' : B < w.heap.size := Nat.lt_of_lt_of_le hB s.sz
          rw [hpush B hB']
          exact s.fr B hB hfr
        · by_cases hbb : b = blk i
          · subst hbb
            rw [Emb.add_same] at g2; cases g2
            exact .inl s.sz
          · rw [Emb.add_ne _ _ hbb] at g2
            exact s.ow b o' e g1 g2
      · rcases I.pv k hk hku with g | ⟨g1, g2 | ⟨mk', ob', g2, g3, g4, g5, g6, g7⟩⟩
        · exact .inl g
        · exact .inr ⟨g1, .inl g2⟩
        · refine .inr ⟨g1, .inr ⟨mk', ob', g2, g3, g4, ?_, g6, g7⟩⟩
          rw [Emb.add_ne]
          · exact g5
          · intro he
            exact hki (I.inj k i hk hi hku hu (cls_born g2) (cls_born h3) g1 h2 he)

/-- the next of the plan, one that does something, is listed -/
theorem Inv.listE (D : DOk P ifts N ops' as ms) {i : Nat} {l : List Nat} (I : Inv P ifts F ρ R FT as ms T0 H0 a0 w0 m0 Tf Hf listed a w m bef (i :: l) T H vals envs blk) (hp : ∀ k, prec ms k i → listed.getD k false = true)
    (hN : N ≤ a0.tmps.size) {o : Oper} (ho : coper P ifts N ops' o = some (opAt as i)) {w' : World} {m' : Emb} {v : AV} {v' : Value} {H' : AH} (hst : St P ifts ρ m H w.heap m' H' w'.heap) (hwe : WE w w') (hv : VR ρ m' v v')
    (hrun : ops F R FT (withRc as ms (i :: bef) l) (putD (opAt as i).d v T) H' = some (Tf, Hf))
    (hpv : ∀ k, k ∈ bef → listed.getD k false = false → PendV F m' H0 H' (opAt as k) (envs k) (vals k) (blk k)) :
    Inv P ifts F ρ R FT as ms T0 H0 a0 w0 m0 Tf Hf (listed.setIfInBounds i true) (a.put o.dst v') w' m' (i :: bef) l (putD (opAt as i).d v T) H' (fun k => if k = i then v else vals k) envs blk := by
  obtain ⟨d1, d2, _, _⟩ := coper_some ho
  obtain ⟨hi, hb, hpb, _, hpl⟩ := I.plan
  have hil : i < listed.size := by rw [I.lsz]; exact hi
  have hle : m.le m' := hst.emb I.st.wr
  have hnei : ∀ k, k ∈ bef → k ≠ i := fun k hk e => hb (e ▸ hk)
  have hni : ∀ k, k ∈ bef → ¬ prec ms i k := fun k hk h => hb (I.bcl k i hk h)
  refine ⟨by simp [I.lsz], fun k hk => ?_, hpl, hrun, fun k hk => ?_, fun k hk h3 => ?_, fun j k hj hk => ?_, fun k hk => ?_, fun k j hk hj => ?_, fun j t hj hd => ?_, fun t ht => ?_, fun j t hj hd => ?_, fun t ht x hx => ?_,
    I.st.trans hst, I.we.trans hwe, by rw [put_size]; exact I.tsz, by rw [put_defers]; exact I.df, fun k hk hu => ?_, fun k hk hu => ?_, fun k j hk hj hu hu' => ?_⟩
  · rcases I.cov k hk with h | h
    · exact .inl (List.mem_cons_of_mem _ h)
    · rcases List.mem_cons.1 h with rfl | h
      · exact .inl (by simp)
      · exact .inr h
  · rcases set_true hk with rfl | hk
    · simp
    · exact List.mem_cons_of_mem _ (I.sub k hk)
  · rcases List.mem_cons.1 hk with rfl | hk
    · exact lset_self hil
    · exact getD_set_true (I.e3 k hk h3)
  · rcases set_true hj with rfl | hj
    · exact getD_set_true (hp k hk)
    · exact getD_set_true (I.cl j k hj hk)
  · rcases List.mem_cons.1 hk with rfl | hk
    · exact hi
    · exact I.bsz k hk
  · rcases List.mem_cons.1 hk with rfl | hk
    · exact List.mem_cons_of_mem _ (hpb j hj)
    · exact List.mem_cons_of_mem _ (I.bcl k j hk hj)
  · rcases List.mem_cons.1 hj with rfl | hj
    · simp only [if_true]; exact putD_at hd
    · simp only [if_neg (hnei j hj)]
      rw [putD_off fun h => hnei j hj (D.uniq j i t (I.bsz j hj) hi hd h)]
      exact I.tv j t hj hd
  · rw [putD_off (ht i (by simp))]
    exact I.t0 t fun j hj => ht j (List.mem_cons_of_mem _ hj)
  · have case0 : (opAt as i).d = some t → ∃ u, (a.put o.dst v').tmps[t]? = some u ∧ VR ρ m' v u := fun hd => by
      refine ⟨v', put_at (by rw [← d1]; exact hd) ?_, hv⟩
      rw [I.tsz]
      exact Nat.lt_of_lt_of_le (d2 t (by rw [← d1]; exact hd)) hN
    rcases set_true hj with rfl | hj
    · simp only [if_true]; exact case0 hd
    · have hji := hnei j (I.sub j hj)
      simp only [if_neg hji]
      obtain ⟨u, h1, h2⟩ := I.cv j t hj hd
      refine ⟨u, ?_, h2.mono hle⟩
      rw [put_off]
      · exact h1
      · intro h; rw [← d1] at h
        exact hji (D.uniq j i t (I.bsz _ (I.sub _ hj)) hi hd h)
  · obtain ⟨u, h1, h2⟩ := I.c0 t (fun j hj => ht j (getD_set_true hj)) x hx
    refine ⟨u, ?_, h2.mono hle⟩
    rw [put_off]
    · exact h1
    · intro h; rw [← d1] at h
      exact ht i (lset_self hil) h
  · obtain ⟨g1, g2⟩ := set_false hil hu
    rcases List.mem_cons.1 hk with rfl | hk
    · exact absurd rfl g1
    · exact (I.pe k hk g2).turn (hni k hk)
  · obtain ⟨g1, g2⟩ := set_false hil hu
    rcases List.mem_cons.1 hk with rfl | hk
    · exact absurd rfl g1
    · simp only [if_neg g1]; exact hpv k hk g2
  · obtain ⟨g1, g2⟩ := set_false hil hu
    obtain ⟨g3, g4⟩ := set_false hil hu'
    rcases List.mem_cons.1 hk with rfl | hk
    · exact absurd rfl g1
    · rcases List.mem_cons.1 hj with rfl | hj
      · exact absurd rfl g3
      · exact I.inj k j hk hj g2 g4

theorem Inv.hard (D : DOk P ifts N ops' as ms) (hf : FOk P F ρ) (h1 : One ρ) (hz : Fz F ρ m0 H0 w0.heap) (hR : RecOk P ifts F ρ R FT) {i : Nat} {l : List Nat} (I : Inv P ifts F ρ R FT as ms T0 H0 a0 w0 m0 Tf Hf listed a w m bef (i :: l) T H vals envs blk)
    (hc : cls (opAt as i).op = 3) (hu : listed.getD i false = false) (hp : ∀ k, prec ms k i → listed.getD k false = true) (hN : N ≤ a0.tmps.size) {ro : Option Nat} {K : Act → World → Prop} {Q : Exit → Act → World → Prop}
    (hK : ∀ a' w' m' T' H' vals', Inv P ifts F ρ R FT as ms T0 H0 a0 w0 m0 Tf Hf (listed.setIfInBounds i true) a' w' m' (i :: bef) l T' H' vals' envs blk → K a' w') : wpOpIn (FF ro) 0 P ops' Q i K a w := by
  obtain ⟨hi, hb, hpb, _, hpl⟩ := I.plan
  obtain ⟨o, ho, hco⟩ := D.at hi
  have hE := I.envT D hi hb hpb
  have hT := I.env D hi hu hp hE
  have hag : ∀ t, t ∈ reads (opAt as i) → (T.only (reads (opAt as i))).get t = T.get t := fun t ht => by rw [Tr.only_get, if_pos ht]
  have hwa : wants (opAt as i).g (T.only (reads (opAt as i))) = wants (opAt as i).g T := wants_congr fun j b hg => hag j (reads_g hg)
  have hrun := I.run
  have hw3 : withRc as ms bef (i :: l) = { opAt as i with rc := rcs as ms i bef.reverse } :: withRc as ms (i :: bef) l := by
    show (if cls (opAt as i).op == 3 then { opAt as i with rc := rcs as ms i bef.reverse } else opAt as i) :: withRc as ms (i :: bef) l = _
    rw [if_pos (by simpa using hc)]
  rw [hw3] at hrun
  obtain ⟨b, h6, h7⟩ := bd_some (show bd (wants (opAt as i).g T) _ = some (Tf, Hf) from hrun)
  unfold wpOpIn
  simp only [ho]
  cases b with
  | false =>
    rw [wants_ok hT hco (hwa.trans h6)]
    simp only [Bool.false_eq_true, if_false]
    exact ⟨fun _ _ => trivial, hK _ _ m _ _ _ (I.listE D hp hN hco (St.refl I.st.wr) (WE.refl w) VR_undef h7 I.pv)⟩
  | true =>
    rw [wants_ok hT hco (hwa.trans h6)]
    simp only [if_true]
    obtain ⟨⟨v, H1⟩, h8, h9⟩ := bd_some (show bd (exop (opAt as i).op F R FT T H) _ = some (Tf, Hf) from h7)
    obtain ⟨h11, h10⟩ := orN_some (show orN (recheck F (putD (opAt as i).d v T) H1 (rcs as ms i bef.reverse)) (ops F R FT (withRc as ms (i :: bef) l) (putD (opAt as i).d v T) H1) = some (Tf, Hf) from h9)
    have hbad : (opAt as i).op ≠ .bad := by
      intro hb; rw [hb] at h8; cases h8
    refine oper_ok ⟨hT, I.st.wr, h1, hf, hz.step I.st⟩ hR (cop_of hco hbad) ((exop_congr fun t ht => hag t (reads_op ht)).trans h8) fun m1 w1 v' hv hst hwe => ?_
    refine hK _ _ m1 _ _ _ (I.listE D hp hN hco hst hwe hv h10 fun k hk hku => ?_)
    have hks := I.bsz k hk
    have hnik : ¬ prec ms i k := fun h => hb (I.bcl k i hk h)
    rcases I.pv k hk hku with g | ⟨g1, ⟨g2, g3⟩ | ⟨mk', ob', g2, g3, g4, g5, g6, g7⟩⟩
    · exact .inl g
    · refine .inr ⟨g1, .inl ⟨g2, ?_⟩⟩
      rcases g2 with g2 | g2
      · rw [cls0_free g2 H1 H]; exact g3
      · obtain ⟨dk, hdk⟩ := D.c1 k hks g2
        have agree : ∀ t, t ∈ reads (opAt as k) → (putD (opAt as i).d v T).get t = (envs k).get t := fun t ht => by
          by_cases hj : ∃ j, j < as.size ∧ (opAt as j).d = some t
          · obtain ⟨j, hjs, hjd⟩ := hj
            rcases D.rd k j t hks hjs hjd ht with h | ⟨h, _⟩
            · rw [(I.pe k hk hku).er j t hjs hjd ht h, putD_off, I.tv j t (I.bcl k j hk h) hjd]
              intro hd
              exact hnik (by rw [← D.uniq j i t hjs hi hjd hd]; exact h)
            · exact absurd g2 h
          · rw [(I.pe k hk hku).e0 t ht fun j hjs hjd _ => hj ⟨j, hjs, hjd⟩, putD_off, I.t0 t]
            · intro j hjb hjd; exact hj ⟨j, I.bsz j hjb, hjd⟩
            · intro hd; exact hj ⟨i, hi, hd⟩
        have hnki : ¬ prec ms k i := fun h => by have := hp k h; rw [hku] at this; cases this
        have hkne : (opAt as i).d ≠ some dk := fun hd => hb (by rw [← D.uniq k i dk hks hi hdk hd]; exact hk)
        rcases recheck_mem h11 _ _ _ (rcs_mem (k := i) (List.mem_reverse.2 hk) g2 hnki hdk) with r1 | ⟨_, u, r2, r3⟩
        · rw [wants_congr fun j b hg => agree j (reads_g hg), g1] at r1; cases r1
        · rw [putD_off hkne, I.tv k dk hk hdk] at r2
          cases r2
          rw [← r3]
          exact pure_congr fun t ht => (agree t (reads_op ht)).symm
    · exact .inr ⟨g1, .inr ⟨mk', ob', g2, g3, by rw [hst.ub _ g7 g5]; exact g4, by rw [hst.sm _ g7]; exact g5, g6, Nat.lt_of_lt_of_le g7 hst.le⟩⟩

theorem afts_mem {o : Oper} {e : Nat} : e ∈ afts o ↔ ∃ x ∈ o.after, Region.binds .any x = true ∧ x.on = e := by
  unfold afts
  simp only [List.mem_map, List.mem_filter, Array.mem_toList_iff, and_assoc]

/-- nothing is ready: all are listed -/
theorem DOk.done (D : DOk P ifts N ops' as ms) (hs : listed.size = as.size) (h : Region.ready .any ops' listed = []) : ∀ i, i < as.size → listed.getD i false = true := by
  intro i
  induction i using Nat.strongRecOn with
  | _ i ih =>
    intro hi
    obtain ⟨o, ho, _⟩ := D.at hi
    cases hl : listed.getD i false with
    | true => rfl
    | false =>
      exfalso
      have : i ∈ Region.ready .any ops' listed := mem_ready.2 ⟨?_, o, ho, fun e he hb => ?_⟩
      · rw [h] at this; cases this
      · have : i < listed.size := by omega
        simp [this] at hl ⊢
        exact hl
      · have hlt := D.back i o ho e.on (afts_mem.2 ⟨e, he, hb, rfl⟩)
        exact ih e.on hlt (by omega)

theorem count_set {i : Nat} (hu : listed.getD i true = false) : (listed.setIfInBounds i true).toList.count false + 1 = listed.toList.count false := by
  have hi : i < listed.size := by
    rcases Nat.lt_or_ge i listed.size with h | h
    · exact h
    · simp [Array.getElem?_eq_none h] at hu
  simp [hi] at hu
  have hi' : i < listed.toList.length := by simpa using hi
  have hget : listed.toList[i] = false := by simpa using hu
  have hpos : 0 < listed.toList.count false := List.count_pos_iff.2 (hget ▸ List.getElem_mem hi')
  rw [Array.toList_setIfInBounds, List.count_set (h := hi')]
  rw [hget, if_pos (by decide), if_neg (by decide)]
  omega

theorem drw_go (D : DOk P ifts N ops' as ms) (hf : FOk P F ρ) (h1 : One ρ) (hz : Fz F ρ m0 H0 w0.heap) (hR : RecOk P ifts F ρ R FT) (hN : N ≤ a0.tmps.size) {ro : Option Nat} {Q : Exit → Act → World → Prop}
    (hQ : ∀ a' w' m', Out P ifts ρ m0 H0 a0 w0 Tf Hf a' w' m' → Q .normal a' w') : ∀ (fuel : Nat) {listed : Array Bool} {a : Act} {w : World} {m : Emb} {bef suf : List Nat} {T : Tr AV} {H : AH} {vals : Nat → AV} {envs : Nat → Tr AV} {blk : Nat → Nat},
      Inv P ifts F ρ R FT as ms T0 H0 a0 w0 m0 Tf Hf listed a w m bef suf T H vals envs blk → listed.toList.count false ≤ fuel → wpAnyIn (FF ro) 0 P .any ops' Q fuel listed a w := by
  intro fuel
  have fin : ∀ {listed : Array Bool} {a : Act} {w : World} {m : Emb} {bef suf : List Nat} {T : Tr AV} {H : AH} {vals : Nat → AV} {envs : Nat → Tr AV} {blk : Nat → Nat},
      Inv P ifts F ρ R FT as ms T0 H0 a0 w0 m0 Tf Hf listed a w m bef suf T H vals envs blk → Region.ready .any ops' listed = [] → Q .normal a w := by
    intro listed a w m bef suf T H vals envs blk I hr
    have hall := D.done I.lsz hr
    have hsuf : suf = [] := by
      cases suf with
      | nil => rfl
      | cons i l => exact absurd (I.sub i (hall i I.plan.1)) I.plan.2.1
    subst hsuf
    have he := I.run
    cases he
    refine hQ a w m ⟨fun t x hx => ?_, I.st, I.we, I.tsz, I.df⟩
    by_cases hj : ∃ j, j ∈ bef ∧ (opAt as j).d = some t
    · obtain ⟨j, hj, hd⟩ := hj
      rw [I.tv j t hj hd] at hx; cases hx
      exact I.cv j t (hall j (I.bsz j hj)) hd
    · rw [I.t0 t fun j hjb hd => hj ⟨j, hjb, hd⟩] at hx
      exact I.c0 t (fun j hl hd => hj ⟨j, I.sub j hl, hd⟩) x hx
  induction fuel with
  | zero =>
    intro listed a w m bef suf T H vals envs blk I hcnt
    have hr : Region.ready .any ops' listed = [] := by
      cases hr : Region.ready .any ops' listed with
      | nil => rfl
      | cons j js =>
        have hj : j ∈ Region.ready .any ops' listed := by rw [hr]; simp
        have := count_set (mem_ready.1 hj).1
        omega
    exact ⟨hr, fin I hr⟩
  | succ fuel ih =>
    intro listed a w m bef suf T H vals envs blk I hcnt
    refine ⟨fin I, fun i hi => ?_⟩
    obtain ⟨hu', o, ho, hall⟩ := mem_ready.1 hi
    have his : i < as.size := by rw [D.sz]; exact (Array.getElem?_eq_some_iff.1 ho).1
    have hu : listed.getD i false = false := by
      have : i < listed.size := by rw [I.lsz]; exact his
      simp [this] at hu' ⊢
      exact hu'
    have hp : ∀ k, prec ms k i → listed.getD k false = true := fun k hk => by
      obtain ⟨e, he, h⟩ := (D.msk i o ho k).1 hk
      obtain ⟨x, hx, hb, rfl⟩ := afts_mem.1 he
      have hl := hall x hx hb
      rcases h with rfl | h
      · exact hl
      · exact I.cl _ _ hl h
    have hcnt' : (listed.setIfInBounds i true).toList.count false ≤ fuel := by have := count_set hu'; omega
    obtain ⟨bef', suf', T', H', vals', envs', blk', I', hd⟩ := I.absorbs D
    rcases I'.cov i his with hb | hs
    · exact I'.float D hf h1 hz hb hu hp hN fun a' w' m' I2 => ih I2 hcnt'
    · cases suf' with
      | nil => cases hs
      | cons e l =>
        have hc := hd e l rfl
        rcases List.mem_cons.1 hs with rfl | hs
        · exact I'.hard D hf h1 hz hR hc hu hp hN fun a' w' m' _ _ _ I2 => ih I2 hcnt'
        · have := hp e (I'.plan.2.2.2.1 hc i hs)
          exact absurd (I'.sub e this) I'.plan.2.1
end

section
variable {P : Program} {ifts : List TypeId} {F : Facts} {ρ : Nat → Value} {m : Emb} {T T' : Tr AV} {H H' : AH} {a : Act} {w : World} {R : Rec} {FT : Fns} {N : Nat}

theorem drw_ok (hmix : P.follows .mixedOrders = true) (hf : FOk P F ρ) (h1 : One ρ) (hR : RecOk P ifts F ρ R FT) {ro : Option Nat} {id : Nat} {ops' : Array Oper} {al : List AOper} (hc : cdrw P ifts N ops' = some al) (he : ops F R FT al T H = some (T', H'))
    (hT : TR ρ m T a.tmps) (hN : N ≤ a.tmps.size) (hw : WR P ifts ρ m H w.heap) (hz : Fz F ρ m H w.heap) {Q : Exit → Act → World → Prop} (hQ : ∀ a' w' m', Out P ifts ρ m H a w T' H' a' w' m' → Q .normal a' w') :
    (Code.region id ops' true).wpIn (FF ro) 0 P Q a w := by
  obtain ⟨as, ms, π, D, hpl, hcov, rfl⟩ := cdrw_some hc
  refine wpIn_region_any hmix ?_
  refine drw_go (T0 := T) (H0 := H) (a0 := a) (w0 := { w with drawn := w.drawn + 1 }) (m0 := m) (Tf := T') (Hf := H') D hf h1 hz hR hN (fun a' w' m' ho => hQ a' w' m' ⟨ho.t, ho.st, ⟨ho.we.os, ho.we.tape, ho.we.out⟩, ho.sz, ho.df⟩)
    ops'.size (m := m) (bef := []) (suf := π) (T := T) (H := H) (vals := fun _ => .tup []) (envs := fun _ => T) (blk := fun _ => 0) ?_ ?_
  · have hno : ∀ i, (Array.replicate ops'.size false).getD i false = true → False := fun i h => by
      rcases Nat.lt_or_ge i ops'.size with h' | h'
      · simp [h'] at h
      · simp [h'] at h
    exact { lsz := by simp [D.sz], cov := fun i hi => .inr (hcov i hi), plan := hpl, run := he, sub := fun i h => (hno i h).elim, e3 := fun i h => (by cases h), cl := fun i k h => (hno i h).elim,
            bsz := fun i h => (by cases h), bcl := fun i k h => (by cases h), tv := fun j t h => (by cases h), t0 := fun t _ => rfl, cv := fun j t h => (hno j h).elim, c0 := fun t _ x hx => hT t x hx,
            st := St.refl hw, we := WE.refl _, tsz := rfl, df := rfl, pe := fun i h => (by cases h), pv := fun i h => (by cases h), inj := fun i j h => (by cases h) }
  · simp
end
end Go.Ev

namespace Go.Ev
open Go
section
variable {P : Program} {ifts : List TypeId} {F : Facts} {ρ : Nat → Value} {m m' : Emb} {T T' : Tr AV} {H H' : AH} {hp hp' : Array Obj} {a : Act} {w : World} {R : Rec} {FT : Fns} {N : Nat}

def markOf (r : Nat) : Deferred := { target := .collected r, args := #[] }

/-- the blocks for deferred calls, empty, nobody's -/
def Marks (m : Emb) (H : AH) (hp : Array Obj) (s : Nat) (ds : List Deferred) : Prop :=
  ∃ rs : List Nat, ds = rs.map markOf ∧ rs.Nodup ∧ ∀ r, r ∈ rs → s ≤ r ∧ hp[r]? = some (.deferred (some [])) ∧ ∀ b o e, H.get b = some o → m b = some e → e.b ≠ r

theorem Marks.nil {s : Nat} : Marks m H hp s [] := ⟨[], rfl, .nil, fun r h => by cases h⟩

theorem Marks.step {s : Nat} {ds : List Deferred} (h : Marks m H hp s ds) (st : St P ifts ρ m H hp m' H' hp') : Marks m' H' hp' s ds := by
  obtain ⟨rs, h1, h2, h3⟩ := h
  refine ⟨rs, h1, h2, fun r hr => ?_⟩
  obtain ⟨g1, g2, g3⟩ := h3 r hr
  have hlt : r < hp.size := (Array.getElem?_eq_some_iff.1 g2).1
  refine ⟨g1, (st.fr r hlt g3).trans g2, fun b o e hb hm he => ?_⟩
  rcases st.ow b o e hb hm with h4 | ⟨b0, o0, e0, h4, h5, h6⟩
  · omega
  · exact g3 b0 o0 e0 h4 h5 (h6.trans he)

theorem Marks.cons {s r : Nat} {ds : List Deferred} (h : Marks m H hp s ds) (hs : s ≤ r) (hr : hp[r]? = some (.deferred (some []))) (hu : ∀ b o e, H.get b = some o → m b = some e → e.b ≠ r)
    (hn : ∀ r', markOf r' ∈ ds → r' ≠ r) : Marks m H hp s (markOf r :: ds) := by
  obtain ⟨rs, rfl, h2, h3⟩ := h
  refine ⟨r :: rs, rfl, List.nodup_cons.2 ⟨fun hm => hn r (List.mem_map_of_mem hm) rfl, h2⟩, fun r' hr' => ?_⟩
  rcases List.mem_cons.1 hr' with rfl | hr'
  · exact ⟨hs, hr, hu⟩
  · exact h3 r' hr'

theorem Marks.lt {s : Nat} {ds : List Deferred} (h : Marks m H hp s ds) {r : Nat} (hr : markOf r ∈ ds) : r < hp.size := by
  obtain ⟨rs, rfl, _, h3⟩ := h
  obtain ⟨r', h4, h5⟩ := List.mem_map.1 hr
  have : r' = r := by simpa [markOf] using h5
  subst this
  exact (Array.getElem?_eq_some_iff.1 (h3 r' h4).2.1).1

def notCells : Obj → Bool
  | .cells .. => false
  | _ => true

theorem r_getObj {o : Obj} {r : Nat} (hb : w.heap[r]? = some o) (ho : notCells o = true := by rfl) : (getObj r).run P w = .ok o w := by
  cases o <;> first
    | (simp [getObj, Sem.run, hb]; done)
    | cases ho
theorem r_setObj {o : Obj} {r : Nat} (o' : Obj) (hb : w.heap[r]? = some o) (ho : notCells o = true := by rfl) : (setObj r o').run P w = .ok () { w with heap := w.heap.setIfInBounds r o' } := by
  cases o <;> first
    | (simp [setObj, Sem.run, hb]; done)
    | cases ho

/-- nobody's block changes -/
theorem St.off {m0 : Emb} {H0 : AH} {hp0 : Array Obj} (st : St P ifts ρ m0 H0 hp0 m H hp) {r : Nat} {x : Obj} (hr : hp0.size ≤ r) (hu : ∀ b o e, H.get b = some o → m b = some e → e.b ≠ r) : St P ifts ρ m0 H0 hp0 m H (hp.setIfInBounds r x) := by
  have hw := st.wr
  refine ⟨st.le, st.sm, ⟨hw.nx, hw.lt, fun b o e h1 h2 => OR.congr ?_ (hw.ob b o e h1 h2), hw.dj⟩, by simpa using st.sz, fun B hB hf => ?_, st.ow, st.ub⟩
  · rw [Array.getElem?_setIfInBounds_ne]
    exact fun h => hu b o e h1 h2 h.symm
  · rw [Array.getElem?_setIfInBounds_ne (by omega)]
    exact st.fr B hB hf

/-- a function's way out -/
theorem leaves {fn : Func} {tmps : Array Value} {Rr : Ending → World → Prop} {m0 : Emb} {H0 : AH} {w0 : World} : ∀ {ds : List Deferred} {w : World}, Marks m H w.heap w0.heap.size ds → St P ifts ρ m0 H0 w0.heap m H w.heap → WE w0 w →
    (∀ w', St P ifts ρ m0 H0 w0.heap m H w'.heap → WE w0 w' → ∃ v, (results fn tmps).run P w' = .ok v w' ∧ Rr (.returned v) w') → LeavesInM Fence.wide 0 P fn tmps Rr ds .returning w
  | [], w, _, st, we, hR => hR w st we
  | d :: ds, w, ⟨rs, h1, h2, h3⟩, st, we, hR => by
    cases rs with
    | nil => cases h1
    | cons r rs =>
      cases h1
      obtain ⟨g1, g2, g3⟩ := h3 r (by simp)
      obtain ⟨hnr, hnd⟩ := List.nodup_cons.1 h2
      refine ⟨by simp, .inl ⟨r, { w with heap := w.heap.setIfInBounds r (.deferred none) }, rfl, ?_, ?_⟩⟩
      · simp [Instr.takeDeferred, r_getObj g2, r_setObj _ g2]
      · refine leaves (w := { w with heap := w.heap.setIfInBounds r (.deferred none) }) ⟨rs, rfl, hnd, fun r' hr' => ?_⟩ (st.off g1 g3) ⟨we.os, we.tape, we.out⟩ hR
        obtain ⟨k1, k2, k3⟩ := h3 r' (List.mem_cons_of_mem _ hr')
        refine ⟨k1, ?_, k3⟩
        rw [Array.getElem?_setIfInBounds_ne]
        · exact k2
        · intro he; subst he; exact hnr hr'

/-- one result -/
theorem resVal_ok (hw : WR P ifts ρ m H w.heap) {tmps : Array Value} (hT : TR ρ m T tmps) {f : ResultVar → Sem Value} (f1 : ∀ t, f (.tmp t) = pure (tmps.getD t undef)) (f2 : ∀ a t, f (.cell a t) = do loadVar t (← asAddr (tmps.getD a undef))) {r : ResultVar} {l : List ResultVar} {ar : List ARes} (h : cres P (r :: l) = some ar) :
    ∃ a al, ar = a :: al ∧ cres P l = some al ∧ ∀ v, resVal T H a = some v → ∃ v', VR ρ m v v' ∧ (f r).run P w = .ok v' w := by
  cases r with
  | tmp t =>
    obtain ⟨al, h1, h2⟩ := bd_some (show bd (cres P l) _ = some ar from h)
    cases h2
    refine ⟨_, al, rfl, h1, fun v hv => ?_⟩
    obtain ⟨v', h3, h4⟩ := hT t v hv
    refine ⟨v', h4, ?_⟩
    rw [f1]
    simp [Array.getD_eq_getD_getElem?, h3]
  | cell a t =>
    obtain ⟨n, h1, h2⟩ := bd_some (show bd (tsize P t) _ = some ar from h)
    obtain ⟨g, h3, h4⟩ := bd_some h2
    obtain ⟨al, h5, h6⟩ := bd_some h4
    cases h6
    refine ⟨_, al, rfl, h5, fun v hv => ?_⟩
    obtain ⟨u, h7, h8⟩ := bd_some (show bd (T.get a) _ = some v from hv)
    obtain ⟨b, off, rfl, h9⟩ := onP_some h8
    obtain ⟨row', h10, h11⟩ := bd_some (show bd (row H b) _ = some v from h9)
    obtain ⟨u', h12, h13⟩ := hT a _ h7
    simp only [VR] at h13
    obtain ⟨e, hm, rfl⟩ := h13
    obtain ⟨es, fl, hb⟩ := row_some h10
    have hget : tmps.getD a undef = .pointer (some ⟨e.b, e.o + off, none⟩) := by simp [Array.getD_eq_getD_getElem?, h12]
    cases g with
    | false =>
      have h14 : lget row' off = some v := h11
      rw [lget_eq] at h14
      obtain ⟨C, el, fr, g1, _, g3, _⟩ := cell_of hw hb hm
      obtain ⟨_, v', g4, g5⟩ := g3 _ _ h14
      refine ⟨v', g5, ?_⟩
      simp only [f2, hget]
      simp [asAddr, loadVar, r_agg h3, run_load, cell?_of g1, g4]
    | true =>
      obtain ⟨cs, h14, h15⟩ := bd_some (show bd (cut row' off n) _ = some v from h11)
      cases h15
      obtain ⟨C, el, fr, vs, g1, g2, g3, g4, g5⟩ := cut_cells hw hb hm h14
      refine ⟨.agg vs.toArray, by simp only [VR]; exact ⟨_, rfl, by simpa using g4, g5⟩, ?_⟩
      simp only [f2, hget]
      simp [asAddr, loadVar, r_agg h3, r_size h1, r_loadCells g1 (e.o + off) n g2 g3]

theorem resVals_ok (hw : WR P ifts ρ m H w.heap) {tmps : Array Value} (hT : TR ρ m T tmps) {f : ResultVar → Sem Value} (f1 : ∀ t, f (.tmp t) = pure (tmps.getD t undef)) (f2 : ∀ a t, f (.cell a t) = do loadVar t (← asAddr (tmps.getD a undef))) : ∀ {l : List ResultVar} {ar : List ARes} {vs : List AV}, cres P l = some ar → resVals T H ar = some vs →
    ∃ vs', VRs ρ m vs vs' ∧ (l.mapM f).run P w = .ok vs' w
  | [], ar, vs, h, hv => by
    cases h; cases hv
    exact ⟨[], .nil, by simp⟩
  | r :: l, ar, vs, h, hv => by
    obtain ⟨a, al, rfl, h1, h2⟩ := resVal_ok hw hT f1 f2 h
    obtain ⟨v, h3, h4⟩ := bd_some (show bd (resVal T H a) _ = some vs from hv)
    obtain ⟨vs1, h5, h6⟩ := bd_some h4
    cases h6
    obtain ⟨v', g1, g2⟩ := h2 v h3
    obtain ⟨vs', g3, g4⟩ := resVals_ok hw hT f1 f2 h1 h5
    refine ⟨v' :: vs', VRs.cons g1 g3, ?_⟩
    rw [List.mapM_cons, Sem.run_bind, g2, Result.andThen_ok, Sem.run_bind, g4, Result.andThen_ok, Sem.run_pure]

theorem res_ok (hw : WR P ifts ρ m H w.heap) {fn : Func} {tmps : Array Value} (hT : TR ρ m T tmps) {ar : List ARes} {v : AV} (h : cres P fn.results.toList = some ar) (hv : res T H ar = some v) :
    ∃ v', VR ρ m v v' ∧ (results fn tmps).run P w = .ok v' w := by
  obtain ⟨vs, h1, h2⟩ := bd_some (show bd (resVals T H ar) _ = some v from hv)
  unfold results
  rw [Array.mapM_eq_mapM_toList]
  simp only [Sem.run_bind, Sem.run_map]
  obtain ⟨vs', h3, h4⟩ := resVals_ok hw hT (f := fun x => match x with
    | .tmp t => pure (tmps.getD t undef)
    | .cell a t => do loadVar t (← asAddr (tmps.getD a undef))) (fun _ => rfl) (fun _ _ => rfl) h h1
  erw [h4]
  simp only [Result.andThen_ok, Sem.run_pure]
  match vs, h2, h3 with
  | [], h2, h3 => cases h2; rw [h3.nil_inv]; exact ⟨_, by simp only [VR]; exact ⟨#[], rfl, .nil⟩, rfl⟩
  | [v1], h2, h3 =>
    cases h2
    obtain ⟨u, us, rfl, h5, h6⟩ := h3.cons_inv
    rw [h6.nil_inv]
    exact ⟨u, h5, rfl⟩
  | v1 :: v2 :: vs, h2, h3 =>
    cases h2
    have hl := h3.length
    refine ⟨.tuple vs'.toArray, by simp only [VR]; exact ⟨_, rfl, by simpa using h3⟩, ?_⟩
    rw [dif_neg]
    simp only [List.size_toArray]
    simp at hl; omega
end
end Go.Ev

namespace Go.Ev
open Go
section
variable {P : Program} {ifts : List TypeId} {F : Facts} {ρ : Nat → Value} {m m' : Emb} {T T' : Tr AV} {H H' : AH} {hp hp' : Array Obj} {a : Act} {w : World} {R : Rec} {FT : Fns} {N : Nat}

def exitOf : AX → Exit
  | .nrm => .normal
  | .ext id => .exit id
  | .ret => .ret

structure COut (P : Program) (ifts : List TypeId) (ρ : Nat → Value) (m : Emb) (H : AH) (a : Act) (w : World) (s : Nat) (T' : Tr AV) (H' : AH) (a' : Act) (w' : World) (m' : Emb) : Prop where
  t : TR ρ m' T' a'.tmps
  st : St P ifts ρ m H w.heap m' H' w'.heap
  we : WE w w'
  sz : a'.tmps.size = a.tmps.size
  mks : Marks m' H' w'.heap s a'.defers

theorem COut.trans {s : Nat} {T1 T2 : Tr AV} {H1 H2 : AH} {a1 a2 : Act} {w1 w2 : World} {m1 m2 : Emb} (h : COut P ifts ρ m H a w s T1 H1 a1 w1 m1) (k : COut P ifts ρ m1 H1 a1 w1 s T2 H2 a2 w2 m2) : COut P ifts ρ m H a w s T2 H2 a2 w2 m2 :=
  ⟨k.t, h.st.trans k.st, h.we.trans k.we, k.sz.trans h.sz, k.mks⟩

/-- what was reckoned of code holds of it -/
def CodeOk (P : Program) (ifts : List TypeId) (F : Facts) (ρ : Nat → Value) (R : Rec) : Prop :=
  ∀ rd ac T H ax T' H', R rd ac T H = some (ax, T', H') → ∀ (N : Nat) (c : Code), ccode P ifts N c = some ac → ∀ m (a : Act) (w : World) (s : Nat) (ro : Option Nat), TR ρ m T a.tmps → N ≤ a.tmps.size →
    WR P ifts ρ m H w.heap → Fz F ρ m H w.heap → Marks m H w.heap s a.defers → s ≤ w.heap.size → (rd = false → ro = none) → ∀ Q : Exit → Act → World → Prop, (∀ a' w' m', COut P ifts ρ m H a w s T' H' a' w' m' → Q (exitOf ax) a' w') → c.wpIn (FF ro) 0 P Q a w

/-- the functions, and what is known of their calls, are the program's -/
structure FTOk (P : Program) (ifts : List TypeId) (F : Facts) (ρ : Nat → Value) (FT : Fns) : Prop where
  code : ∀ g fn, FT g = some fn → ∃ fn0, cfun P ifts g = some fn0 ∧ fn.body = fn0.body ∧ fn.res = fn0.res
  kn : ∀ g fn, FT g = some fn → ∀ args v, (args, v) ∈ fn.kn → ∀ H, CallG P ifts F ρ g args H v H

theorem FTOk.plain (hF : ∀ g fn, FT g = some fn → cfun P ifts g = some fn) : FTOk P ifts F ρ FT :=
  ⟨fun g fn h => ⟨fn, hF g fn h, rfl, rfl⟩, fun g fn h args v hk => by
    obtain ⟨f, c, b, r, _, _, _, _, _, rfl⟩ := cfun_some (hF g fn h)
    cases hk⟩

theorem findKn_mem {args : List AV} {v : AV} : ∀ {l : List (List AV × AV)}, findKn args l = some v → (args, v) ∈ l
  | [], h => by cases h
  | (a, u) :: l, h => by
    unfold findKn at h
    cases hb : veqs a args with
    | true => rw [hb] at h; cases h; rw [veqs_eq hb]; simp
    | false => rw [hb] at h; exact List.mem_cons_of_mem _ (findKn_mem (show findKn args l = some v from h))

/-- a call -/
theorem call_ok (hC : CodeOk P ifts F ρ R) (hF : FTOk P ifts F ρ FT) {g : Nat} {args : List AV} {v : AV} (h : callA R FT g args H = some (v, H')) : CallG P ifts F ρ g args H v H' := by
  obtain ⟨fn, h1, h2'⟩ := bd_some h
  cases hkn : findKn args fn.kn with
  | some u =>
    rw [hkn] at h2'
    have h3 : some (u, H) = some (v, H') := h2'
    obtain ⟨rfl, rfl⟩ : u = v ∧ H = H' := by simpa using h3
    exact hF.kn g fn h1 args u (findKn_mem hkn) H
  | none =>
  rw [hkn] at h2'
  have h2 : callR R fn args H = some (v, H') := h2'
  intro m w vs hw hz hvs
  obtain ⟨⟨ax, T', H1⟩, h3, h4⟩ := bd_some h2
  obtain ⟨fn0, hc0, hb0, hr0⟩ := hF.code g fn h1
  rw [hb0] at h3
  rw [hr0] at h4
  obtain ⟨f, c, b, r, g1, g2, g3, g4, g5, rfl⟩ := cfun_some hc0
  refine callsIn_of_wp_marks g1 g2 trivial (hro := rfl) ?_
  have hfin : (ax = .nrm ∨ ax = .ret) ∧ H1 = H' ∧ res T' H1 r = some v := by
    cases ax with
    | nrm => obtain ⟨u, k1, k2⟩ := bd_some (show bd (res T' H1 r) _ = some (v, H') from h4); cases k2; exact ⟨.inl rfl, rfl, k1⟩
    | ext id => cases h4
    | ret => obtain ⟨u, k1, k2⟩ := bd_some (show bd (res T' H1 r) _ = some (v, H') from h4); cases k2; exact ⟨.inr rfl, rfl, k1⟩
  obtain ⟨hax, rfl, hres⟩ := hfin
  refine hC false b _ H ax T' H1 h3 f.ntmps c g4 m _ w w.heap.size none ?_ ?_ hw hz Marks.nil (Nat.le_refl _) (fun _ => rfl) _ fun a' w' m' ho => ?_
  · intro t x hx
    rw [Tr.get_ofL] at hx
    split at hx
    · rename_i hlt
      simp at hlt hx
      obtain ⟨v', k1, k2⟩ := hvs.get hx
      refine ⟨v', ?_, k2⟩
      have hl := hvs.length
      simp at hl
      rw [Array.getElem?_append_left (by omega)]
      simpa using k1
    · simp at hx
  · simp; omega
  · have hl : LeavesInM Fence.wide 0 P f a'.tmps (fun e w' => ∃ m' v', e = .returned v' ∧ VR ρ m' v v' ∧ St P ifts ρ m H w.heap m' H1 w'.heap ∧ WE w w') a'.defers .returning w' := by
      refine leaves (w0 := w) ho.mks ho.st ho.we fun w2 st we => ?_
      obtain ⟨v', k1, k2⟩ := res_ok st.wr ho.t g5 hres
      exact ⟨v', k2, m', v', rfl, k1, st, we⟩
    rcases hax with rfl | rfl <;> exact hl

theorem loopOf_some {l : Nat} {x : Nat × Tr AV × List Nat × ACode × ACode} (h : loopOf H l = some x) : H.get l = some (.loop x.1 x.2.1 x.2.2.1 x.2.2.2.1 x.2.2.2.2) := by
  unfold loopOf at h
  split at h
  · rename_i st T ps a b hg
    cases h; exact hg
  · cases h

theorem layPs_len : ∀ {ps : List Nat} {vs : List AV} {T T' : Tr AV}, layPs ps vs T = some T' → ps.length = vs.length
  | [], [], _, _, _ => rfl
  | [], _ :: _, _, _, h => by cases h
  | _ :: _, [], _, _, h => by cases h
  | p :: ps, v :: vs, T, T', h => by
    have := layPs_len (show layPs ps vs (T.set v p) = some T' from h)
    simp [this]

theorem layPs_ok : ∀ {ps : List Nat} {vs : List AV} {T T' : Tr AV} {us : List Value} {tmps : Array Value}, layPs ps vs T = some T' → VRs ρ m vs us → TR ρ m T tmps → (∀ p, p ∈ ps → p < tmps.size) →
    TR ρ m T' ((ps.zip us).foldl (fun tmps (x : Nat × Value) => tmps.setIfInBounds x.1 x.2) tmps) ∧ ((ps.zip us).foldl (fun tmps (x : Nat × Value) => tmps.setIfInBounds x.1 x.2) tmps).size = tmps.size
  | [], [], T, T', us, tmps, h, hv, hT, _ => by cases h; rw [hv.nil_inv]; exact ⟨hT, rfl⟩
  | [], _ :: _, _, _, _, _, h, _, _, _ => by cases h
  | _ :: _, [], _, _, _, _, h, _, _, _ => by cases h
  | p :: ps, v :: vs, T, T', us, tmps, h, hv, hT, hp => by
    obtain ⟨u, us', rfl, h1, h2⟩ := hv.cons_inv
    have hp0 := hp p (by simp)
    have ih := layPs_ok (tmps := tmps.setIfInBounds p u) (show layPs ps vs (T.set v p) = some T' from h) h2 (fun t x hx => by
      rw [Tr.get_set] at hx
      split at hx
      · rename_i he; subst he; cases hx
        exact ⟨u, by simp [hp0], h1⟩
      · rename_i he
        rw [Array.getElem?_setIfInBounds_ne (by omega)]
        exact hT t x hx) (fun q hq => by simpa using hp q (by simp [hq]))
    simp only [List.zip_cons_cons, List.foldl_cons]
    exact ⟨ih.1, by rw [ih.2]; simp⟩

/-- a loop's record turns its state -/
theorem loop_upd (hw : WR P ifts ρ m H hp) {l st : Nat} {Tl : Tr AV} {ps : List Nat} {ca cb : ACode} (hl : H.get l = some (.loop st Tl ps ca cb)) {e : MB} (hm : m l = some e) :
    ∃ r : Loop, hp[e.b]? = some (.loop r) ∧ r.state = stOf st ∧ r.pending = none ∧ ∀ st', St P ifts ρ m H hp m (H.put l (.loop st' Tl ps ca cb)) (hp.setIfInBounds e.b (.loop { r with state := stOf st' })) := by
  obtain ⟨h0, fn, tmps, cca, ccb, d, h1, h2, h3⟩ := hw.ob l _ e hl hm
  refine ⟨_, h1, rfl, rfl, fun st' => ?_⟩
  have hlt : e.b < hp.size := (Array.getElem?_eq_some_iff.1 h1).1
  exact St.upd hw hl hm ⟨h0, fn, tmps, cca, ccb, d, by simp [hlt], h2, h3⟩

theorem isNrm_eq {e : AX} (h : isNrm e = true) : e = .nrm := by cases e <;> first | rfl | cases h

/-- a round -/
theorem round_ok (hC : CodeOk P ifts F ρ R) {l : Nat} {args : List AV} {v : AV} (h : roundA R l args H = some (v, H')) : RoundG P ifts F ρ l args H v H' := by
  intro m w e vs hw hz hm hvs
  obtain ⟨x, h1, h2⟩ := bd_some h
  obtain ⟨hx0, h3⟩ := orN_some h2
  obtain ⟨T0, h4, h5⟩ := bd_some h3
  obtain ⟨⟨ax1, T1, H1⟩, h6, h7⟩ := bd_some h5
  obtain ⟨hn1, h8⟩ := orN_some h7
  obtain ⟨y, h9, h10⟩ := bd_some h8
  obtain ⟨hy0, h11⟩ := orN_some h10
  obtain ⟨⟨ax2, T2, H2⟩, h12, h13⟩ := bd_some h11
  obtain ⟨hn2, h14⟩ := orN_some h13
  obtain ⟨z, h15, h16⟩ := bd_some h14
  cases h16
  have e1 : ax1 = .nrm := isNrm_eq hn1
  have e2 : ax2 = .nrm := isNrm_eq hn2
  subst e1; subst e2
  have hgx := loopOf_some h1
  have hx0' : x.1 = 0 := Nat.eq_of_beq_eq_true hx0
  have hy0' : y.1 = 0 := Nat.eq_of_beq_eq_true hy0
  obtain ⟨he0, fn, tmps, ca, cb, d, k1, k2, N, k3, k4, k5, k6⟩ := hw.ob l _ e hgx hm
  rw [hx0'] at k1
  have hlen := layPs_len h4
  have hlv := hvs.length
  obtain ⟨hT0, hsz⟩ := layPs_ok h4 hvs k2 k6
  refine ⟨fn, (x.2.2.1.zip vs.toList).foldl (fun tmps (x : Nat × Value) => tmps.setIfInBounds x.1 x.2) tmps, ca, cb, ?_, ?_⟩
  · simp only [Instr.yield, Instr.getLoop, Sem.run_bind, r_getObj k1, Result.andThen_ok, Sem.run_pure]
    rw [if_neg (by simp; simp at hlv; omega)]
    simp only [Sem.run_pure]
    congr 2
    rw [← Array.foldl_toList]
    simp
  · refine roundIn_of_wpIn (F := Fence.wide) trivial ?_
    refine hC true _ T0 H .nrm T1 H1 h6 N ca k4 m _ w w.heap.size (some e.b) hT0 (by rw [hsz]; exact k3) hw hz Marks.nil (Nat.le_refl _) (fun h => by cases h) _ fun a1 w1 m1 o1 => ?_
    have hm1 : m1 l = some e := o1.st.emb hw l e hm
    have hgy := loopOf_some h9
    rw [hy0'] at hgy
    obtain ⟨r1, g1, g2, g3, g4⟩ := loop_upd o1.st.wr hgy hm1
    have s1 := g4 1
    refine ⟨{ w1 with heap := w1.heap.setIfInBounds e.b (.loop { r1 with state := stOf 1 }) }, ?_, ?_⟩
    · simp only [Instr.beginRound, Instr.getLoop, Sem.run_bind, r_getObj g1, Result.andThen_ok, Sem.run_pure, r_setObj _ g1, g2]
      rfl
    · refine hC true _ T1 _ .nrm T2 H2 h12 N cb k5 m1 a1 _ w.heap.size (some e.b) o1.t (by rw [o1.sz, hsz]; exact k3) s1.wr ((hz.step o1.st).step s1) (o1.mks.step s1) (by simpa using o1.st.sz) (fun h => by cases h) _ fun a2 w2 m2 o2 => ?_
      have hm2 : m2 l = some e := o2.st.emb s1.wr l e hm1
      have hgz := loopOf_some h15
      obtain ⟨r2, q1, q2, q3, q4⟩ := loop_upd o2.st.wr hgz hm2
      refine ⟨.bool true, { w2 with heap := w2.heap.setIfInBounds e.b (.loop { r2 with state := stOf 0 }) }, ?_, m2, .bool true, rfl, by simp only [VR], ((o1.st.trans s1).trans o2.st).trans (q4 0), ?_⟩
      · simp only [Instr.endRound, Instr.getLoop, Sem.run_bind, r_getObj q1, Result.andThen_ok, Sem.run_pure, r_setObj _ q1, Option.isNone_none, if_true]
        rw [show (none : Option Code) = r2.pending from q3.symm]
        rfl
      · have w1' := o1.we; have w2' := o2.we
        exact ⟨w2'.os.trans w1'.os, w2'.tape.trans w1'.tape, w2'.out.trans w1'.out⟩

theorem rec_ok (hC : CodeOk P ifts F ρ R) (hF : FTOk P ifts F ρ FT) : RecOk P ifts F ρ R FT :=
  ⟨fun _ _ _ _ _ h => call_ok hC hF h, fun _ _ _ _ _ h => round_ok hC h, fun g fn h => by obtain ⟨fn0, h0, _⟩ := hF.code g fn h; exact ⟨fn0, h0⟩⟩
end
end Go.Ev

namespace Go.Ev
open Go
section
variable {P : Program} {ifts : List TypeId} {F : Facts} {ρ : Nat → Value} {m m' : Emb} {T T' : Tr AV} {H H' : AH} {hp hp' : Array Obj} {a : Act} {w : World} {R : Rec} {FT : Fns} {N : Nat}

theorem seqV_some {rd : Bool} {b : ACode} {r : AX × Tr AV × AH} {ax : AX} (h : seqV R rd b r = some (ax, T', H')) :
    (r.1 = .nrm ∧ R rd b r.2.1 r.2.2 = some (ax, T', H')) ∨ (r.1 ≠ .nrm ∧ r = (ax, T', H')) := by
  obtain ⟨x, T1, H1⟩ := r
  cases x with
  | nrm => exact .inl ⟨rfl, h⟩
  | ext id => cases h; exact .inr ⟨by simp, rfl⟩
  | ret => cases h; exact .inr ⟨by simp, rfl⟩

/-- somebody's else block comes -/
theorem St.push (hw : WR P ifts ρ m H hp) (obj : Obj) : St P ifts ρ m H hp m H (hp.push obj) := by
  have old : ∀ b o e, H.get b = some o → m b = some e → e.b < hp.size := fun b o e h1 h2 => (hw.ob b o e h1 h2).lt
  refine ⟨Nat.le_refl _, fun _ _ => rfl, ⟨hw.nx, hw.lt, fun b o e h1 h2 => OR.congr ?_ (hw.ob b o e h1 h2), hw.dj⟩, by simp, fun B hB _ => ?_, fun b o e h1 h2 => .inr ⟨b, o, e, h1, h2, rfl⟩, fun _ _ _ => rfl⟩
  · rw [Array.getElem?_push, if_neg (by have := old b o e h1 h2; omega)]
  · rw [Array.getElem?_push, if_neg (by omega)]

theorem exit_nn {x : AX} (h : x ≠ .nrm) {K : Act → World → Prop} {Q : Exit → Act → World → Prop} (hq : Q (exitOf x) a w) : Exit.then K Q (exitOf x) a w := by
  cases x with
  | nrm => exact absurd rfl h
  | ext id => exact hq
  | ret => exact hq

theorem loop_rounds {c : Code} {ac : ACode} (hc : ccode P ifts N c = some ac) : ∀ n, (∀ k, k ≤ n → CodeOk P ifts F ρ (run F FT k)) → ∀ (rd : Bool) (T : Tr AV) (H : AH) (ax : AX) (T' : Tr AV) (H' : AH), run F FT (n + 1) rd (.loop ac) T H = some (ax, T', H') →
    ∀ m (a : Act) (w : World) (s : Nat) (ro : Option Nat), TR ρ m T a.tmps → N ≤ a.tmps.size → WR P ifts ρ m H w.heap → Fz F ρ m H w.heap → Marks m H w.heap s a.defers → s ≤ w.heap.size → (rd = false → ro = none) → ∀ Q : Exit → Act → World → Prop,
      (∀ a' w' m', COut P ifts ρ m H a w s T' H' a' w' m' → Q (exitOf ax) a' w') → Code.roundsIn (FF ro) 0 P c Q (n + 1) a w := by
  intro n
  induction n with
  | zero =>
    intro hC rd T H ax T' H' h
    obtain ⟨r, h1, _⟩ := bd_some (show bd (run F FT 0 rd ac T H) (seqV (run F FT 0) rd (.loop ac)) = some (ax, T', H') from h)
    cases h1
  | succ n ih =>
    intro hC rd T H ax T' H' h m a w s ro hT hN hw hz hM hs hro Q hQ
    obtain ⟨r, h1, h2⟩ := bd_some (show bd (run F FT (n + 1) rd ac T H) (seqV (run F FT (n + 1)) rd (.loop ac)) = some (ax, T', H') from h)
    rw [roundsIn_succ]
    obtain ⟨x, T1, H1⟩ := r
    refine hC (n + 1) (Nat.le_refl _) rd ac T H x T1 H1 h1 N c hc m a w s ro hT hN hw hz hM hs hro _ fun a1 w1 m1 o1 => ?_
    rcases seqV_some h2 with ⟨hx, h3⟩ | ⟨hx, h3⟩
    · have hx' : x = .nrm := hx
      subst hx'
      exact ih (fun k hk => hC k (by omega)) rd T1 H1 ax T' H' h3 m1 a1 w1 s ro o1.t (by rw [o1.sz]; exact hN) o1.st.wr (hz.step o1.st) o1.mks (Nat.le_trans hs o1.st.sz) hro Q fun a2 w2 m2 o2 => hQ a2 w2 m2 (o1.trans o2)
    · cases h3
      exact exit_nn hx (hQ a1 w1 m1 o1)

/-- a range over a function -/
theorem rf_ok (hR : RecOk P ifts F ρ R FT) {f : Operand} {ps : Array Tmp} {ca cb : Code} {af : AOpd} {aa ab : ACode} (hf : copd f = some af) (ha : ccode P ifts N ca = some aa) (hb : ccode P ifts N cb = some ab) (hps : ∀ p, p ∈ ps → p < N)
    {ax : AX} (h : bd (af.ev T) (rfV FT R ps.toList aa ab T H) = some (ax, T', H')) {s : Nat} (hT : TR ρ m T a.tmps) (hN : N ≤ a.tmps.size) (hw : WR P ifts ρ m H w.heap) (hz : Fz F ρ m H w.heap) (hM : Marks m H w.heap s a.defers) (hs : s ≤ w.heap.size)
    {Q : Exit → Act → World → Prop} (hQ : ∀ a' w' m', COut P ifts ρ m H a w s T' H' a' w' m' → Q (exitOf ax) a' w') : (Code.rangeFunc f ps ca cb).wpIn (FF none) 0 P Q a w := by
  obtain ⟨u, h1, h2⟩ := bd_some h
  obtain ⟨⟨v, H3⟩, h3, h4⟩ := bd_some (show bd (callF R FT [.yl (Nat.succ H.n)] ((H.new .dfr).new (.loop 0 T ps.toList aa ab)) u) _ = some (ax, T', H') from h2)
  obtain ⟨lp, h5, h6⟩ := bd_some h4
  obtain ⟨hl0, h7⟩ := orN_some h6
  cases h7
  have hu := opd_ok hT hf h1
  rcases onCall_some (show onCall _ _ u = some (v, H3) from h3) with ⟨g, first, cap, rfl, h8⟩ | ⟨_, _, h8⟩
  · simp only [VR] at hu
    obtain ⟨f', c', hu, hvf, hvc⟩ := hu
    refine wpIn_rangeFunc fun fnid _ => ?_
    obtain ⟨rc, hrc⟩ : ∃ rc : Loop, rc = { state := .ready, pending := none, fn := fnid, tmps := a.tmps, params := ps, assign := ca, body := cb, defers := w.heap.size } := ⟨_, rfl⟩
    obtain ⟨hp1, hh1⟩ : ∃ hp1, hp1 = w.heap.push (.deferred (some [])) := ⟨_, rfl⟩
    obtain ⟨W, hW⟩ : ∃ W : World, W = { w with heap := hp1.push (.loop rc) } := ⟨_, rfl⟩
    have hs1 : hp1.size = w.heap.size + 1 := by rw [hh1]; simp
    have hWh : W.heap = hp1.push (.loop rc) := by rw [hW]
    have hWe : WE w W := by rw [hW]; exact ⟨rfl, rfl, rfl⟩
    have hdfr : hp1[w.heap.size]? = some (.deferred (some [])) := by rw [hh1, Array.getElem?_push_size]
    have st1 : St P ifts ρ m H w.heap m H hp1 := by rw [hh1]; exact St.push hw _
    have st2 := st1.unborn .dfr
    have htop : (H.new .dfr).n = H.n + 1 := rfl
    obtain ⟨e, he⟩ : ∃ e : MB, e = ⟨hp1.size, 0, 0⟩ := ⟨_, rfl⟩
    obtain ⟨m2, hm2⟩ : ∃ m2, m2 = m.add (H.new .dfr).n e := ⟨_, rfl⟩
    obtain ⟨H2, hH2⟩ : ∃ H2, H2 = (H.new .dfr).new (.loop 0 T ps.toList aa ab) := ⟨_, rfl⟩
    have hemb : m.le m2 := by rw [hm2]; exact Emb.le_add (st2.wr.nx _ (Nat.le_refl _))
    have heb : e.b = w.heap.size + 1 := by rw [he]; exact hs1
    have hmy : m2 (Nat.succ H.n) = some e := by rw [hm2]; exact Emb.add_same _ _ _
    have st3 : St P ifts ρ m (H.new .dfr) hp1 m2 H2 W.heap := by
      rw [hWh, hm2, hH2, he]
      refine St.alloc st2.wr (x := 0) ⟨rfl, fnid, a.tmps, ca, cb, w.heap.size, ?_, ?_, N, hN, ha, hb, fun p hp => Nat.lt_of_lt_of_le (hps p (by simpa using hp)) hN⟩
      · rw [Array.getElem?_push_size, hrc]; simp [stOf]
      · rw [← he, ← hm2]; exact hT.mono hemb
    have stA := st2.trans st3
    rw [← hH2] at h8
    obtain ⟨fn, hfn⟩ := callA_fn h8
    obtain ⟨vs, hvs⟩ : ∃ vs : Array Value, vs = (f' ++ #[.func (.yield (w.heap.size + 1)) #[] #[]]) ++ c' := ⟨_, rfl⟩
    have hvr : VRs ρ m2 (first ++ [.yl (Nat.succ H.n)] ++ cap) vs.toList := by
      rw [hvs]
      simp only [Array.toList_append]
      refine ((hvf.mono hemb).append (VRs.cons ?_ .nil)).append (hvc.mono hemb)
      simp only [VR]
      exact ⟨_, hmy, by rw [heb]⟩
    have hcall := hR.call g _ _ v H3 h8 m2 W vs st3.wr (hz.step stA) hvr
    refine ⟨w.heap.size + 1, [markOf w.heap.size], W, { target := .fn (.func g) c', args := f' ++ #[.func (.yield (w.heap.size + 1)) #[] #[]] }, W, g, vs, W, ?_, ?_, fun _ _ => trivial, ?_, fun hd => by simp [FF] at hd, ?_⟩
    · rw [hW, hh1, hrc]
      show (Instr.enterLoop fnid a.tmps ps ca cb none).run P w = _
      simp only [Instr.enterLoop, Sem.run_bind, run_newObj, Result.andThen_ok, Sem.run_pure, Array.size_push]
      rfl
    · show (Deferred.ofValue (a.eval f) _).run P W = _
      rw [hu]
      simp [Deferred.ofValue, Act.eval]
    · simp only [invoke]
      rw [← hvs]
      obtain ⟨fn0, hfn0⟩ := hR.fns g fn hfn
      exact r_callFunc hfn0 _
    · show CallsIn (FF none) 0 P g vs W _
      refine CallsIn.mono (callsIn_ff hcall) ?_
      rintro e' w3 ⟨m3, v3, rfl, hv3, st4, we4⟩
      have hm3 : m3 (Nat.succ H.n) = some e := st4.emb st3.wr _ _ hmy
      have hg := loopOf_some h5
      rw [show lp.1 = 0 from Nat.eq_of_beq_eq_true hl0] at hg
      obtain ⟨r, q1, q2, q3, q4⟩ := loop_upd st4.wr hg hm3
      have st5 := q4 2
      rw [heb] at q1 st5
      refine ⟨none, { w3 with heap := w3.heap.setIfInBounds (w.heap.size + 1) (.loop { r with state := stOf 2 }) }, ?_, ?_⟩
      · simp only [Instr.endLoop, Instr.getLoop, Sem.run_bind, r_getObj q1, Result.andThen_ok, Sem.run_pure, q2]
        rw [if_neg (by simp [stOf])]
        simp only [Sem.run_bind, Sem.run_pure, Result.andThen_ok, r_setObj _ q1, q3]
        rfl
      · refine hQ _ _ m3 ⟨hT.mono (Emb.le_trans hemb (st4.emb st3.wr)), (stA.trans st4).trans st5, ⟨we4.os.trans hWe.os, we4.tape.trans hWe.tape, we4.out.trans hWe.out⟩, rfl, ?_⟩
        have hM3 : Marks m2 H2 W.heap s (markOf w.heap.size :: a.defers) := by
          refine Marks.cons (hM.step stA) hs ?_ ?_ ?_
          · rw [hWh, Array.getElem?_push, if_neg (by omega)]; exact hdfr
          · intro b o e1 k1 k2
            rw [hH2] at k1
            rw [hm2] at k2
            by_cases hbn : b = (H.new .dfr).n
            · subst hbn
              rw [Emb.add_same] at k2; cases k2
              omega
            · rw [Emb.add_ne _ _ hbn] at k2
              rw [AH.get_new, if_neg hbn] at k1
              have hlt : b < H.n := hw.lt_of k2
              rw [AH.get_new, if_neg (by omega)] at k1
              have := (hw.ob b o e1 k1 k2).lt
              omega
          · intro r' hr' he'
            have := hM.lt hr'
            omega
        exact (hM3.step st4).step st5
  · cases h8

theorem step_ok (hmix : P.follows .mixedOrders = true) (hf : FOk P F ρ) (h1 : One ρ) (hF : FTOk P ifts F ρ FT) {n : Nat} (hall : ∀ k, k ≤ n → CodeOk P ifts F ρ (run F FT k)) : CodeOk P ifts F ρ (run F FT (n + 1)) := by
  have hC := hall n (Nat.le_refl _)
  have hR := rec_ok hC hF
  intro rd ac T H ax T' H' h N c hc m a w s ro hT hN hw hz hM hs hro Q hQ
  have h : stepR ac F FT (run F FT n) rd T H = some (ax, T', H') := h
  cases c with
  | skip => cases hc; cases h; exact wpIn_skip (hQ a w m ⟨hT, St.refl hw, WE.refl w, rfl, hM⟩)
  | region id os d =>
    cases d with
    | false =>
      obtain ⟨al, h2, h3⟩ := bd_some (show bd (copers P ifts N os os.toList) _ = some ac from hc)
      cases h3
      obtain ⟨⟨T1, H1⟩, h4, h5⟩ := bd_some (show bd (ops F (run F FT n) FT al T H) _ = some (ax, T', H') from h)
      cases h5
      exact reg_ok hf h1 hR h2 h4 hT hN hw hz fun a' w' m' o => hQ a' w' m' ⟨o.t, o.st, o.we, o.sz, by rw [o.df]; exact hM.step o.st⟩
    | true =>
      obtain ⟨al, h2, h3⟩ := bd_some (show bd (cdrw P ifts N os) _ = some ac from hc)
      cases h3
      obtain ⟨⟨T1, H1⟩, h4, h5⟩ := bd_some (show bd (ops F (run F FT n) FT al T H) _ = some (ax, T', H') from h)
      cases h5
      exact drw_ok hmix hf h1 hR h2 h4 hT hN hw hz fun a' w' m' o => hQ a' w' m' ⟨o.t, o.st, o.we, o.sz, by rw [o.df]; exact hM.step o.st⟩
  | seq x y =>
    obtain ⟨ax', h2, h3⟩ := bd_some (show bd (ccode P ifts N x) _ = some ac from hc)
    obtain ⟨ay', h4, h5⟩ := bd_some h3
    cases h5
    obtain ⟨⟨x1, T1, H1⟩, h6, h7⟩ := bd_some (show bd (run F FT n rd ax' T H) (seqV (run F FT n) rd ay') = some (ax, T', H') from h)
    refine wpIn_seq (hC rd _ T H x1 T1 H1 h6 N x h2 m a w s ro hT hN hw hz hM hs hro _ fun a1 w1 m1 o1 => ?_)
    rcases seqV_some h7 with ⟨hx, h8⟩ | ⟨hx, h8⟩
    · have hx' : x1 = .nrm := hx
      subst hx'
      exact hC rd _ T1 H1 ax T' H' h8 N y h4 m1 a1 w1 s ro o1.t (by rw [o1.sz]; exact hN) o1.st.wr (hz.step o1.st) o1.mks (Nat.le_trans hs o1.st.sz) hro Q fun a2 w2 m2 o2 => hQ a2 w2 m2 (o1.trans o2)
    · cases h8
      exact exit_nn hx (hQ a1 w1 m1 o1)
  | cond c x y =>
    obtain ⟨cc, h2, h3⟩ := bd_some (show bd (copd c) _ = some ac from hc)
    obtain ⟨ax', h4, h5⟩ := bd_some h3
    obtain ⟨ay', h6, h7⟩ := bd_some h5
    cases h7
    obtain ⟨u, h8, h9⟩ := bd_some (show bd (cc.ev T) _ = some (ax, T', H') from h)
    obtain ⟨b, rfl, h10⟩ := onB_some (show onB _ u = some (ax, T', H') from h9)
    have hu := opd_ok hT h2 h8
    simp only [VR] at hu
    refine wpIn_cond hu ?_
    cases b with
    | true => exact hC rd _ T H ax T' H' h10 N x h4 m a w s ro hT hN hw hz hM hs hro Q hQ
    | false => exact hC rd _ T H ax T' H' h10 N y h6 m a w s ro hT hN hw hz hM hs hro Q hQ
  | block id x =>
    obtain ⟨ax', h2, h3⟩ := bd_some (show bd (ccode P ifts N x) _ = some ac from hc)
    cases h3
    obtain ⟨⟨x1, T1, H1⟩, h6, h7⟩ := bd_some (show bd (run F FT n rd ax' T H) (blkV id) = some (ax, T', H') from h)
    cases h7
    refine wpIn_block (hC rd _ T H x1 T1 H1 h6 N x h2 m a w s ro hT hN hw hz hM hs hro _ fun a1 w1 m1 o1 => ?_)
    have hq := hQ a1 w1 m1 o1
    cases x1 with
    | nrm => exact hq
    | ret => exact hq
    | ext id' =>
      cases hb : Nat.beq id' id with
      | true =>
        simp only [blkX, hb, iff_true] at hq
        have hid : id' = id := Nat.eq_of_beq_eq_true hb
        simp only [exitOf, Exit.inBlock, hid, if_true]
        exact hq
      | false =>
        simp only [blkX, hb, iff_false] at hq
        have hid : id' ≠ id := fun e => by subst e; simp at hb
        simp only [exitOf, Exit.inBlock, if_neg hid]
        exact hq
  | loop x =>
    obtain ⟨ax', h2, h3⟩ := bd_some (show bd (ccode P ifts N x) _ = some ac from hc)
    cases h3
    exact wpIn_loop_rounds (n + 1) (loop_rounds h2 n hall rd T H ax T' H' h m a w s ro hT hN hw hz hM hs hro Q hQ)
  | exit id => cases hc; cases h; exact wpIn_exit (hQ a w m ⟨hT, St.refl hw, WE.refl w, rfl, hM⟩)
  | ret => cases hc; cases h; exact wpIn_ret (hQ a w m ⟨hT, St.refl hw, WE.refl w, rfl, hM⟩)
  | rangeFunc f ps x y =>
    obtain ⟨af, h2, h3⟩ := bd_some (show bd (copd f) _ = some ac from hc)
    obtain ⟨aa, h4, h5⟩ := bd_some h3
    obtain ⟨ab, h6, h7⟩ := bd_some h5
    split at h7
    · rename_i hps
      cases h7
      cases rd with
      | true => cases h
      | false =>
        rw [hro rfl]
        simp only [List.all_eq_true] at hps
        exact rf_ok hR h2 h4 h6 (fun p hp => Nat.le_of_ble_eq_true (hps p (by simpa using hp))) h hT hN hw hz hM hs hQ
    · cases h7
  | _ => cases hc

theorem run_ok (hmix : P.follows .mixedOrders = true) (hf : FOk P F ρ) (h1 : One ρ) (hF : FTOk P ifts F ρ FT) : ∀ n, CodeOk P ifts F ρ (run F FT n) := by
  intro n
  induction n using Nat.strongRecOn with
  | _ n ih =>
    cases n with
    | zero => intro rd ac T H ax T' H' h; cases h
    | succ n => exact step_ok hmix hf h1 hF fun k hk => ih k (by omega)

/-- what was reckoned of a call holds of it, in whatever world stands so -/
theorem evCall_ok (hmix : P.follows .mixedOrders = true) (hf : FOk P F ρ) (h1 : One ρ) (hF : FTOk P ifts F ρ FT) {n g : Nat} {args : List AV} {v : AV} (h : evCall F FT n g args H = some (v, H')) :
    CallG P ifts F ρ g args H v H' := call_ok (run_ok hmix hf h1 hF n) hF h
end
end Go.Ev

namespace Go.Ev
open Go Go.RowKit

/-- of every entry of a tree -/
inductive Tr.All {α : Type} : (Nat → α → Prop) → Tr α → Prop where
  | lf {p : Nat → α → Prop} : Tr.All p .lf
  | nd {p : Nat → α → Prop} {l r : Tr α} {v : α} (h : p 0 v) (hl : Tr.All (fun k => p (2 * k + 1)) l) (hr : Tr.All (fun k => p (2 * k + 2)) r) : Tr.All p (.nd l (some v) r)
  | nn {p : Nat → α → Prop} {l r : Tr α} (hl : Tr.All (fun k => p (2 * k + 1)) l) (hr : Tr.All (fun k => p (2 * k + 2)) r) : Tr.All p (.nd l none r)

theorem Tr.all_get {α : Type} {p : Nat → α → Prop} {t : Tr α} (h : Tr.All p t) : ∀ n v, t.get n = some v → p n v := by
  induction h with
  | lf => intro n v h; cases h
  | nd h hl hr ihl ihr =>
    intro n v hv
    cases n with
    | zero => cases hv; exact h
    | succ m =>
      rcases Nat.mod_two_eq_zero_or_one m with hm | hm
      · rw [Tr.get_nd_even _ _ _ _ hm] at hv
        have h2 := ihl _ _ hv
        simp only [show 2 * (m / 2) + 1 = m + 1 from by omega] at h2
        exact h2
      · rw [Tr.get_nd_odd _ _ _ _ hm] at hv
        have h2 := ihr _ _ hv
        simp only [show 2 * (m / 2) + 2 = m + 1 from by omega] at h2
        exact h2
  | nn hl hr ihl ihr =>
    intro n v hv
    cases n with
    | zero => cases hv
    | succ m =>
      rcases Nat.mod_two_eq_zero_or_one m with hm | hm
      · rw [Tr.get_nd_even _ _ _ _ hm] at hv
        have h2 := ihl _ _ hv
        simp only [show 2 * (m / 2) + 1 = m + 1 from by omega] at h2
        exact h2
      · rw [Tr.get_nd_odd _ _ _ _ hm] at hv
        have h2 := ihr _ _ hv
        simp only [show 2 * (m / 2) + 2 = m + 1 from by omega] at h2
        exact h2

section
variable {P : Program} {ifts : List TypeId} {F : Facts} {ρ : Nat → Value} {FT : Fns}

def none' : Emb := fun _ => none
def nothing : AH := ⟨.lf, 0⟩

theorem WR.nothing {hp : Array Obj} : WR P ifts ρ none' nothing hp :=
  ⟨fun _ _ => rfl, fun b o h => (by cases h), fun b o e h => (by cases h), fun b b' o o' e e' h => (by cases h)⟩

/-- a fact on numbers -/
theorem bin_fact {op : BinOp} {a b r : AV} {k k' : IntKind} {x y : Int} (ha : ∀ m va, VR ρ m a va → va = .int k x) (hb : ∀ m vb, VR ρ m b vb → vb = .int k' y) {v : AV} (hv : intop op k x k' y = some v) (hr : ∀ m u, VR ρ m v u → VR ρ m r u) :
    ∀ m va vb, VR ρ m a va → VR ρ m b vb → (∃ k n k' n', va = .int k n ∧ vb = .int k' n') ∧ ∃ vr, VR ρ m r vr ∧ ∀ t (w : World), (binOp op t va vb).run P w = .ok vr w := by
  intro m va vb h1 h2
  obtain rfl := ha m va h1
  obtain rfl := hb m vb h2
  obtain ⟨vr, h3, h4⟩ := intop_ok (P := P) (m := m) hv
  exact ⟨⟨_, _, _, _, rfl, rfl⟩, vr, hr m vr h3, h4⟩

/-- did it come to true? -/
noncomputable def isTrue (r : Option (AV × AH)) : Bool := Option.rec (motive := fun _ => Bool) false (fun p => Option.rec (motive := fun _ => Bool) false (fun b => b) (onB (fun b => some b) p.1)) r

theorem isTrue_some {r : Option (AV × AH)} (h : isTrue r = true) : ∃ H, r = some (.b true, H) := by
  cases r with
  | none => cases h
  | some p =>
    obtain ⟨v, H⟩ := p
    have h' : Option.rec (motive := fun _ => Bool) false (fun b => b) (onB (fun b => some b) v) = true := h
    cases hv : onB (fun b => some b) v with
    | none => rw [hv] at h'; cases h'
    | some b =>
      rw [hv] at h'
      have hb : b = true := h'
      obtain ⟨a, rfl, ha⟩ := onB_some hv
      cases ha; subst hb
      exact ⟨H, rfl⟩

/-- what was reckoned from nothing holds in every world, and turns nothing that was there -/
theorem calls_true (hmix : P.follows .mixedOrders = true) (hf : FOk P F ρ) (h1 : One ρ) (hF : FTOk P ifts F ρ FT) {n g : Nat} {args : List AV} (h : isTrue (evCall F FT n g args nothing) = true)
    {vs : Array Value} (hvs : VRs ρ none' args vs.toList) (w : World) (hz : Fz F ρ none' nothing w.heap) : Calls P g vs w fun e w' => e = .returned (.bool true) ∧ Below w.heap.size w w' := by
  obtain ⟨H, h2⟩ := isTrue_some h
  refine callsIn_wide.1 (CallsIn.mono (evCall_ok hmix hf h1 hF h2 none' w vs WR.nothing hz hvs) ?_)
  rintro e w' ⟨m', v', rfl, hv, st, we⟩
  simp only [VR] at hv
  subst hv
  exact ⟨rfl, we.os, we.tape, we.out, st.sz, fun k hk => st.fr k hk fun b o e hb => by cases hb⟩
end
end Go.Ev

namespace Go.Ev
open Go Go.RowKit

noncomputable def knOf (g : Nat) : List (Nat × List AV × AV) → List (List AV × AV)
  | [] => []
  | (g', a, v) :: l => iff (Nat.beq g' g) ((a, v) :: knOf g l) (knOf g l)

noncomputable def withKn (FT : Fns) (K : List (Nat × List AV × AV)) : Fns := fun g => bd (FT g) fun fn => some { fn with kn := knOf g K }

theorem knOf_mem {g : Nat} {a : List AV} {v : AV} : ∀ {l : List (Nat × List AV × AV)}, (a, v) ∈ knOf g l → (g, a, v) ∈ l
  | [], h => by cases h
  | (g', a', v') :: l, h => by
    unfold knOf at h
    cases hb : Nat.beq g' g with
    | true =>
      rw [hb] at h
      rw [Nat.eq_of_beq_eq_true hb]
      rcases List.mem_cons.1 h with h | h
      · cases h; simp
      · exact List.mem_cons_of_mem _ (knOf_mem h)
    | false => rw [hb] at h; exact List.mem_cons_of_mem _ (knOf_mem h)

mutual
/-- no pointer in it -/
def pf : AV → Bool
  | .p _ _ => false
  | .sl _ _ _ _ _ => false
  | .mp _ => false
  | .fn _ f c => pfs f && pfs c
  | .yl _ => false
  | .sx _ _ => false
  | .ifc _ v => pf v
  | .agg l => pfs l
  | .tup l => pfs l
  | _ => true
def pfs : List AV → Bool
  | [] => true
  | a :: l => pf a && pfs l
end

section
variable {P : Program} {ifts : List TypeId} {F : Facts} {ρ : Nat → Value} {FT : Fns} {m m' : Emb}

mutual
theorem VR.pf (ρ : Nat → Value) (m m' : Emb) : ∀ {a : AV} {v : Value}, pf a = true → VR ρ m a v → VR ρ m' a v
  | .b _, _, _, x => by simpa only [VR] using x
  | .i _ _, _, _, x => by simpa only [VR] using x
  | .s _, _, _, x => by simpa only [VR] using x
  | .np, _, _, x => by simpa only [VR] using x
  | .p _ _, _, h, _ => by simp [Ev.pf] at h
  | .nsl, _, _, x => by simpa only [VR] using x
  | .sl _ _ _ _ _, _, h, _ => by simp [Ev.pf] at h
  | .nm, _, _, x => by simpa only [VR] using x
  | .mp _, _, h, _ => by simp [Ev.pf] at h
  | .nf, _, _, x => by simpa only [VR] using x
  | .fn _ f c, _, h, x => by
    simp only [Ev.pf, Bool.and_eq_true] at h
    simp only [VR] at x ⊢
    obtain ⟨f', c', h1, h2, h3⟩ := x
    exact ⟨f', c', h1, VRs.pf ρ m m' h.1 h2, VRs.pf ρ m m' h.2 h3⟩
  | .yl _, _, h, _ => by simp [Ev.pf] at h
  | .sx _ _, _, h, _ => by simp [Ev.pf] at h
  | .ni, _, _, x => by simpa only [VR] using x
  | .ifc _ _, _, h, x => by
    simp only [Ev.pf] at h
    simp only [VR] at x ⊢
    obtain ⟨v', h1, h2⟩ := x
    exact ⟨v', h1, VR.pf ρ m m' h h2⟩
  | .agg _, _, h, x => by
    simp only [Ev.pf] at h
    simp only [VR] at x ⊢
    obtain ⟨vs, h1, h2, h3⟩ := x
    exact ⟨vs, h1, VRs.pf ρ m m' h h2, h3⟩
  | .tup _, _, h, x => by
    simp only [Ev.pf] at h
    simp only [VR] at x ⊢
    obtain ⟨vs, h1, h2⟩ := x
    exact ⟨vs, h1, VRs.pf ρ m m' h h2⟩
  | .x _, _, _, x => by simpa only [VR] using x
theorem VRs.pf (ρ : Nat → Value) (m m' : Emb) : ∀ {as : List AV} {vs : List Value}, pfs as = true → VRs ρ m as vs → VRs ρ m' as vs
  | [], _, _, x => by rw [x.nil_inv]; exact .nil
  | _ :: _, _, h, x => by
    simp only [Ev.pfs, Bool.and_eq_true] at h
    obtain ⟨v, vs, rfl, h1, h2⟩ := x.cons_inv
    exact VRs.cons (VR.pf ρ m m' h.1 h1) (VRs.pf ρ m m' h.2 h2)
end

/-- others' blocks come, and none turns -/
theorem St.later {H : AH} {hp hp' : Array Obj} (hw : WR P ifts ρ m H hp) (hs : hp.size ≤ hp'.size) (hb : ∀ B, B < hp.size → hp'[B]? = hp[B]?) : St P ifts ρ m H hp m H hp' :=
  ⟨Nat.le_refl _, fun _ _ => rfl, ⟨hw.nx, hw.lt, fun b o e h1 h2 => OR.congr (hb _ (hw.ob b o e h1 h2).lt) (hw.ob b o e h1 h2), hw.dj⟩, hs, fun B hB _ => hb B hB, fun b o e h1 h2 => .inr ⟨b, o, e, h1, h2, rfl⟩, fun _ _ _ => rfl⟩

theorem Fz.nothing {H : AH} {hp : Array Obj} (h : Fz F ρ m H hp) : Fz F ρ none' nothing hp := fun k v hk => by
  obtain ⟨B, o, C, el, fr, h1, h2, h3, _⟩ := h k v hk
  exact ⟨B, o, C, el, fr, h1, h2, h3, fun b ob e hb => by cases hb⟩

/-- a call that was reckoned from nothing, and leads nowhere, is known everywhere -/
theorem known_ok (hmix : P.follows .mixedOrders = true) (hf : FOk P F ρ) (h1 : One ρ) (hF : FTOk P ifts F ρ FT) {n g : Nat} {args : List AV} {v v2 : AV} {H' : AH} (h : evCall F FT n g args nothing = some (v, H')) (ha : pfs args = true)
    (hv : ∀ m m' u, VR ρ m v u → VR ρ m' v2 u) (H : AH) : CallG P ifts F ρ g args H v2 H := by
  intro m w vs hw hz hvs
  refine CallsIn.mono (evCall_ok hmix hf h1 hF h none' w vs WR.nothing hz.nothing (hvs.pf ρ m none' ha)) ?_
  rintro e w' ⟨m', v', rfl, h2, st, we⟩
  exact ⟨m, v', rfl, hv m' m v' h2, St.later hw st.sz fun B hB => st.fr B hB fun b o e hb => (by cases hb), we⟩

theorem FTOk.withKn (hF : FTOk P ifts F ρ FT) {K : List (Nat × List AV × AV)} (hK : ∀ g args v, (g, args, v) ∈ K → ∀ H, CallG P ifts F ρ g args H v H) : FTOk P ifts F ρ (withKn FT K) := by
  refine ⟨fun g fn h => ?_, fun g fn h args v hm => ?_⟩
  · obtain ⟨fn1, h1, h2⟩ := bd_some (show bd (FT g) _ = some fn from h)
    cases h2
    exact hF.code g fn1 h1
  · obtain ⟨fn1, h1, h2⟩ := bd_some (show bd (FT g) _ = some fn from h)
    cases h2
    exact hK g args v (knOf_mem hm)

/-- a closed call that comes to true -/
theorem known_true (hmix : P.follows .mixedOrders = true) (hf : FOk P F ρ) (h1 : One ρ) (hF : FTOk P ifts F ρ FT) {n g : Nat} (h : isTrue (evCall F FT n g [] nothing) = true) (H : AH) : CallG P ifts F ρ g [] H (.b true) H := by
  obtain ⟨H', h2⟩ := isTrue_some h
  exact known_ok hmix hf h1 hF h2 rfl (fun m m' u hu => by simpa only [VR] using hu) H
end
end Go.Ev

namespace Go.Ev
open Go Go.RowKit

mutual
/-- its blocks stand below n; its names are among S -/
def okV (S : Nat → Bool) (n : Nat) : AV → Bool
  | .p b _ => Nat.blt b n
  | .sl b _ _ _ _ => Nat.blt b n
  | .mp b => Nat.blt b n
  | .fn _ f c => okVs S n f && okVs S n c
  | .yl b => Nat.blt b n
  | .sx b k => Nat.blt b n && S k
  | .ifc _ v => okV S n v
  | .agg l => okVs S n l
  | .tup l => okVs S n l
  | .x k => S k
  | _ => true
def okVs (S : Nat → Bool) (n : Nat) : List AV → Bool
  | [] => true
  | a :: l => okV S n a && okVs S n l
end

def okE (S : Nat → Bool) (n : Nat) : List (AV × AV × Nat) → Bool
  | [] => true
  | (k, v, _) :: l => okV S n k && okV S n v && okE S n l

def okO (S : Nat → Bool) (n : Nat) : AO → Bool
  | .cells l _ _ => okVs S n l
  | .map es _ => okE S n es
  | .si _ _ => true
  | .mi m _ _ _ => (match m with
    | none => true
    | some b => Nat.blt b n)
  | .os k => S k
  | _ => false

noncomputable def veqE : List (AV × AV × Nat) → List (AV × AV × Nat) → Bool
  | [], [] => true
  | (k, v, n) :: l, (k', v', n') :: l' => veq k k' && veq v v' && Nat.beq n n' && veqE l l'
  | _, _ => false

/-- the same block, of those that are told -/
noncomputable def oeq : AO → AO → Bool
  | .cells l a b, .cells l' a' b' => veqs l l' && Nat.beq a a' && Nat.beq b b'
  | .map es c, .map es' c' => veqE es es' && Nat.beq c c'
  | .os k, .os k' => Nat.beq k k'
  | _, _ => false

section trees
variable {α : Type}
/-- all that is in the first is in the second -/
def Tr.leB (q : α → α → Bool) : Tr α → Tr α → Bool
  | .lf, _ => true
  | .nd l v r, .lf => (match v with
    | none => true
    | some _ => false) && leB q l .lf && leB q r .lf
  | .nd l v r, .nd l' v' r' => (match v, v' with
    | none, _ => true
    | some a, some b => q a b
    | some _, none => false) && leB q l l' && leB q r r'

def Tr.allB (p : α → Bool) : Tr α → Bool
  | .lf => true
  | .nd l v r => (match v with
    | none => true
    | some a => p a) && allB p l && allB p r

theorem Tr.leB_get {q : α → α → Bool} : ∀ {t t' : Tr α}, Tr.leB q t t' = true → ∀ n a, t.get n = some a → ∃ b, t'.get n = some b ∧ q a b = true := by
  intro t
  induction t with
  | lf => intro t' _ n a h; cases h
  | nd l v r ihl ihr =>
    intro t' h n a hn
    cases t' with
    | lf =>
      simp only [Tr.leB, Bool.and_eq_true] at h
      cases n with
      | zero =>
        rw [Tr.get_nd_zero] at hn
        subst hn
        simp at h
      | succ k =>
        rcases Nat.mod_two_eq_zero_or_one k with hk | hk
        · rw [Tr.get_nd_even _ _ _ _ hk] at hn
          obtain ⟨b, h1, _⟩ := ihl h.1.2 _ _ hn
          cases h1
        · rw [Tr.get_nd_odd _ _ _ _ hk] at hn
          obtain ⟨b, h1, _⟩ := ihr h.2 _ _ hn
          cases h1
    | nd l' v' r' =>
      simp only [Tr.leB, Bool.and_eq_true] at h
      cases n with
      | zero =>
        rw [Tr.get_nd_zero] at hn
        subst hn
        cases v' with
        | none => simp at h
        | some b => exact ⟨b, rfl, h.1.1⟩
      | succ k =>
        rcases Nat.mod_two_eq_zero_or_one k with hk | hk
        · rw [Tr.get_nd_even _ _ _ _ hk] at hn ⊢
          exact ihl h.1.2 _ _ hn
        · rw [Tr.get_nd_odd _ _ _ _ hk] at hn ⊢
          exact ihr h.2 _ _ hn

theorem Tr.allB_get {p : α → Bool} : ∀ {t : Tr α}, Tr.allB p t = true → ∀ n a, t.get n = some a → p a = true := by
  intro t
  induction t with
  | lf => intro _ n a h; cases h
  | nd l v r ihl ihr =>
    intro h n a hn
    simp only [Tr.allB, Bool.and_eq_true] at h
    cases n with
    | zero =>
      rw [Tr.get_nd_zero] at hn
      subst hn
      exact h.1.1
    | succ k =>
      rcases Nat.mod_two_eq_zero_or_one k with hk | hk
      · rw [Tr.get_nd_even _ _ _ _ hk] at hn
        exact ihl h.1.2 _ _ hn
      · rw [Tr.get_nd_odd _ _ _ _ hk] at hn
        exact ihr h.2 _ _ hn
end trees

theorem veqE_eq : ∀ {l l' : List (AV × AV × Nat)}, veqE l l' = true → l = l'
  | [], [], _ => rfl
  | [], _ :: _, h => by cases h
  | _ :: _, [], h => by cases h
  | (k, v, n) :: l, (k', v', n') :: l', h => by
    simp only [veqE, Bool.and_eq_true] at h
    rw [veq_eq h.1.1.1, veq_eq h.1.1.2, Nat.eq_of_beq_eq_true h.1.2, veqE_eq h.2]

theorem oeq_eq {o o' : AO} (h : oeq o o' = true) : o = o' := by
  cases o <;> cases o' <;> first
    | (cases h; done)
    | skip
  · simp only [oeq, Bool.and_eq_true] at h
    rw [veqs_eq h.1.1, Nat.eq_of_beq_eq_true h.1.2, Nat.eq_of_beq_eq_true h.2]
  · simp only [oeq, Bool.and_eq_true] at h
    rw [veqE_eq h.1, Nat.eq_of_beq_eq_true h.2]
  · rw [Nat.eq_of_beq_eq_true (show Nat.beq _ _ = true from h)]

section
variable {P : Program} {ifts : List TypeId} {F : Facts} {ρ ρ' : Nat → Value} {FT : Fns} {m : Emb} {S : Nat → Bool} {n : Nat}

/-- the embedding of what stands below n -/
def Emb.below (m : Emb) (n : Nat) : Emb := fun b => if b < n then m b else none

theorem Emb.below_lt {m : Emb} {n b : Nat} (h : b < n) : m.below n b = m b := by simp [Emb.below, h]

mutual
theorem VR.turn (hS : ∀ k, S k = true → ρ k = ρ' k) : ∀ {a : AV} {v : Value}, okV S n a = true → VR ρ m a v → VR ρ' (m.below n) a v
  | .b _, _, _, x => by simpa only [VR] using x
  | .i _ _, _, _, x => by simpa only [VR] using x
  | .s _, _, _, x => by simpa only [VR] using x
  | .np, _, _, x => by simpa only [VR] using x
  | .p _ _, _, h, x => by
    simp only [VR] at x ⊢
    obtain ⟨e, h1, h2⟩ := x
    exact ⟨e, by rw [Emb.below_lt (Nat.le_of_ble_eq_true h)]; exact h1, h2⟩
  | .nsl, _, _, x => by simpa only [VR] using x
  | .sl _ _ _ _ _, _, h, x => by
    simp only [VR] at x ⊢
    obtain ⟨e, o', c', h1, h2⟩ := x
    exact ⟨e, o', c', by rw [Emb.below_lt (Nat.le_of_ble_eq_true h)]; exact h1, h2⟩
  | .nm, _, _, x => by simpa only [VR] using x
  | .mp _, _, h, x => by
    simp only [VR] at x ⊢
    obtain ⟨e, h1, h2⟩ := x
    exact ⟨e, by rw [Emb.below_lt (Nat.le_of_ble_eq_true h)]; exact h1, h2⟩
  | .nf, _, _, x => by simpa only [VR] using x
  | .fn _ f c, _, h, x => by
    simp only [okV, Bool.and_eq_true] at h
    simp only [VR] at x ⊢
    obtain ⟨f', c', h1, h2, h3⟩ := x
    exact ⟨f', c', h1, VRs.turn hS h.1 h2, VRs.turn hS h.2 h3⟩
  | .yl _, _, h, x => by
    simp only [VR] at x ⊢
    obtain ⟨e, h1, h2⟩ := x
    exact ⟨e, by rw [Emb.below_lt (Nat.le_of_ble_eq_true h)]; exact h1, h2⟩
  | .ni, _, _, x => by simpa only [VR] using x
  | .sx _ k, _, h, x => by
    simp only [okV, Bool.and_eq_true] at h
    simp only [VR] at x ⊢
    obtain ⟨e, n', c', h1, h2, h3⟩ := x
    exact ⟨e, n', c', by rw [Emb.below_lt (Nat.le_of_ble_eq_true h.1)]; exact h1, by rw [← hS k h.2]; exact h2, h3⟩
  | .ifc _ _, _, h, x => by
    simp only [okV] at h
    simp only [VR] at x ⊢
    obtain ⟨v', h1, h2⟩ := x
    exact ⟨v', h1, VR.turn hS h h2⟩
  | .agg _, _, h, x => by
    simp only [okV] at h
    simp only [VR] at x ⊢
    obtain ⟨vs, h1, h2, h3⟩ := x
    exact ⟨vs, h1, VRs.turn hS h h2, h3⟩
  | .tup _, _, h, x => by
    simp only [okV] at h
    simp only [VR] at x ⊢
    obtain ⟨vs, h1, h2⟩ := x
    exact ⟨vs, h1, VRs.turn hS h h2⟩
  | .x k, _, h, x => by
    simp only [okV] at h
    simp only [VR] at x ⊢
    rw [x, hS k h]
theorem VRs.turn (hS : ∀ k, S k = true → ρ k = ρ' k) : ∀ {as : List AV} {vs : List Value}, okVs S n as = true → VRs ρ m as vs → VRs ρ' (m.below n) as vs
  | [], _, _, x => by rw [x.nil_inv]; exact .nil
  | _ :: _, _, h, x => by
    simp only [okVs, Bool.and_eq_true] at h
    obtain ⟨v, vs, rfl, h1, h2⟩ := x.cons_inv
    exact VRs.cons (VR.turn hS h.1 h1) (VRs.turn hS h.2 h2)
end

theorem okVs_get : ∀ {l : List AV} (_ : okVs S n l = true) {i : Nat} {a : AV}, l[i]? = some a → okV S n a = true
  | [], _, i, a, h => by simp at h
  | b :: l, hl, i, a, h => by
    simp only [okVs, Bool.and_eq_true] at hl
    cases i with
    | zero => simp at h; subst h; exact hl.1
    | succ i => simp at h; exact okVs_get hl.2 h

theorem ER.turn (hS : ∀ k, S k = true → ρ k = ρ' k) : ∀ {es : List (AV × AV × Nat)} {l : List MapEntry}, okE S n es = true → ER ρ m es l → ER ρ' (m.below n) es l
  | [], _, _, x => x
  | (_, _, _) :: _, _, h, x => by
    simp only [okE, Bool.and_eq_true] at h
    obtain ⟨e, l', h1, h2, h3, h4, h5⟩ := x
    exact ⟨e, l', h1, VR.turn hS h.1.1 h2, VR.turn hS h.1.2 h3, h4, ER.turn hS h.2 h5⟩

theorem OR.turn (hS : ∀ k, S k = true → ρ k = ρ' k) {o : AO} {e : MB} {hp : Array Obj} (h : okO S n o = true) (x : OR P ifts ρ m o e hp) : OR P ifts ρ' (m.below n) o e hp := by
  cases o with
  | cells l esz fl =>
    obtain ⟨C, el, fr, h1, h2, h3, h4⟩ := x
    exact ⟨C, el, fr, h1, h2, fun i a hi => by obtain ⟨s, v, h5, h6⟩ := h3 i a hi; exact ⟨s, v, h5, VR.turn hS (okVs_get h hi) h6⟩, h4⟩
  | map es clock => obtain ⟨h0, es', h1, h2⟩ := x; exact ⟨h0, es', h1, ER.turn hS h h2⟩
  | si l pos => exact x
  | mi mp since seen last =>
    cases mp with
    | none => exact x
    | some b => obtain ⟨h0, e', h1, h2⟩ := x; exact ⟨h0, e', by rw [Emb.below_lt (Nat.le_of_ble_eq_true h)]; exact h1, h2⟩
  | loop st T ps a b => cases h
  | dfr => cases h
  | os k => obtain ⟨C, el, n', h1, h2, h3⟩ := x; exact ⟨C, el, n', h1, by rw [← hS k h]; exact h2, h3⟩

/-- the frame and the world stand as was reckoned; all that is owned came since w0; below w0's blocks nothing has turned -/
structure At (P : Program) (ifts : List TypeId) (ρ : Nat → Value) (w0 : World) (nt : Nat) (T : Tr AV) (H : AH) (a : Act) (w : World) : Prop where
  ex : ∃ m, TR ρ m T a.tmps ∧ WR P ifts ρ m H w.heap ∧ (∀ b o e, H.get b = some o → m b = some e → w0.heap.size ≤ e.b) ∧ Marks m H w.heap w0.heap.size a.defers
  bel : Below w0.heap.size w0 w
  sz : a.tmps.size = nt

/-- what was there from the start -/
def Fz0 (F : Facts) (ρ : Nat → Value) (w0 : World) : Prop :=
  ∀ k v, (k, v) ∈ F.ld → ∃ B o C el fr, ρ k = .pointer (some ⟨B, o, none⟩) ∧ w0.heap[B]? = some (.cells C el fr) ∧ LdAt ρ C o v

variable {w0 : World} {nt : Nat} {T T' : Tr AV} {H H' : AH} {a : Act} {w : World}

/-- a piece of code, reckoned -/
theorem At.run (hmix : P.follows .mixedOrders = true) (hf : FOk P F ρ) (h1 : One ρ) (hF : FTOk P ifts F ρ FT) (hz : Fz0 F ρ w0) {fuel : Nat} {ac : ACode} {ax : AX} (h : Ev.run F FT fuel false ac T H = some (ax, T', H')) {N : Nat} {c : Code} (hc : ccode P ifts N c = some ac) (hN : N ≤ nt)
    (hA : At P ifts ρ w0 nt T H a w) {Q : Exit → Act → World → Prop} (hQ : ∀ a' w', At P ifts ρ w0 nt T' H' a' w' → Q (exitOf ax) a' w') : c.wpIn (FF none) 0 P Q a w := by
  obtain ⟨⟨m, hT, hW, ho, hM⟩, hb, hs⟩ := hA
  have hzz : Fz F ρ m H w.heap := fun k v hk => by
    obtain ⟨B, o, C, el, fr, g1, g2, g3⟩ := hz k v hk
    have hlt : B < w0.heap.size := (Array.getElem?_eq_some_iff.1 g2).1
    exact ⟨B, o, C, el, fr, g1, (hb.block B hlt).trans g2, g3, fun b ob e h1 h2 he => by have := ho b ob e h1 h2; omega⟩
  refine run_ok hmix hf h1 hF fuel false ac T H ax T' H' h N c hc m a w w0.heap.size none hT (by rw [hs]; exact hN) hW hzz hM hb.size (fun _ => rfl) Q fun a' w' m' o => hQ a' w' ⟨⟨m', o.t, o.st.wr, fun b ob e g1 g2 => ?_, o.mks⟩, ?_, o.sz.trans hs⟩
  · rcases o.st.ow b ob e g1 g2 with g3 | ⟨b0, o0, e0, g3, g4, g5⟩
    · exact Nat.le_trans hb.size g3
    · rw [← g5]; exact ho b0 o0 e0 g3 g4
  · refine hb.trans ⟨o.we.os, o.we.tape, o.we.out, o.st.sz, fun k hk => o.st.fr k (Nat.lt_of_lt_of_le hk hb.size) fun b ob e g1 g2 he => ?_⟩
    have := ho b ob e g1 g2
    omega

/-- the check behind 'At.weaken' -/
noncomputable def fits (S : Nat → Bool) (T2 : Tr AV) (H2 : AH) (T' : Tr AV) (H' : AH) : Bool :=
  Tr.leB veq T2 T' && Tr.leB oeq H2.t H'.t && Tr.allB (okV S H2.n) T2 && Tr.allB (okO S H2.n) H2.t

/-- forget the rest -/
theorem At.weaken {S : Nat → Bool} (hS : ∀ k, S k = true → ρ k = ρ' k) {T2 : Tr AV} {H2 : AH} (hlt : ∀ b o, H2.get b = some o → b < H2.n) (h : fits S T2 H2 T' H' = true) (hA : At P ifts ρ w0 nt T' H' a w) : At P ifts ρ' w0 nt T2 H2 a w := by
  simp only [fits, Bool.and_eq_true] at h
  obtain ⟨⟨⟨h1, h2⟩, h3⟩, h4⟩ := h
  obtain ⟨⟨m, hT, hW, ho, hM⟩, hb, hs⟩ := hA
  have live : ∀ b o, H2.get b = some o → H'.get b = some o := fun b o hb => by
    obtain ⟨o', g1, g2⟩ := Tr.leB_get h2 b o hb
    rw [oeq_eq g2]; exact g1
  refine ⟨⟨m.below H2.n, fun t x hx => ?_, ⟨fun b hb => by simp [Emb.below, Nat.not_lt.2 hb], hlt, fun b o e g1 g2 => ?_, fun b b' o o' e e' g1 g2 g3 g4 he => ?_⟩, fun b o e g1 g2 => ?_, ?_⟩, hb, hs⟩
  · obtain ⟨x', g1, g2⟩ := Tr.leB_get h1 t x hx
    rw [← veq_eq g2] at g1
    obtain ⟨v, g3, g4⟩ := hT t x g1
    exact ⟨v, g3, VR.turn hS (Tr.allB_get h3 t x hx) g4⟩
  · rw [Emb.below_lt (hlt b o g1)] at g2
    exact OR.turn hS (Tr.allB_get h4 b o g1) (hW.ob b o e (live b o g1) g2)
  · rw [Emb.below_lt (hlt b o g1)] at g3
    rw [Emb.below_lt (hlt b' o' g2)] at g4
    exact hW.dj b b' o o' e e' (live b o g1) (live b' o' g2) g3 g4 he
  · rw [Emb.below_lt (hlt b o g1)] at g2
    exact ho b o e (live b o g1) g2
  · obtain ⟨rs, k1, k2, k3⟩ := hM
    refine ⟨rs, k1, k2, fun r hr => ?_⟩
    obtain ⟨q1, q2, q3⟩ := k3 r hr
    refine ⟨q1, q2, fun b o e g1 g2 => ?_⟩
    rw [Emb.below_lt (hlt b o g1)] at g2
    exact q3 b o e (live b o g1) g2

theorem At.lt (hA : At P ifts ρ w0 nt T H a w) : ∀ b o, H.get b = some o → b < H.n := by
  obtain ⟨⟨m, _, hW, _⟩, _⟩ := hA
  exact hW.lt

/-- a temporary that holds what a name means -/
theorem At.name (hA : At P ifts ρ w0 nt T H a w) {t k : Nat} (h : a.tmps[t]? = some (ρ k)) : At P ifts ρ w0 nt (T.set (.x k) t) H a w := by
  obtain ⟨⟨m, hT, hW, ho, hM⟩, hb, hs⟩ := hA
  refine ⟨⟨m, fun t' x hx => ?_, hW, ho, hM⟩, hb, hs⟩
  rw [Tr.get_set] at hx
  split at hx
  · rename_i he; subst he; cases hx; exact ⟨_, h, by simp only [VR]⟩
  · exact hT t' x hx

/-- what a temporary holds -/
theorem At.tmp (hA : At P ifts ρ w0 nt T H a w) {t : Nat} {x : AV} (h : T.get t = some x) : ∃ m v, a.tmps[t]? = some v ∧ VR ρ m x v := by
  obtain ⟨⟨m, hT, _⟩, _⟩ := hA
  obtain ⟨v, h1, h2⟩ := hT t x h
  exact ⟨m, v, h1, h2⟩

/-! code, taken apart along with its own -/
theorem ccode_seq {N : Nat} {c : Code} {x y : ACode} (h : ccode P ifts N c = some (.seq x y)) : ∃ c1 c2, c = .seq c1 c2 ∧ ccode P ifts N c1 = some x ∧ ccode P ifts N c2 = some y := by
  cases c with
  | seq c1 c2 =>
    obtain ⟨x', h1, h2⟩ := bd_some (show bd (ccode P ifts N c1) _ = some (ACode.seq x y) from h)
    obtain ⟨y', h3, h4⟩ := bd_some h2
    cases h4
    exact ⟨c1, c2, rfl, h1, h3⟩
  | region id os d => cases d <;> (obtain ⟨_, _, h2⟩ := bd_some h; cases h2)
  | cond c a b => obtain ⟨_, _, h2⟩ := bd_some h; obtain ⟨_, _, h3⟩ := bd_some h2; obtain ⟨_, _, h4⟩ := bd_some h3; cases h4
  | block id a => obtain ⟨_, _, h2⟩ := bd_some h; cases h2
  | loop a => obtain ⟨_, _, h2⟩ := bd_some h; cases h2
  | rangeFunc f ps a b =>
    obtain ⟨_, _, h2⟩ := bd_some h; obtain ⟨_, _, h3⟩ := bd_some h2; obtain ⟨_, _, h4⟩ := bd_some h3
    split at h4 <;> cases h4
  | _ => cases h

theorem ccode_blk {N id : Nat} {c : Code} {x : ACode} (h : ccode P ifts N c = some (.blk id x)) : ∃ c1, c = .block id c1 ∧ ccode P ifts N c1 = some x := by
  cases c with
  | block id' c1 => obtain ⟨_, h1, h2⟩ := bd_some (show bd (ccode P ifts N c1) _ = some (ACode.blk id x) from h); cases h2; exact ⟨c1, rfl, h1⟩
  | seq c1 c2 => obtain ⟨_, _, h2⟩ := bd_some h; obtain ⟨_, _, h3⟩ := bd_some h2; cases h3
  | region id os d => cases d <;> (obtain ⟨_, _, h2⟩ := bd_some h; cases h2)
  | cond c a b => obtain ⟨_, _, h2⟩ := bd_some h; obtain ⟨_, _, h3⟩ := bd_some h2; obtain ⟨_, _, h4⟩ := bd_some h3; cases h4
  | loop a => obtain ⟨_, _, h2⟩ := bd_some h; cases h2
  | rangeFunc f ps a b =>
    obtain ⟨_, _, h2⟩ := bd_some h; obtain ⟨_, _, h3⟩ := bd_some h2; obtain ⟨_, _, h4⟩ := bd_some h3
    split at h4 <;> cases h4
  | _ => cases h

theorem ccode_loop {N : Nat} {c : Code} {x : ACode} (h : ccode P ifts N c = some (.loop x)) : ∃ c1, c = .loop c1 ∧ ccode P ifts N c1 = some x := by
  cases c with
  | loop c1 => obtain ⟨_, h1, h2⟩ := bd_some (show bd (ccode P ifts N c1) _ = some (ACode.loop x) from h); cases h2; exact ⟨c1, rfl, h1⟩
  | block id c1 => obtain ⟨_, _, h2⟩ := bd_some h; cases h2
  | seq c1 c2 => obtain ⟨_, _, h2⟩ := bd_some h; obtain ⟨_, _, h3⟩ := bd_some h2; cases h3
  | region id os d => cases d <;> (obtain ⟨_, _, h2⟩ := bd_some h; cases h2)
  | cond c a b => obtain ⟨_, _, h2⟩ := bd_some h; obtain ⟨_, _, h3⟩ := bd_some h2; obtain ⟨_, _, h4⟩ := bd_some h3; cases h4
  | rangeFunc f ps a b =>
    obtain ⟨_, _, h2⟩ := bd_some h; obtain ⟨_, _, h3⟩ := bd_some h2; obtain ⟨_, _, h4⟩ := bd_some h3
    split at h4 <;> cases h4
  | _ => cases h

theorem ccode_cond {N : Nat} {c : Code} {x : AOpd} {y z : ACode} (h : ccode P ifts N c = some (.cond x y z)) : ∃ d c1 c2, c = .cond d c1 c2 ∧ copd d = some x ∧ ccode P ifts N c1 = some y ∧ ccode P ifts N c2 = some z := by
  cases c with
  | cond d c1 c2 =>
    obtain ⟨_, h1, h2⟩ := bd_some (show bd (copd d) _ = some (ACode.cond x y z) from h)
    obtain ⟨_, h3, h4⟩ := bd_some h2
    obtain ⟨_, h5, h6⟩ := bd_some h4
    cases h6
    exact ⟨d, c1, c2, rfl, h1, h3, h5⟩
  | block id c1 => obtain ⟨_, _, h2⟩ := bd_some h; cases h2
  | seq c1 c2 => obtain ⟨_, _, h2⟩ := bd_some h; obtain ⟨_, _, h3⟩ := bd_some h2; cases h3
  | region id os d => cases d <;> (obtain ⟨_, _, h2⟩ := bd_some h; cases h2)
  | loop a => obtain ⟨_, _, h2⟩ := bd_some h; cases h2
  | rangeFunc f ps a b =>
    obtain ⟨_, _, h2⟩ := bd_some h; obtain ⟨_, _, h3⟩ := bd_some h2; obtain ⟨_, _, h4⟩ := bd_some h3
    split at h4 <;> cases h4
  | _ => cases h

/-- a call's beginning, and its end -/
theorem calls_at {g : Nat} {fn : AFn} (hg : cfun P ifts g = some fn) {args : List AV} {vs : Array Value} (hvs : VRs ρ none' args vs.toList) {R : Ending → World → Prop}
    (h : ∀ N c a, ccode P ifts N c = some fn.body → N ≤ a.tmps.size → At P ifts ρ w a.tmps.size (Tr.ofL args 0 .lf) nothing a w →
      c.wpIn (FF none) 0 P (fun e a' w' => (e = .normal ∨ e = .ret) ∧ ∃ ρ' T' H', At P ifts ρ' w a.tmps.size T' H' a' w' ∧ ∃ v, res T' H' fn.res = some v ∧ ∀ m u, VR ρ' m v u → ∀ w'', Below w.heap.size w w'' → R (.returned u) w'') a w) : Calls P g vs w R := by
  obtain ⟨f, c, b, r, g1, g2, g3, g4, g5, rfl⟩ := cfun_some hg
  refine (callsIn_wide (n := 0)).1 (callsIn_of_wp_marks g1 g2 trivial (hro := rfl) ?_)
  have hTR : TR ρ none' (Tr.ofL args 0 .lf) (vs ++ Array.replicate (f.ntmps - vs.size) undef) := by
    intro t x hx
    rw [Tr.get_ofL] at hx
    split at hx
    · rename_i hlt
      simp at hlt hx
      obtain ⟨v', k1, k2⟩ := hvs.get hx
      refine ⟨v', ?_, k2⟩
      have hl := hvs.length
      simp at hl
      rw [Array.getElem?_append_left (by omega)]
      simpa using k1
    · simp at hx
  refine wpIn_mono (h f.ntmps c { tmps := vs ++ Array.replicate (f.ntmps - vs.size) undef, defers := [] } g4 (by simp; omega) ⟨⟨none', hTR, WR.nothing, fun b o e hb => (by cases hb), Marks.nil⟩, Below.refl _ _, rfl⟩) ?_
  rintro e a' w' ⟨he, ρ', T', H', ⟨⟨m, hT, hW, ho, hM⟩, hb, hs⟩, v, hv, hR⟩
  have hl : LeavesInM Fence.wide 0 P f a'.tmps R a'.defers .returning w' := by
    refine leaves (m0 := none') (H0 := nothing) (w0 := w) (ρ := ρ') (P := P) (ifts := ifts) hM ⟨Nat.zero_le _, fun b hb => (by cases hb), hW, hb.size, fun B hB _ => hb.block B hB, fun b o e g1 g2 => .inl (ho b o e g1 g2), fun b hb => (by cases hb)⟩ ⟨hb.os, hb.tape, hb.output⟩ fun w2 st we => ?_
    obtain ⟨v', k1, k2⟩ := res_ok st.wr hT g5 hv
    exact ⟨v', k2, hR m v' k1 w2 ⟨we.os, we.tape, we.out, st.sz, fun k hk => st.fr k hk fun b o e hb => by cases hb⟩⟩
  rcases he with rfl | rfl <;> exact hl
end
end Go.Ev

