/-
  The law XpassStrange, taken apart: what the kernel reckons of its pieces. Conditions: none.
-/
import Derived.Test.YtnkfegnbddmebaaGreatXsK
namespace Go.Ev.Q
open Go Go.Ev

noncomputable def s1 (c : ACode) : ACode := ACode.rec (motive := fun _ => ACode) .skip (fun _ => .skip) (fun _ => .skip) (fun a _ _ _ => a) (fun _ _ _ _ _ => .skip) (fun _ _ _ => .skip) (fun _ _ => .skip) (fun _ => .skip) .skip (fun _ _ _ _ _ _ => .skip) c
noncomputable def s2 (c : ACode) : ACode := ACode.rec (motive := fun _ => ACode) .skip (fun _ => .skip) (fun _ => .skip) (fun _ b _ _ => b) (fun _ _ _ _ _ => .skip) (fun _ _ _ => .skip) (fun _ _ => .skip) (fun _ => .skip) .skip (fun _ _ _ _ _ _ => .skip) c
noncomputable def bk (c : ACode) : ACode := ACode.rec (motive := fun _ => ACode) .skip (fun _ => .skip) (fun _ => .skip) (fun _ _ _ _ => .skip) (fun _ _ _ _ _ => .skip) (fun _ a _ => a) (fun a _ => a) (fun _ => .skip) .skip (fun _ _ _ _ _ _ => .skip) c

noncomputable def a0 : ACode := s1 f4.body
noncomputable def a1 : ACode := s1 (s2 f4.body)
noncomputable def a2 : ACode := s1 (s2 (s2 f4.body))
noncomputable def a3 : ACode := s1 (s2 (s2 (s2 f4.body)))
noncomputable def a4 : ACode := s1 (s2 (s2 (s2 (s2 f4.body))))
noncomputable def aX : ACode := s1 (s2 (s2 (s2 (s2 (s2 f4.body)))))
noncomputable def a5 : ACode := s1 aX
noncomputable def aL : ACode := bk (bk (s2 aX))
noncomputable def aB : ACode := s2 (s2 (s2 (s2 (s2 (s2 f4.body)))))

theorem f4_shape : f4.body = .seq a0 (.seq a1 (.seq a2 (.seq a3 (.seq a4 (.seq (.seq a5 (.blk 0 (.loop aL))) aB))))) := by kernel_rfl

noncomputable def oT (r : Option (AX × Tr AV × AH)) : Tr AV := Option.rec (motive := fun _ => Tr AV) .lf (fun p => p.2.1) r
noncomputable def oH (r : Option (AX × Tr AV × AH)) : AH := Option.rec (motive := fun _ => AH) nothing (fun p => p.2.2) r
noncomputable def isN (r : Option (AX × Tr AV × AH)) : Bool := Option.rec (motive := fun _ => Bool) false (fun p => isNrm p.1) r

theorem isN_some {r : Option (AX × Tr AV × AH)} (h : isN r = true) : r = some (.nrm, oT r, oH r) := by
  cases r with
  | none => cases h
  | some p =>
    obtain ⟨x, T, H⟩ := p
    have : x = .nrm := isNrm_eq h
    subst this; rfl

/-- how many; at most forty, or more -/
noncomputable def lenFacts (b : Bool) : Facts := { len := [(0, .x 1)], bin := [(.gtr, .x 1, .i .i64 40, .b b)] }
noncomputable def fa : Fns := withKn ft.get [(6, [], .b true)]

noncomputable def T0 : Tr AV := Tr.ofL [.x 0] 0 .lf
noncomputable def r0 := run (lenFacts false) fa 100000 false a0 T0 nothing
noncomputable def r1 := run (lenFacts false) fa 100000 false a1 (oT r0) (oH r0)
noncomputable def r2 := run (lenFacts false) fa 100000 false a2 (oT r1) (oH r1)
noncomputable def r3 := run (lenFacts false) fa 100000 false a3 (oT r2) (oH r2)
noncomputable def r4 := run (lenFacts false) fa 100000 false a4 (oT r3) (oH r3)
noncomputable def r5 := run (lenFacts false) fa 100000 false a5 (oT r4) (oH r4)
theorem n0 : isN r0 = true := by kernel_rfl
theorem n1 : isN r1 = true := by kernel_rfl
theorem n2 : isN r2 = true := by kernel_rfl
theorem n3 : isN r3 = true := by kernel_rfl
theorem n4 : isN r4 = true := by kernel_rfl
theorem n5 : isN r5 = true := by kernel_rfl

/-- it has returned true -/
noncomputable def retT (rs : List ARes) (r : Option (AX × Tr AV × AH)) : Bool :=
  Option.rec (motive := fun _ => Bool) false (fun p => AX.rec (motive := fun _ => Bool) false (fun _ => false) (Option.rec (motive := fun _ => Bool) false (fun v => veq v (.b true)) (res p.2.1 p.2.2 rs)) p.1) r

theorem retT_some {rs : List ARes} {r : Option (AX × Tr AV × AH)} (h : retT rs r = true) : ∃ T H, r = some (.ret, T, H) ∧ res T H rs = some (.b true) := by
  cases r with
  | none => cases h
  | some p =>
    obtain ⟨x, T, H⟩ := p
    cases x with
    | nrm => cases h
    | ext id => cases h
    | ret =>
      have h' : Option.rec (motive := fun _ => Bool) false (fun v => veq v (.b true)) (res T H rs) = true := h
      cases hv : res T H rs with
      | none => rw [hv] at h'; cases h'
      | some v =>
        rw [hv] at h'
        exact ⟨T, H, rfl, by rw [hv, veq_eq h']⟩

theorem many : retT f4.res (run (lenFacts true) fa 100000 false a1 (oT (run (lenFacts true) fa 100000 false a0 T0 nothing)) (oH (run (lenFacts true) fa 100000 false a0 T0 nothing))) = true := by kernel_rfl
theorem many0 : isN (run (lenFacts true) fa 100000 false a0 T0 nothing) = true := by kernel_rfl

/-- what stays round the loop -/
noncomputable def TI : Tr AV := Tr.set (.x 0) (Tr.set (.b false) (Tr.set (.p 2 0) (Tr.set (.p 4 0) .lf 4) 3) 2) 0
noncomputable def HI : AH := oH r5
def S0 (k : Nat) : Bool := Nat.ble k 1
def S2 (k : Nat) : Bool := Bool.or (Nat.ble k 1) (Nat.beq k 22)
theorem fit0 : fits S0 TI HI (oT r5) (oH r5) = true := by kernel_rfl
theorem fit1 : fits S0 TI HI TI HI = true := by kernel_rfl
theorem fit2 : fits S0 TI HI (Tr.set (.x 22) TI 6) HI = true := by kernel_rfl
theorem start6 : (oT r5).get 6 = some (.i .i64 0) := by kernel_rfl

/-- a round of the loop -/
noncomputable def TL : Tr AV := Tr.set (.x 2) TI 6
noncomputable def loopFacts (more g d s q u : Bool) : Facts := {
  len := [(0, .x 1), (19, .x 20)],
  ia := [(10, .x 0, .x 2, .x 3)],
  fa := [(3, 9, 4), (3, 2, 5), (3, 1, 6)],
  ld := [(3, aFrame), (4, .x 19), (5, .x 12), (6, .x 11)],
  bin := [(.lss, .x 2, .x 1, .b more), (.add, .x 2, .i .i64 1, .x 22), (.gtr, .x 20, .i .i64 2000, .b g), (.eql, .x 12, .i .i64 1, .b d), (.neq, .x 12, .i .i64 1, .b (!d)),
    (.eql, .x 11, .i .i64 0, .b s), (.eql, .x 11, .i .i64 1, .b q), (.geq, .x 11, .i .i64 2, .b u)] }
noncomputable def fk (c : Int) : Fns := withKn ft.get [(6, [], .b true), (17, [aFrame], .i .i64 c), (57, [aFrame], .i .i64 c)]
noncomputable def lp (c : Int) (more g d s q u : Bool) := run (loopFacts more g d s q u) (fk c) 100000 false aL TL HI

/-- on, with all as it stood -/
noncomputable def goesOn (r : Option (AX × Tr AV × AH)) : Bool := and (isN r) (fits S2 (Tr.set (.x 22) TI 6) HI (oT r) (oH r))

theorem lp_long (c : Int) (d s q u : Bool) : retT f4.res (lp c true true d s q u) = true := by kernel_rfl
theorem lp_bad (d s q u : Bool) : goesOn (lp 1 true false d s q u) = true := by kernel_rfl
theorem lp_own (q u : Bool) : goesOn (lp 0 true false true true q u) = true := by kernel_rfl
theorem lp_other (s q u : Bool) : goesOn (lp 0 true false false s q u) = true := by
  cases s <;> kernel_rfl
theorem lp_self (u : Bool) : goesOn (lp 0 true false true false true u) = true := by kernel_rfl
theorem lp_far : goesOn (lp 0 true false true false false true) = true := by kernel_rfl
/-- the end -/
noncomputable def isE (r : Option (AX × Tr AV × AH)) : Bool := Option.rec (motive := fun _ => Bool) false (fun p => and (AX.rec (motive := fun _ => Bool) false (fun id => Nat.beq id 0) false p.1) (fits S0 TI HI p.2.1 p.2.2)) r
noncomputable def endFacts : Facts := { len := [(0, .x 1)], bin := [(.lss, .x 2, .x 1, .b false)] }
theorem lp_end : isE (run endFacts fa 100000 false aL TL HI) = true := by kernel_rfl

/-- behind the loop -/
theorem rest : retT f4.res (run {} fa 100000 false aB TI HI) = true := by kernel_rfl
theorem awake6 : isTrue (evCall {} ft.get 100000 6 [] nothing) = true := by kernel_rfl
end Go.Ev.Q
