/-
  Called with whatever list of frames, the law XpassStrange returns true, and leaves its argument as it was. Conditions: none.
-/
import Derived.Test.YtnkfegnbddmebaaGreatXsX
import Derived.Test.YtnkfegnbddmebaaGreatXsFacts
import Derived.Test.YtnkfegnbddmebaaGreatRows
import Derived.WalkKit
import Derived.ProofKit
import Derived.OpenShut
import Derived.ChangeOld
import Derived.Below
import Derived.Deep.Slices
import Derived.Deep.Fields
import Derived.ChangeSame
namespace Go.Proofs.YtnkfegnbddmebaaGreat.xpassStrange
open Go.ChangeShapes Go.WideShapes Go.ChangeAt Go.RowKit Go.Deep
set_option linter.unusedVariables false

theorem own : ownKnob Tryz.prog.godebug = none := by kernel_rfl
theorem laidOut : laidOutB Tryz.prog = true := by kernel_rfl

section
variable {H : Type} {enc : TypeId × Value → H} {P : Program} {w : World} {base : Nat} {spare : Nat → Bool} {held : Bool}
theorem open_slice_fields {t e : TypeId} {fs : Array Field} {fuel : Nat} {cs : List Value} {x : DataW H × List MemPlace} (ht : P.underlying t = some (.slice e)) (he : P.underlying e = some (.struct fs))
    (hone : oneCellFields P fs = true) (hC : P.cellsOf e = fs.size) (h : DataW.trod enc P w base spare held fuel t cs = some x) :
    (cs = [.slice none 0 0] ∧ x = (.nil, [])) ∨
    ∃ (a : Addr) (len cap m : Nat) (D : Nat → DataW H) (Pl : Nat → List MemPlace), cs = [.slice (some a) len cap] ∧ base ≤ a.block ∧ len ≤ cap ∧ cap ≤ maxLen ∧ m = (if spare a.block then cap else len) ∧
      x = (.slice ((List.range len).map D) ((List.range (m - len)).map fun j => D (len + j)), MemPlace.row a (m * fs.size) ++ (List.range m).flatMap Pl) ∧
      ∀ i, i < m → ∃ (ys : List (DataW H × List MemPlace)) (n : Nat), D i = .agg (ys.map (·.1)) ∧ Pl i = ys.flatMap (·.2) ∧ ys.length = fs.size ∧
        ∀ (j : Nat) (f : Field), fs[j]? = some f → ∃ (v : Value) (y : DataW H × List MemPlace), w.cell? (a.add (i * fs.size + j)) = some v ∧ ys[j]? = some y ∧ DataW.trod enc P w base spare held n f.type [v] = some y := by
  rcases open_slice ht h with h0 | ⟨a, len, cap, m, n, D, Pl, hcs, hb, hl, hm, hmm, hx, hi⟩
  · exact .inl h0
  · refine .inr ⟨a, len, cap, m, D, Pl, hcs, hb, hl, hm, hmm, by rw [hC] at hx; exact hx, fun i him => ?_⟩
    obtain ⟨cs', hc, ht'⟩ := hi i him
    rw [hC] at hc
    obtain ⟨ys, n', hn', hy, hlen, hyl, hf⟩ := DataW.trod_struct he ht'
    obtain ⟨_, hcl, hat⟩ := World.cells?_some hc
    simp only [Prod.mk.injEq] at hy
    refine ⟨ys, n', hy.1, hy.2, hyl, fun j f hj => ?_⟩
    obtain ⟨ho, hk⟩ := hone_of hone j f hj
    have hjl : j < fs.size := (Array.getElem?_eq_some_iff.1 hj).1
    have hcell := hat j hjl
    have hv : cs'[j]? = some (cs'[j]'(by omega)) := List.getElem?_eq_getElem (by omega)
    have h1 := hf j f hj
    rw [ho, hk] at h1
    have hone' : (cs'.drop j).take 1 = [cs'[j]'(by omega)] := by
      rw [List.drop_eq_getElem_cons (by omega)]
      rfl
    rw [hone'] at h1
    have hys : ys[j]? = some (ys[j]'(by omega)) := List.getElem?_eq_getElem (by omega)
    refine ⟨_, _, ?_, hys, h1.trans hys⟩
    rw [← Go.Deep.add_add, hcell, hv]
end

section
variable {H : Type} {enc : TypeId × Value → H} {w : World} {base : Nat} {spare : Nat → Bool} {held : Bool}
/-- a number that is read -/
theorem num_of {t : TypeId} {k : IntKind} {fuel : Nat} {v : Value} {y : DataW H × List MemPlace} (ht : Tryz.prog.underlying t = some (.int k)) (h : DataW.trod enc Tryz.prog w base spare held fuel t [v] = some y) : ∃ n, v = .int k n := by
  obtain ⟨n, h1, _⟩ := DataW.trod_int ht h
  exact ⟨n, by simpa using h1⟩
/-- bytes that are read -/
theorem bytes_of {fuel : Nat} {v : Value} {y : DataW H × List MemPlace} (h : DataW.trod enc Tryz.prog w base spare held fuel 36 [v] = some y) : ∃ a l c, v = .slice a l c := by
  rcases open_slice Tryz.underlying36 h with ⟨hcs, _⟩ | ⟨a, len, cap, m, n, D, Pl, hcs, _⟩
  · exact ⟨none, 0, 0, by simpa using hcs⟩
  · exact ⟨some a, len, cap, by simpa using hcs⟩

/-- the frames that are read -/
theorem frames_of {fuel : Nat} {a : Option Addr} {len cap : Nat} {x : DataW H × List MemPlace} (h : DataW.trod enc Tryz.prog w base spare held fuel 43 [.slice a len cap] = some x) :
    ∀ i, i < len → ∃ (B o : Nat) (f : Go.Ev.Q.Fr), a = some ⟨B, o, none⟩ ∧ ∀ (j : Nat) v, f.cells[j]? = some v → w.cell? ⟨B, o + (10 * i + j), none⟩ = some v := by
  intro i hi
  rcases open_slice_fields Tryz.underlying43 Tryz.underlying51 (by kernel_rfl) (by kernel_rfl) h with ⟨hcs, _⟩ | ⟨b, l, c, m, D, Pl, hcs, _, hl, _, hmm, _, hf⟩
  · simp at hcs
    omega
  · simp at hcs
    obtain ⟨rfl, rfl, rfl⟩ := hcs
    have hlm : len ≤ m := by rw [hmm]; split <;> omega
    have hspot : b.spot = none := by
      obtain ⟨ys, n, _, _, _, hfj⟩ := hf 0 (by omega)
      obtain ⟨v, y, hc, _⟩ := hfj 0 _ rfl
      have : b.add (0 * 10 + 0) = b := by simp [Addr.add]
      have hc' : w.cell? b = some v := by rw [← this]; exact hc
      unfold World.cell? at hc'
      split at hc'
      · split at hc'
        · cases hc'
        · rename_i hs; simpa using hs
      · cases hc'
    have hadd : ∀ k, b.add k = ⟨b.block, b.off + k, none⟩ := fun k => by
      unfold Addr.add
      split
      · rename_i hk; subst hk; cases b; simp at hspot; simp [hspot]
      · rfl
    obtain ⟨ys, n, _, _, _, hfj⟩ := hf i (by omega)
    have cell : ∀ (j : Nat) v, w.cell? (b.add (i * 10 + j)) = some v → w.cell? ⟨b.block, b.off + (10 * i + j), none⟩ = some v := fun j v hc => by
      rw [hadd, Nat.mul_comm] at hc; exact hc
    obtain ⟨v0, _, c0, _, t0⟩ := hfj 0 _ rfl
    obtain ⟨v1, _, c1, _, t1⟩ := hfj 1 _ rfl
    obtain ⟨v2, _, c2, _, t2⟩ := hfj 2 _ rfl
    obtain ⟨v3, _, c3, _, t3⟩ := hfj 3 _ rfl
    obtain ⟨v4, _, c4, _, t4⟩ := hfj 4 _ rfl
    obtain ⟨v5, _, c5, _, t5⟩ := hfj 5 _ rfl
    obtain ⟨v6, _, c6, _, t6⟩ := hfj 6 _ rfl
    obtain ⟨v7, _, c7, _, t7⟩ := hfj 7 _ rfl
    obtain ⟨v8, _, c8, _, t8⟩ := hfj 8 _ rfl
    obtain ⟨v9, _, c9, _, t9⟩ := hfj 9 _ rfl
    obtain ⟨n0, rfl⟩ := num_of Tryz.underlying3 t0
    obtain ⟨n1, rfl⟩ := num_of Tryz.underlying3 t1
    obtain ⟨n2, rfl⟩ := num_of Tryz.underlying3 t2
    obtain ⟨n3, rfl⟩ := num_of Tryz.underlying3 t3
    obtain ⟨n4, rfl⟩ := num_of Tryz.underlying22 t4
    obtain ⟨n5, rfl⟩ := num_of Tryz.underlying3 t5
    obtain ⟨n6, rfl⟩ := num_of Tryz.underlying3 t6
    obtain ⟨n7, rfl⟩ := num_of Tryz.underlying3 t7
    obtain ⟨n8, rfl⟩ := num_of Tryz.underlying3 t8
    obtain ⟨da, dl, dc, rfl⟩ := bytes_of t9
    refine ⟨b.block, b.off, ⟨n0, n1, n2, n3, n4, n5, n6, n7, n8, da, dl, dc⟩, by cases b; simp at hspot; simp [hspot], fun j v hj => cell j v ?_⟩
    match j, hj with
    | 0, hj => cases hj; exact c0
    | 1, hj => cases hj; exact c1
    | 2, hj => cases hj; exact c2
    | 3, hj => cases hj; exact c3
    | 4, hj => cases hj; exact c4
    | 5, hj => cases hj; exact c5
    | 6, hj => cases hj; exact c6
    | 7, hj => cases hj; exact c7
    | 8, hj => cases hj; exact c8
    | 9, hj => cases hj; exact c9
    | k + 10, hj => cases hj
end

set_option maxRecDepth 100000 in
theorem lifted (os : Os) (started : os.Started) (H : Type) (enc : TypeId × Value → H) :
    ReturnsInHanded {} Tryz.checked os 4 .any (Rows.xpassStrangeSpec.pre6 enc Tryz.prog Tryz.f4 Rows.xpassStrangeRow.domain false) (Rows.xpassStrangeSpec.post enc Tryz.prog Tryz.f4 false true false false) := by
  refine returnsInHanded_of_change (C := Tryz.checked) own started (by kernel_rfl) Tryz.func4
    (ChangeSpec.witness6 (enc := enc) (C := Tryz.checked) false ⟨#[], #[.slice none 0 0], []⟩ 8 (by kernel_rfl) (by kernel_rfl) (by kernel_rfl) (by kernel_rfl)) ?_
  intro W base args ds gs before hval0 hW hcnd _
  have hval : ∀ (j : Nat) t v, Tryz.f4.params[j]? = some t → args[j]? = some v → Value.okWide Tryz.prog W .any base t v := hval0
  have hW' := hW
  obtain ⟨p, q, hA0, hV, rfl, hfz, hnd⟩ := hW
  have hA : DataW.TrodAll enc Tryz.prog W 0 (fun _ => true) true Tryz.f4.params.toList args.toList ds p := hA0
  rw [Tryz.params4] at hA hval
  obtain ⟨v0, vs0, d0, ds0, p0, q0, hargs, rfl, rfl, h0, r0⟩ := trodAll_cons hA
  obtain ⟨rfl, rfl, rfl⟩ := trodAll_nil r0
  obtain rfl : args = #[v0] := by cases args; simp_all
  obtain ⟨rfl, rfl⟩ := trodVars_none hV
  obtain ⟨a0, len0, cap0, rfl⟩ := okWide_slice Tryz.underlying43 (hval 0 43 v0 rfl rfl)
  have k0 := h0
  have lt0 : ∀ x ∈ p0, x.block < W.heap.size := by obtain ⟨m, hm⟩ := k0; exact DataW.trod_lt m _ _ _ hm
  have hfr : len0 ≤ 40 → ∀ i, i < len0 → ∃ (B o : Nat) (f : Go.Ev.Q.Fr), a0 = some ⟨B, o, none⟩ ∧ ∀ (j : Nat) v, f.cells[j]? = some v → W.cell? ⟨B, o + (10 * i + j), none⟩ = some v := fun _ => by
    obtain ⟨fuel, hf⟩ := h0
    exact frames_of (by simpa [Value.cells] using hf)
  clear hA0 hval0
  refine (Go.Ev.Q.walk a0 len0 cap0 W hfr).mono fun e W' ⟨he, bel⟩ => ?_
  subst he
  exact ⟨_, rfl, _, _, _, [], _, [], hW', trodAll_mk1 (shut_bool Tryz.underlying4 _), (trodAll_cons_mk (Below.trod laidOut (by kernel_rfl) (of_decide_eq_true (by kernel_rfl)) k0 bel lt0) trodAll_mk0), rfl, bel.frame _, fun h => by cases h⟩

theorem over : Rows.xpassStrangeRow.holds Tryz.pinned (OpenSpec.ofChange Rows.xpassStrangeSpec) :=
  OpenClaim.holds_of_wide 4 Tryz.f4 rfl rfl rfl rfl rfl rfl rfl ⟨rfl, rfl, rfl, rfl, rfl⟩ rfl rfl rfl rfl rfl (by kernel_rfl) Tryz.func4 closed
    (of_decide_eq_true (by kernel_rfl)) (by unfold Func.isWrapper; first | (rw [if_pos (by decide +kernel)]; kernel_rfl) | (rw [if_neg (by decide +kernel)]; exact ⟨rfl, rfl⟩))
    (fun os started H enc _ => lifted os started H enc)

/-- the statement -/
theorem proved : Rows.XpassStrangeSaid := over
#print axioms proved
end Go.Proofs.YtnkfegnbddmebaaGreat.xpassStrange
