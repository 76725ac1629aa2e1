/-
  The abstract evaluator: each operation that touches the heap does what was reckoned.
  Conditions: none beyond those that each theorem names.
-/
import Derived.Test.YtnkfegnbddmebaaGreatXaEvC
namespace Go.Ev
open Go

/-- all but the heap and the tape's place stands -/
structure WE (w w' : World) : Prop where
  os : w'.os = w.os
  tape : w'.tape = w.tape
  out : w'.output = w.output
theorem WE.refl (w : World) : WE w w := ⟨rfl, rfl, rfl⟩
theorem WE.trans {a b c : World} (h : WE a b) (k : WE b c) : WE a c := ⟨k.os.trans h.os, k.tape.trans h.tape, k.out.trans h.out⟩

section
variable {P : Program} {ifts : List TypeId} {F : Facts} {ρ : Nat → Value} {m : Emb} {T : Tr AV} {H H' : AH} {a : Act} {w : World} {o : Oper}

/-- what is asked of an operation that touches the heap -/
def EGoal (P : Program) (ifts : List TypeId) (ρ : Nat → Value) (m : Emb) (H : AH) (a : Act) (w : World) (o : Oper) (v : AV) (H' : AH) : Prop :=
  ∃ m' w' v', ((execOp a.eval o).run P w = .ok (.value v') w' ∨ ((execOp a.eval o).run P w = .ok .skip w' ∧ v' = undef)) ∧ VR ρ m' v v' ∧ St P ifts ρ m H w.heap m' H' w'.heap ∧ WE w w'

theorem EGoal.mk {v : AV} {s : Sem Value} (h : execOp a.eval o = (do pure (.value (← s)))) {v' : Value} {m' : Emb} {w' : World} (hs : s.run P w = .ok v' w') (hv : VR ρ m' v v') (ht : St P ifts ρ m H w.heap m' H' w'.heap) (he : WE w w') :
    EGoal P ifts ρ m H a w o v H' := ⟨m', w', v', .inl (by rw [h]; simp [hs]), hv, ht, he⟩

theorem EGoal.sk {s : Sem Unit} (h : execOp a.eval o = (do s; pure .skip)) {m' : Emb} {w' : World} (hs : s.run P w = .ok () w') (ht : St P ifts ρ m H w.heap m' H' w'.heap) (he : WE w w') :
    EGoal P ifts ρ m H a w o noRes H' := ⟨m', w', undef, .inr ⟨by rw [h]; simp [hs], rfl⟩, by simp only [noRes, VR]; exact ⟨#[], rfl, .nil⟩, ht, he⟩

/-- a new row of cells -/
theorem new_row {hp : Array Obj} (hw : WR P ifts ρ m H hp) {l : List AV} {C : Array Value} {el : TypeId} {esz fl x : Nat} {fr : Nat × Nat} (hn : l.length + x * esz ≤ C.size)
    (hl : ∀ (i : Nat) a, l[i]? = some a → single a = true ∧ ∃ v, C[i]? = some v ∧ VR ρ m a v) (hf : fl ≠ 2 → ∀ j, j < C.size → ¬ (fr.1 ≤ j ∧ j < fr.2)) (hf0 : fl = 0 → fr = (0, 0)) :
    St P ifts ρ m H hp (m.add H.n ⟨hp.size, 0, x⟩) (H.new (.cells l esz fl)) (hp.push (.cells C el fr)) := by
  have hle : m.le (m.add H.n ⟨hp.size, 0, x⟩) := Emb.le_add (hw.nx _ (Nat.le_refl _))
  refine St.alloc hw ?_
  refine ⟨C, el, fr, by simp, by simpa using hn, fun i a hi => ?_, hf, hf0⟩
  obtain ⟨h1, v, h2, h3⟩ := hl i a hi
  exact ⟨h1, v, by simpa using h2, h3.mono hle⟩

theorem VRs.cells {l : List AV} {C : Array Value} (h : VRs ρ m l C.toList) (hs : allSingle l = true) : ∀ (i : Nat) a, l[i]? = some a → single a = true ∧ ∃ v, C[i]? = some v ∧ VR ρ m a v := fun i a hi => by
  obtain ⟨v, h1, h2⟩ := h.get hi
  exact ⟨allSingle_get hs hi, v, by simpa using h1, h2⟩

theorem VRs.size {l : List AV} {C : Array Value} (h : VRs ρ m l C.toList) : l.length = C.size := by rw [h.length]; simp

theorem ok_al (c : Ctx P ifts F ρ m T H a.tmps w.heap) {e : TypeId} {z : List AV} (hop : o.op = .alloc e) (hz : tzc P e = some z) : EGoal P ifts ρ m H a w o (.p H.n 0) (H.new (.cells z 0 0)) := by
  obtain ⟨i, v, h1, h2, h3, h4⟩ := tzc_some c.one hz
  have hrun : (Instr.alloc e true (.tuple #[])).run P w = .ok (.pointer (some ⟨w.heap.size, 0, none⟩)) { w with heap := w.heap.push (.cells v.cells e) } := by
    simp [Instr.alloc, zeroValue, r_inf h1, h2, newVar, newRow]
  refine EGoal.mk (by simp [execOp, hop]) hrun (m' := m.add H.n ⟨w.heap.size, 0, 0⟩) (by simp only [VR]; exact ⟨_, Emb.add_same _ _ _, rfl⟩) ?_ ⟨rfl, rfl, rfl⟩
  exact new_row c.w (by simp [(h3 m).size]) ((h3 m).cells h4) (by simp) (by simp)

theorem ok_bx (c : Ctx P ifts F ρ m T H a.tmps w.heap) {e : TypeId} {x : Operand} {ax : AOpd} {v : AV} {cl : List AV} (hop : o.op = .box e x) (hx : copd x = some ax) (h : ax.ev T = some v) (hc : v.cells = some cl) :
    EGoal P ifts ρ m H a w o (.p H.n 0) (H.new (.cells cl 0 0)) := by
  have hv := opd_ok c.t hx h
  obtain ⟨h3, h4⟩ := cells_ok c.one hc hv
  have hrun : (Instr.box e (a.eval x)).run P w = .ok (.pointer (some ⟨w.heap.size, 0, none⟩)) { w with heap := w.heap.push (.cells (a.eval x).cells e) } := by
    simp [Instr.box, newVar, newRow]
  refine EGoal.mk (by simp [execOp, hop]) hrun (m' := m.add H.n ⟨w.heap.size, 0, 0⟩) (by simp only [VR]; exact ⟨_, Emb.add_same _ _ _, rfl⟩) ?_ ⟨rfl, rfl, rfl⟩
  exact new_row c.w (by simp [h3.size]) (h3.cells h4) (by simp) (by simp)

theorem zeros_length (z : List AV) : ∀ n, (zeros z n).length = n * z.length
  | 0 => by simp [zeros]
  | n + 1 => by simp [zeros, zeros_length z n, Nat.succ_mul, Nat.add_comm]

theorem zeros_get (z : List AV) (hz : 0 < z.length) : ∀ n i, i < n * z.length → (zeros z n)[i]? = z[i % z.length]?
  | 0, i, h => by simp at h
  | n + 1, i, h => by
    simp only [zeros]
    by_cases hi : i < z.length
    · rw [List.getElem?_append_left hi, Nat.mod_eq_of_lt hi]
    · rw [List.getElem?_append_right (by omega), zeros_get z hz n (i - z.length) (by rw [Nat.succ_mul] at h; omega)]
      congr 1
      conv => rhs; rw [show i = i - z.length + z.length from by omega]
      simp

theorem allSingle_zeros {z : List AV} (h : allSingle z = true) : ∀ n, allSingle (zeros z n) = true
  | 0 => rfl
  | n + 1 => allSingle_append h (allSingle_zeros h n)

/-- cells that are zero -/
theorem zeros_ok {z : List AV} {zs : Array Value} (h : VRs ρ m z zs.toList) (hz : 0 < z.length) (n k : Nat) (hk : k = n * z.length) : VRs ρ m (zeros z n) ((Array.range k).map (fun i => zs[i % zs.size]!)).toList := by
  have hs : z.length = zs.size := h.size
  refine VRs.of_get (by simp [zeros_length, hk]) fun i x hi => ?_
  have hlt : i < n * z.length := by rw [← zeros_length]; exact (List.getElem?_eq_some_iff.1 hi).1
  rw [zeros_get z hz n i hlt] at hi
  obtain ⟨v, h1, h2⟩ := h.get hi
  refine ⟨v, ?_, h2⟩
  have h1' : zs[i % zs.size]? = some v := by rw [← hs]; simpa using h1
  have h3 : zs[i % zs.size]! = v := by rw [getElem!_def, h1']
  simp [hk, hlt, h3]

theorem ok_bs (c : Ctx P ifts F ρ m T H a.tmps w.heap) {t e : TypeId} {len n : Nat} {ps : Array (Nat × Operand)} {z l : List AV} {r : List (Nat × Nat × AOpd)} (hop : o.op = .buildSlice t len ps)
    (ht : P.underlying t = some (.slice e)) (hz : tzc P e = some z) (hn : tsize P e = some n) (hp : cparts (fun i => some (i * n, n)) ps.toList = some r) (hc : 0 < n ∧ z.length = n ∧ len * n ≤ 10000)
    (h : fills T r (zeros z len) = some l) : EGoal P ifts ρ m H a w o (.sl H.n 0 len len true) (H.new (.cells l 0 0)) := by
  obtain ⟨i, v, h1, h2, h3, h4⟩ := tzc_some c.one hz
  obtain ⟨hc1, hc2, hc3⟩ := hc
  have hzs : VRs ρ m (zeros z len) ((Array.range (len * n)).map (fun i => v.cells[i % v.cells.size]!)).toList := zeros_ok (h3 m) (by omega) len _ (by rw [hc2])
  obtain ⟨vs, g1, g2, g3⟩ := fills_ok c hp h hzs (allSingle_zeros h4 len)
  have hsz : (zeroValue e).run P w = .ok v w := by simp [zeroValue, r_inf h1, h2]
  have hg1 : Instr.fill (fun i => some (i * n, n)) ((Array.range (len * n)).map (fun i => v.cells[i % v.cells.size]!)) (ps.map fun (i, x) => (i, a.eval x)).toList = some vs := by simpa using g1
  have hrun : (Instr.buildSlice t len (ps.map fun (i, x) => (i, a.eval x))).run P w = .ok (.slice (some ⟨w.heap.size, 0, none⟩) len len) { w with heap := w.heap.push (.cells vs e) } := by
    simp only [Instr.buildSlice, Sem.run_bind, r_und ht, Result.andThen_ok, r_size hn]
    rw [if_neg (by omega)]
    by_cases h0 : len * n = 0
    · have hr0 : (Array.range (len * n)).map (fun i => v.cells[i % v.cells.size]!) = (Array.range (len * n)).map (fun i => (#[] : Array Value)[i % (#[] : Array Value).size]!) := by rw [h0]; simp
      rw [hr0] at hg1
      simp only [h0, if_true, Sem.run_bind, Sem.run_pure, Result.andThen_ok]
      rw [h0] at hg1
      simp only [hg1, Sem.run_bind, newRow, run_newObj, Result.andThen_ok, Sem.run_pure]
    · simp only [h0, if_false, Sem.run_bind, hsz, Sem.run_pure, Result.andThen_ok]
      simp only [hg1, Sem.run_bind, newRow, run_newObj, Result.andThen_ok, Sem.run_pure]
  refine EGoal.mk (by simp [execOp, hop]) hrun (m' := m.add H.n ⟨w.heap.size, 0, 0⟩) ?_ ?_ ⟨rfl, rfl, rfl⟩
  · simp only [VR]; exact ⟨_, _, _, Emb.add_same _ _ _, rfl, Nat.le_refl _, by simp, .inr rfl⟩
  · exact new_row c.w (by simp [g2.size]) (g2.cells g3) (by simp) (by simp)

/-- a block that is set -/
theorem modify_eq {hp : Array Obj} {B : Nat} {ob : Obj} (h : hp[B]? = some ob) (f : Obj → Obj) : hp.modify B f = hp.setIfInBounds B (f ob) := by
  apply Array.ext_getElem?
  intro i
  rw [Array.getElem?_modify, Array.getElem?_setIfInBounds]
  by_cases hi : B = i
  · subst hi
    obtain ⟨hlt, he⟩ := Array.getElem?_eq_some_iff.1 h
    simp [hlt, he]
  · simp [hi]

theorem set_self {hp : Array Obj} {B : Nat} {ob : Obj} (h : hp[B]? = some ob) : hp.setIfInBounds B ob = hp := by
  apply Array.ext_getElem?
  intro i
  rw [Array.getElem?_setIfInBounds]
  by_cases hi : B = i
  · subst hi
    obtain ⟨hlt, he⟩ := Array.getElem?_eq_some_iff.1 h
    simp [hlt, he]
  · simp [hi]

theorem set_set (hp : Array Obj) (B : Nat) (x y : Obj) : (hp.setIfInBounds B x).setIfInBounds B y = hp.setIfInBounds B y := by
  apply Array.ext_getElem?
  intro i
  rw [Array.getElem?_setIfInBounds, Array.getElem?_setIfInBounds, Array.getElem?_setIfInBounds]
  by_cases hi : B = i <;> simp [hi]

theorem r_storeCells {B o : Nat} : ∀ (vs : List Value) (i : Nat) (w : World) (C : Array Value) (el : TypeId) (fr : Nat × Nat), w.heap[B]? = some (.cells C el fr) → o + i + vs.length ≤ C.size →
    (∀ j, j < C.size → ¬ (fr.1 ≤ j ∧ j < fr.2)) → (∀ v ∈ vs, v.oneCell' = true) →
    ∃ C', (storeCells ⟨B, o, none⟩ vs i).run P w = .ok () { w with heap := w.heap.setIfInBounds B (.cells C' el fr) } ∧ C'.size = C.size ∧
      ∀ j, C'[j]? = if o + i ≤ j ∧ j < o + i + vs.length then vs[j - (o + i)]? else C[j]?
  | [], i, w, C, el, fr, h, _, _, _ => ⟨C, by rw [set_self h]; rfl, rfl, fun j => by simp; intro _ _; omega⟩
  | v :: vs, i, w, C, el, fr, h, hl, hf, h1 => by
    have hlt : o + i < C.size := by simp at hl; omega
    have hB : B < w.heap.size := (Array.getElem?_eq_some_iff.1 h).1
    have hst : (store ((⟨B, o, none⟩ : Addr).add i) v).run P w = .ok () { w with heap := w.heap.setIfInBounds B (.cells (C.setIfInBounds (o + i) v) el fr) } := by
      rw [addrAdd, run_store P w _ v _ (h1 v (by simp))]
      have hc : w.cell? ⟨B, o + i, none⟩ = some C[o + i] := by rw [cell?_of h]; simp [hlt]
      have hz : w.frozen? ⟨B, o + i, none⟩ = false := by
        have := hf (o + i) hlt
        simp only [World.frozen?, h]
        simp only [Bool.and_eq_false_iff, decide_eq_false_iff_not]
        omega
      simp only [hc, hz, Bool.false_eq_true, if_false, World.setCell]
      rw [modify_eq h]; rfl
    obtain ⟨C', g1, g2, g3⟩ := r_storeCells (B := B) (o := o) vs (i + 1) { w with heap := w.heap.setIfInBounds B (.cells (C.setIfInBounds (o + i) v) el fr) } (C.setIfInBounds (o + i) v) el fr
      (by simp [hB]) (by simp at hl ⊢; omega) (by simpa using hf) (fun x hx => h1 x (by simp [hx]))
    refine ⟨C', ?_, by simpa using g2, fun j => ?_⟩
    · simp only [storeCells, Sem.run_bind, hst, Result.andThen_ok]
      rw [g1]
      simp only [set_set]
    · rw [g3 j]
      simp only [List.length_cons]
      by_cases hj : o + (i + 1) ≤ j ∧ j < o + (i + 1) + vs.length
      · rw [if_pos hj, if_pos (by omega), show j - (o + i) = (j - (o + (i + 1))) + 1 from by omega, List.getElem?_cons_succ]
      · rw [if_neg hj]
        by_cases h2 : j = o + i
        · subst h2
          rw [if_pos (by omega), Array.getElem?_setIfInBounds_self]
          simp [hlt]
        · rw [if_neg (by omega), Array.getElem?_setIfInBounds_ne (by omega)]

theorem VRs.ones (hρ : One ρ) : ∀ {l : List AV} {vs : List Value}, VRs ρ m l vs → allSingle l = true → ∀ v ∈ vs, v.oneCell' = true
  | [], vs, h, _, v, hv => by rw [h.nil_inv] at hv; cases hv
  | x :: l, vs, h, hs, v, hv => by
    obtain ⟨v', vs', rfl, h1, h2⟩ := h.cons_inv
    simp only [allSingle, Bool.and_eq_true] at hs
    rcases List.mem_cons.1 hv with rfl | hv
    · exact h1.one hρ hs.1
    · exact VRs.ones hρ h2 hs.2 v hv

/-- cells laid over a row -/
theorem put_ok (hw : WR P ifts ρ m H w.heap) (hρ : One ρ) {b : Nat} {l l' vs : List AV} {es fl : Nat} (hb : H.get b = some (.cells l es fl)) {e : MB} (hm : m b = some e) (hfl : fl ≠ 2) {o : Nat} (hl : lay l vs o = some l')
    {V : List Value} (hv : VRs ρ m vs V) (hs : allSingle vs = true) :
    ∃ hp', (storeCells ⟨e.b, e.o + o, none⟩ V).run P w = .ok () { w with heap := hp' } ∧ St P ifts ρ m H w.heap m (H.put b (.cells l' es fl)) hp' := by
  obtain ⟨C, el, fr, h1, h2, h3, h4, h5⟩ := cell_of hw hb hm
  obtain ⟨e1, e2, e3⟩ := lay_some hl
  have hlen := hv.length
  obtain ⟨C', g1, g2, g3⟩ := r_storeCells (P := P) (B := e.b) (o := e.o + o) V 0 w C el fr h1 (by omega) (h4 hfl) (hv.ones hρ hs)
  refine ⟨_, g1, St.upd hw hb hm ?_⟩
  have hB : e.b < w.heap.size := (Array.getElem?_eq_some_iff.1 h1).1
  refine ⟨C', el, fr, by simp [hB], by rw [e1, g2]; exact h2, fun i x hi => ?_, by rw [g2]; exact h4, h5⟩
  rw [e3 i] at hi
  rw [g3 (e.o + i)]
  by_cases hc : o ≤ i ∧ i < o + vs.length
  · rw [if_pos hc] at hi
    obtain ⟨v, k1, k2⟩ := hv.get hi
    exact ⟨allSingle_get hs hi, v, by rw [if_pos (by omega), show e.o + i - (e.o + o + 0) = i - o from by omega]; exact k1, k2⟩
  · rw [if_neg hc] at hi
    obtain ⟨k0, v, k1, k2⟩ := h3 i x hi
    exact ⟨k0, v, by rw [if_neg (by omega)]; exact k1, k2⟩

theorem onCells_some {β : Type} {f : List AV → Nat → Nat → Option β} {o : AO} {r : β} (h : onCells f o = some r) : ∃ l e fl, o = .cells l e fl ∧ f l e fl = some r := by
  cases o <;> first
    | exact ⟨_, _, _, rfl, h⟩
    | cases h

theorem put_some {b o : Nat} {vs : List AV} {r v : AV} (h : put H b o vs r = some (v, H')) : ∃ l e fl l', H.get b = some (.cells l e fl) ∧ fl ≠ 2 ∧ lay l vs o = some l' ∧ v = r ∧ H' = H.put b (.cells l' e fl) := by
  obtain ⟨ob, h1, h2⟩ := bd_some h
  obtain ⟨l, e, fl, rfl, h3⟩ := onCells_some h2
  unfold putC at h3
  cases hf : Nat.beq fl 2 with
  | true => rw [hf] at h3; cases h3
  | false =>
    rw [hf] at h3
    obtain ⟨l', h4, h5⟩ := bd_some (show bd (lay l vs o) _ = some (v, H') from h3)
    cases h5
    exact ⟨l, e, fl, l', h1, Nat.ne_of_beq_eq_false hf, h4, rfl, rfl⟩

theorem ok_st (c : Ctx P ifts F ρ m T H a.tmps w.heap) {t : TypeId} {n : Nat} {x y : Operand} {ax ay : AOpd} {v : AV} (hop : o.op = .store t x y) (hx : copd x = some ax) (hy : copd y = some ay) (hn : tsize P t = some n)
    (h : (bd (ax.ev T) fun a => bd (ay.ev T) fun v => stV H v n a) = some (v, H')) : EGoal P ifts ρ m H a w o v H' := by
  obtain ⟨u, h1, h2⟩ := bd_some h
  obtain ⟨u', h3, h4⟩ := bd_some h2
  obtain ⟨cl, h5, h6⟩ := bd_some (show bd u'.cells _ = some (v, H') from h4)
  obtain ⟨b, off, rfl, h7⟩ := onP_some (show onP _ u = some (v, H') from h6)
  obtain ⟨h8, h9⟩ := orN_some h7
  obtain ⟨l, e', fl, l', g1, g2, g3, rfl, rfl⟩ := put_some h9
  have hu := opd_ok c.t hx h1
  have hu' := opd_ok c.t hy h3
  simp only [VR] at hu
  obtain ⟨e, hm, hu⟩ := hu
  obtain ⟨k1, k2⟩ := cells_ok c.one h5 hu'
  obtain ⟨hp', k3, k4⟩ := put_ok (w := w) c.w c.one g1 hm g2 g3 k1 k2
  have hsz : (a.eval y).cells.size = n := by rw [← k1.size]; simpa using h8
  refine EGoal.sk (s := Instr.storeAt t (a.eval x) (a.eval y)) (w' := { w with heap := hp' }) (by simp [execOp, hop]) ?_ k4 ⟨rfl, rfl, rfl⟩
  simp only [Instr.storeAt, Instr.sureAddr, hu, Sem.run_bind, Sem.run_pure, Result.andThen_ok, storeVar, r_size hn, hsz]
  simp [k3]

theorem ok_mkm (c : Ctx P ifts F ρ m T H a.tmps w.heap) {t : TypeId} {r : Option Operand} (hop : o.op = .makeMap t r) (hr : r = none ∨ (∃ k n, r = some (.const (.int k n))) ∧ ∃ k e, P.underlying t = some (.map k e)) :
    EGoal P ifts ρ m H a w o (.mp H.n) (H.new (.map [] 0)) := by
  have hrun : (Instr.makeMap t (r.map a.eval)).run P w = .ok (.map (some w.heap.size)) { w with heap := w.heap.push (.map #[] 0) } := by
    rcases hr with rfl | ⟨⟨k, n, rfl⟩, k', e', ht⟩
    · simp [Instr.makeMap]
    · simp [Instr.makeMap, r_und ht, Act.eval, asInt, asIntOf]
  refine EGoal.mk (by simp [execOp, hop]) hrun (m' := m.add H.n ⟨w.heap.size, 0, 0⟩) (by simp only [VR]; exact ⟨_, Emb.add_same _ _ _, rfl⟩) ?_ ⟨rfl, rfl, rfl⟩
  exact St.alloc c.w ⟨rfl, #[], by simp, by simp [ER]⟩

theorem ok_mks (c : Ctx P ifts F ρ m T H a.tmps w.heap) {t e : TypeId} {n b : Nat} {z : List AV} {x y : Operand} {ax ay : AOpd} {v : AV} (hop : o.op = .makeSlice t x y) (hx : copd x = some ax) (hy : copd y = some ay)
    (ht : P.underlying t = some (.slice e)) (hz : tzc P e = some z) (hn : tsize P e = some n) (hb : tbytes P e = some b) (hc : 0 < n ∧ z.length = n)
    (h : (bd (ax.ev T) fun a => bd (ay.ev T) fun c => mksV H b z a c) = some (v, H')) : EGoal P ifts ρ m H a w o v H' := by
  obtain ⟨u, h1, h2⟩ := bd_some h
  obtain ⟨u', h3, h4⟩ := bd_some h2
  have hu := opd_ok c.t hx h1
  have hu' := opd_ok c.t hy h3
  unfold mksV at h4
  split at h4
  · rename_i p q
    obtain ⟨h5, h6⟩ := orN_some h4
    simp only [Bool.and_eq_true] at h5
    obtain ⟨⟨h7, h8⟩, h9⟩ := h5
    have h7' : p ≤ q := Nat.le_of_ble_eq_true h7
    have h8' : q < 1000000 := Nat.le_of_ble_eq_true h8
    have h9' : b ≤ 1000000 := Nat.le_of_ble_eq_true h9
    cases h6
    obtain ⟨i, vz, g1, g2, g3, g4⟩ := tzc_some c.one hz
    simp only [VR] at hu hu'
    obtain ⟨ib, g5, g6⟩ := bd_some hb
    rw [g1] at g5; cases g5; cases g6
    have hw64 : ∀ k : Nat, k < 1000000 → IntKind.i64.wrap (k : Int) = (k : Int) := by
      intro k hk
      apply fits64_wrap
      show Nat.ble k 9223372036854775807 = true
      rw [Nat.ble_eq]; omega
    have hz2 : (zeroValue e).run P w = .ok vz w := by simp [zeroValue, r_inf g1, g2]
    have hzs : VRs ρ m (zeros z q) ((Array.range (q * n)).map (fun i => vz.cells[i % vz.cells.size]!)).toList := zeros_ok (g3 m) (by omega) q _ (by rw [hc.2])
    have hbig : ∀ k : Nat, k < 1000000 → ¬ ((i.bytes : Int) * (k : Int) > 2 ^ 48) := by
      intro k hk
      have : i.bytes * k ≤ 1000000 * 1000000 := Nat.mul_le_mul h9' (by omega)
      have h' : ((i.bytes * k : Nat) : Int) ≤ 1000000000000 := by omega
      rw [Int.natCast_mul] at h'
      omega
    have hrun : (Instr.makeSlice t (a.eval x) (a.eval y)).run P w = .ok (.slice (some ⟨w.heap.size, 0, none⟩) p q) { w with heap := w.heap.push (.cells ((Array.range (q * n)).map (fun i => vz.cells[i % vz.cells.size]!)) e) } := by
      have e1 : (Int.ofNat p) = (p : Int) := rfl
      have e2 : (Int.ofNat q) = (q : Int) := rfl
      simp only [Instr.makeSlice, Sem.run_bind, r_und ht, Result.andThen_ok, hu, hu', asInt, asIntOf, Sem.run_pure, r_inf g1, e1, e2, hw64 p (by omega), hw64 q h8']
      have c1 : (decide ((q : Int) < 0) || decide ((i.bytes : Int) * (q : Int) > 2 ^ 48) || decide ((p : Int) < 0) || decide ((p : Int) > (q : Int))) = false := by
        have := hbig q h8'
        simp only [Bool.or_eq_false_iff, decide_eq_false_iff_not]
        omega
      rw [if_neg (by rw [c1]; simp)]
      simp only [Int.toNat_natCast, run_askRoom, Result.andThen_ok, r_size hn, Sem.run_bind]
      by_cases h0 : q * n = 0
      · simp only [h0, if_true, Sem.run_pure, Result.andThen_ok, newRow, Sem.run_bind, run_newObj]
        rw [show Array.range 0 = #[] from rfl]
        simp
      · simp only [h0, if_false, Sem.run_bind, hz2, Sem.run_pure, Result.andThen_ok, newRow, run_newObj]
    refine EGoal.mk (by simp [execOp, hop]) hrun (m' := m.add H.n ⟨w.heap.size, 0, 0⟩) ?_ ?_ ⟨rfl, rfl, rfl⟩
    · simp only [VR]; exact ⟨_, _, _, Emb.add_same _ _ _, rfl, h7', by simp, .inr rfl⟩
    · exact new_row c.w (by simp [hzs.size]) (hzs.cells (allSingle_zeros g4 q)) (by simp) (by simp)
  · cases h4

theorem u8s_ok {l : List Nat} (h : ∀ n ∈ l, n < 256) : VRs ρ m (u8s l) ((bytesArr l).data.map fun b => Value.int .u8 b.toNat).toList ∧ allSingle (u8s l) = true := by
  induction l with
  | nil => exact ⟨by simp [bytesArr, u8s, VRs], rfl⟩
  | cons n l ih =>
    obtain ⟨i1, i2⟩ := ih fun k hk => h k (by simp [hk])
    have hn := h n (by simp)
    refine ⟨?_, by simpa [u8s, allSingle, single] using i2⟩
    have : ((bytesArr (n :: l)).data.map fun b => Value.int .u8 b.toNat).toList = Value.int .u8 (n : Int) :: ((bytesArr l).data.map fun b => Value.int .u8 b.toNat).toList := by
      simp [bytesArr, Nat.mod_eq_of_lt hn]
    rw [this]
    exact .cons (by simp only [VR]; rfl) i1
end
end Go.Ev

namespace Go.Ev
open Go
section
variable {P : Program} {ifts : List TypeId} {F : Facts} {ρ : Nat → Value} {m : Emb} {T : Tr AV} {H H' : AH} {a : Act} {w : World} {o : Oper}

theorem cutCap_ge (need old : Nat) (el : TypeId) (t : Nat) : need ≤ (Question.appendCap need old el).cut t := by simp [Question.cut]

/-- the cells that a string's bytes are laid into -/
def csC (s : ByteArray) (K : Nat) : Array Value := (s.data.map fun b : UInt8 => Value.int .u8 b.toNat) ++ Array.replicate (K - s.size) (.int .u8 0)

theorem r_csb {e : TypeId} {s : ByteArray} : ∃ K d, s.size ≤ K ∧ (Conv.stringToBytes e s).run P w = .ok (.slice (some ⟨w.heap.size, 0, none⟩) s.size K)
    { w with drawn := d, heap := w.heap.push (.cells (csC s K) e ((csC s K).size, (csC s K).size + 1)) } := by
  refine ⟨(Question.appendCap s.size 0 e).cut (w.tape w.drawn (.appendCap s.size 0 e)), w.drawn + 1, cutCap_ge _ _ _ _, ?_⟩
  generalize hK : (Question.appendCap s.size 0 e).cut (w.tape w.drawn (.appendCap s.size 0 e)) = K
  have h0 : (Conv.stringToBytes e s).run P w = (do
      let a ← newRow e (csC s K)
      markStringish a
      pure (Value.slice (some a) s.size K) : Sem Value).run P { w with drawn := w.drawn + 1 } := by
    simp only [Conv.stringToBytes, Sem.run_bind, run_choose, Question.forced, Bool.false_eq_true, if_false, Result.andThen_ok, hK]
    rfl
  rw [h0]
  simp only [newRow, Sem.run_bind, run_newObj, Result.andThen_ok, Sem.run_pure, markStringish, run_shape, World.shape?, Array.getElem?_push_size, run_freeze, World.freeze]
  rw [if_neg (by simp)]
  rw [modify_eq (ob := .cells (csC s K) e) (by simp)]
  simp only [beq_self_eq_true, if_true]
  congr 2
  apply Array.ext_getElem?
  intro i
  rw [Array.getElem?_setIfInBounds, Array.getElem?_push, Array.getElem?_push]
  by_cases hi : w.heap.size = i
  · subst hi; simp
  · rw [if_neg hi, if_neg (fun h => hi h.symm), if_neg (fun h => hi h.symm)]

theorem ok_csb (c : Ctx P ifts F ρ m T H a.tmps w.heap) {s d e : TypeId} {x : Operand} {ax : AOpd} {v : AV} (hop : o.op = .convert s d x) (hx : copd x = some ax) (hs : P.underlying s = some .string) (hd : P.underlying d = some (.slice e))
    (he : P.underlying e = some (.int .u8)) (h : bd (ax.ev T) (csbV H) = some (v, H')) : EGoal P ifts ρ m H a w o v H' := by
  obtain ⟨u, h1, h2⟩ := bd_some h
  have hu := opd_ok c.t hx h1
  unfold csbV at h2
  split at h2
  · rename_i l
    cases h2
    simp only [VR] at hu
    obtain ⟨K, d', hK, hrun⟩ := r_csb (P := P) (w := w) (e := e) (s := bytesArr l)
    rw [bytesArr_size] at hK hrun
    obtain ⟨g1, g2⟩ := u8s_ok (ρ := ρ) (m := m) hu.2
    have hconv : (convert s d (a.eval x)).run P w = (Conv.stringToBytes e (bytesArr l)).run P w := by
      rw [hu.1]; simp [convert, r_und hs, r_und hd, r_und he]
    have hsz : ((bytesArr l).data.map fun b : UInt8 => Value.int .u8 b.toNat).size = l.length := by simp [bytesArr]
    have hcs : (csC (bytesArr l) K).size = K := by simp only [csC, Array.size_append, hsz, Array.size_replicate, bytesArr_size]; omega
    refine EGoal.mk (by simp [execOp, hop]) (hconv.trans hrun) (m' := m.add H.n ⟨w.heap.size, 0, K - l.length⟩) ?_ ?_ ⟨rfl, rfl, rfl⟩
    · simp only [VR]
      exact ⟨_, _, _, Emb.add_same _ _ _, rfl, Nat.le_refl _, by simp; omega, .inr rfl⟩
    · refine new_row c.w (by rw [hcs]; simp only [u8s, List.length_map]; omega) (fun i y hi => ?_) (fun _ j h1 h2 => by omega) (by simp)
      obtain ⟨k1, v, k2, k3⟩ := g1.cells g2 i y hi
      refine ⟨k1, v, ?_, k3⟩
      unfold csC
      rw [Array.getElem?_append_left (Array.getElem?_eq_some_iff.1 k2).1]; exact k2
  · cases h2

/-- a map's block -/
theorem map_of {hp : Array Obj} (hw : WR P ifts ρ m H hp) {b : Nat} {es : List (AV × AV × Nat)} {clock : Nat} (h : H.get b = some (.map es clock)) {e : MB} (hm : m b = some e) :
    e.o = 0 ∧ ∃ es', hp[e.b]? = some (.map es' clock) ∧ ER ρ m es es'.toList := hw.ob b _ e h hm

theorem upd_map {hp : Array Obj} (hw : WR P ifts ρ m H hp) {b : Nat} {es es2 : List (AV × AV × Nat)} {clock clock2 : Nat} (h : H.get b = some (.map es clock)) {e : MB} (hm : m b = some e) {es' : Array MapEntry} (he : ER ρ m es2 es'.toList) :
    St P ifts ρ m H hp m (H.put b (.map es2 clock2)) (hp.setIfInBounds e.b (.map es' clock2)) := by
  obtain ⟨h0, es0, h1, _⟩ := map_of hw h hm
  have hlt := (Array.getElem?_eq_some_iff.1 h1).1
  exact St.upd hw h hm ⟨h0, es', by simp [hlt], he⟩

theorem modE_get (f : AV × AV × Nat → AV × AV × Nat) : ∀ (es : List (AV × AV × Nat)) (n i : Nat), (modE es n f)[i]? = if i = n then es[i]?.map f else es[i]?
  | [], n, i => by simp [modE]
  | e :: es, 0, i => by
    cases i with
    | zero => simp [modE]
    | succ i => simp [modE]
  | e :: es, n + 1, i => by
    cases i with
    | zero => simp [modE]
    | succ i => simp [modE, modE_get f es n i]

theorem ER_get : ∀ {es : List (AV × AV × Nat)} {l : List MapEntry} (_ : ER ρ m es l) {i : Nat} {e : AV × AV × Nat}, es[i]? = some e → ∃ e', l[i]? = some e' ∧ VR ρ m e.1 e'.key ∧ VR ρ m e.2.1 e'.val ∧ e'.born = e.2.2
  | [], _, _, _, _, h => by simp at h
  | (k, v, n) :: es, l, he, i, e, h => by
    obtain ⟨e0, l', rfl, h1, h2, h3, h4⟩ := he
    cases i with
    | zero => simp at h; subst h; exact ⟨e0, rfl, h1, h2, h3⟩
    | succ i => simp at h; obtain ⟨e', g⟩ := ER_get h4 h; exact ⟨e', by simpa using g⟩

theorem ER_of : ∀ {es : List (AV × AV × Nat)} {l : List MapEntry}, es.length = l.length → (∀ (i : Nat) e, es[i]? = some e → ∃ e', l[i]? = some e' ∧ VR ρ m e.1 e'.key ∧ VR ρ m e.2.1 e'.val ∧ e'.born = e.2.2) → ER ρ m es l
  | [], l, h, _ => by cases l with | nil => rfl | cons _ _ => simp at h
  | (k, v, n) :: es, l, h, g => by
    cases l with
    | nil => simp at h
    | cons e0 l =>
      obtain ⟨e', g1, g2, g3, g4⟩ := g 0 _ rfl
      simp at g1; subst g1
      exact ⟨e0, l, rfl, g2, g3, g4, ER_of (by simpa using h) fun i e hi => by simpa using g (i + 1) e (by simpa using hi)⟩

theorem modE_length (f : AV × AV × Nat → AV × AV × Nat) : ∀ (es : List (AV × AV × Nat)) (n : Nat), (modE es n f).length = es.length
  | [], _ => by simp [modE]
  | _ :: _, 0 => by simp [modE]
  | _ :: es, n + 1 => by simp [modE, modE_length f es n]

theorem ER_mod {es : List (AV × AV × Nat)} {es' : Array MapEntry} (he : ER ρ m es es'.toList) (n : Nat) (f : AV × AV × Nat → AV × AV × Nat) (g : MapEntry → MapEntry)
    (hfg : ∀ e e', es[n]? = some e → es'[n]? = some e' → VR ρ m e.1 e'.key → VR ρ m e.2.1 e'.val → e'.born = e.2.2 → VR ρ m (f e).1 (g e').key ∧ VR ρ m (f e).2.1 (g e').val ∧ (g e').born = (f e).2.2) :
    ER ρ m (modE es n f) (es'.modify n g).toList := by
  refine ER_of (by rw [modE_length, he.length]; simp) fun i e hi => ?_
  rw [modE_get] at hi
  by_cases hin : i = n
  · subst hin
    rw [if_pos rfl] at hi
    obtain ⟨e0, k1, rfl⟩ := Option.map_eq_some_iff.1 hi
    obtain ⟨e', k2, k3, k4, k5⟩ := ER_get he k1
    refine ⟨g e', ?_, hfg e0 e' k1 (by simpa using k2) k3 k4 k5⟩
    rw [Array.getElem?_toList, Array.getElem?_modify, if_pos rfl]
    simp at k2; simp [k2]
  · rw [if_neg hin] at hi
    obtain ⟨e', k2, k3⟩ := ER_get he hi
    refine ⟨e', ?_, k3⟩
    rw [Array.getElem?_toList, Array.getElem?_modify, if_neg (fun h => hin h.symm)]
    simpa using k2

theorem ER_push {es : List (AV × AV × Nat)} {es' : Array MapEntry} (he : ER ρ m es es'.toList) {k v : AV} {n : Nat} {e : MapEntry} (h1 : VR ρ m k e.key) (h2 : VR ρ m v e.val) (h3 : e.born = n) : ER ρ m (es ++ [(k, v, n)]) (es'.push e).toList := by
  refine ER_of (by simp [he.length]) fun i x hi => ?_
  rw [Array.toList_push]
  by_cases hlt : i < es.length
  · rw [List.getElem?_append_left hlt] at hi
    obtain ⟨e', g1, g2⟩ := ER_get he hi
    exact ⟨e', by rw [List.getElem?_append_left (by rw [← he.length]; exact hlt)]; exact g1, g2⟩
  · rw [List.getElem?_append_right (by omega)] at hi
    have : i = es.length := by
      have := (List.getElem?_eq_some_iff.1 hi).1
      simp at this; omega
    subst this
    simp at hi; subst hi
    exact ⟨e, by rw [he.length]; simp, h1, h2, h3⟩

theorem keyStays {old new : Value} (h : Instr.sameBits 10000 old new = true) : (Instr.keyThatStays old new).run P w = .ok new w := by
  simp [Instr.keyThatStays, h]

theorem sk_noRes {v : AV} {H0 : AH} (h : some (noRes, H0) = some (v, H')) : v = noRes ∧ H' = H0 := by cases h; exact ⟨rfl, rfl⟩

theorem ok_mu (c : Ctx P ifts F ρ m T H a.tmps w.heap) {t k et : TypeId} {q : EqT} {x y z : Operand} {ax ay az : AOpd} {v : AV} (hop : o.op = .mapUpdate t x y z ∨ o.op = .insert t x y z) (hx : copd x = some ax) (hy : copd y = some ay) (hz : copd z = some az)
    (ht : P.underlying t = some (.map k et)) (hq : tkq P k = some q)
    (h : (bd (ax.ev T) fun m => bd (ay.ev T) fun k => bd (az.ev T) fun v => orN (kfit q k) (muV H q k v m)) = some (v, H')) : EGoal P ifts ρ m H a w o v H' := by
  obtain ⟨u, h1, h2⟩ := bd_some h
  obtain ⟨uk, h3, h4⟩ := bd_some h2
  obtain ⟨uv, h5, h6⟩ := bd_some h4
  obtain ⟨hf, h7⟩ := orN_some h6
  have hu := opd_ok c.t hx h1
  have hk := opd_ok c.t hy h3
  have hv := opd_ok c.t hz h5
  have hex : execOp a.eval o = (do Instr.mapUpdate t (a.eval x) (a.eval y) (a.eval z); pure .skip) := by rcases hop with hop | hop <;> simp [execOp, hop]
  unfold muV at h7
  split at h7
  · rename_i b
    split at h7
    · rename_i es clock hb
      obtain ⟨r, h8, h9⟩ := bd_some h7
      simp only [VR] at hu
      obtain ⟨e, hm, hu⟩ := hu
      obtain ⟨_, es', g1, g2⟩ := map_of c.w hb hm
      have pre : ∀ (K : Option (Nat × Value)), (Instr.findKey k (a.eval y) es'.toList).run P w = .ok K w → (Instr.mapUpdate t (a.eval x) (a.eval y) (a.eval z)).run P w =
          (match K with
            | some (i, _) => (do
              let key ← Instr.keyThatStays ((Option.map MapEntry.key es'[i]?).getD (a.eval y)) (a.eval y)
              setObj e.b (.map (es'.modify i fun e => { e with key, val := a.eval z }) clock) : Sem Unit)
            | none => setObj e.b (.map (es'.push { key := a.eval y, val := a.eval z, born := clock }) (clock + 1))).run P w := by
        intro K hK
        simp only [Instr.mapUpdate, Sem.run_bind, r_und ht, Result.andThen_ok, hu, MapKept.run_getObj_map g1, run_checkKey' hq hf hk, hK]
        cases K <;> rfl
      rcases findKey_ok c.w hq hk h8 g2 with ⟨rfl, k1⟩ | ⟨n, e', en, rfl, k2, k3, k4, k5, k6, k1⟩
      · obtain ⟨rfl, rfl⟩ := sk_noRes h9
        refine EGoal.sk hex ((pre _ k1).trans (MapKept.run_setObj_map _ g1)) (upd_map c.w hb hm (ER_push g2 hk hv rfl)) ⟨rfl, rfl, rfl⟩
      · obtain ⟨en', k7, k8⟩ := bd_some (show bd es[n]? _ = some (v, H') from h9)
        rw [k2] at k7; cases k7
        obtain ⟨k9, k10⟩ := orN_some k8
        obtain ⟨rfl, rfl⟩ := sk_noRes k10
        simp only [Bool.and_eq_true] at k9
        have hkk : en.1 = uk := veq_eq k9.1
        have hst : Instr.sameBits 10000 ((Option.map MapEntry.key es'[n]?).getD (a.eval y)) (a.eval y) = true := by
          have : es'[n]? = some e' := by simpa using k3
          rw [this]
          exact plain_same k9.2 (by rw [← hkk]; exact k4) hk
        refine EGoal.sk hex (w' := { w with heap := w.heap.setIfInBounds e.b (.map (es'.modify n fun e => { e with key := a.eval y, val := a.eval z }) clock) }) ((pre _ k1).trans ?_)
          (upd_map c.w hb hm (ER_mod g2 n (fun e => (uk, uv, e.2.2)) (fun e => { e with key := a.eval y, val := a.eval z }) fun e e' _ _ _ _ hbn => ⟨hk, hv, hbn⟩)) ⟨rfl, rfl, rfl⟩
        simp only [Sem.run_bind, keyStays hst, Result.andThen_ok, MapKept.run_setObj_map _ g1]
    · cases h7
  · cases h7

theorem ok_me (c : Ctx P ifts F ρ m T H a.tmps w.heap) {t k et : TypeId} {q : EqT} {z : AV} {x y : Operand} {ax ay : AOpd} {v : AV} (hop : o.op = .mapEntry t x y) (hx : copd x = some ax) (hy : copd y = some ay)
    (ht : P.underlying t = some (.map k et)) (hq : tkq P k = some q) (hz : tzero P et = some z)
    (h : (bd (ax.ev T) fun m => bd (ay.ev T) fun k => orN (kfit q k) (meV H q z k m)) = some (v, H')) : EGoal P ifts ρ m H a w o v H' := by
  obtain ⟨u, h1, h2⟩ := bd_some h
  obtain ⟨uk, h3, h6⟩ := bd_some h2
  obtain ⟨hf, h7⟩ := orN_some h6
  have hu := opd_ok c.t hx h1
  have hk := opd_ok c.t hy h3
  have hex : execOp a.eval o = (do pure (.value (← Instr.mapEntry t (a.eval x) (a.eval y)))) := by simp [execOp, hop]
  obtain ⟨vz, z1, z2⟩ := r_zero hz
  unfold meV at h7
  split at h7
  · rename_i b
    split at h7
    · rename_i es clock hb
      obtain ⟨r, h8, h9⟩ := bd_some h7
      simp only [VR] at hu
      obtain ⟨e, hm, hu⟩ := hu
      obtain ⟨_, es', g1, g2⟩ := map_of c.w hb hm
      rcases findKey_ok c.w hq hk h8 g2 with ⟨rfl, k1⟩ | ⟨n, e', en, rfl, k2, k3, k4, k5, k6, k1⟩
      · cases h9
        refine EGoal.mk hex (v' := .tuple #[vz, goInt clock]) (w' := { w with heap := w.heap.setIfInBounds e.b (.map (es'.push { key := a.eval y, val := vz, born := clock }) (clock + 1)) }) ?_ ?_
          (upd_map c.w hb hm (ER_push g2 hk (z1 ρ m) rfl)) ⟨rfl, rfl, rfl⟩
        · simp only [Instr.mapEntry, Sem.run_bind, r_und ht, Result.andThen_ok, hu, MapKept.run_getObj_map g1, run_checkKey' hq hf hk, k1, z2, MapKept.run_setObj_map _ g1, Sem.run_pure]
        · simp only [VR]; exact ⟨_, rfl, .cons (z1 ρ m) (.cons (by simp only [VR]; rfl) .nil)⟩
      · obtain ⟨en', k7, k8⟩ := bd_some (show bd es[n]? _ = some (v, H') from h9)
        rw [k2] at k7; cases k7
        obtain ⟨k9, k10⟩ := orN_some k8
        cases k10
        simp only [Bool.and_eq_true] at k9
        have hkk : en.1 = uk := veq_eq k9.1
        have hes : es'[n]? = some e' := by simpa using k3
        have hst : Instr.sameBits 10000 ((Option.map MapEntry.key es'[n]?).getD (a.eval y)) (a.eval y) = true := by
          rw [hes]
          exact plain_same k9.2 (by rw [← hkk]; exact k4) hk
        refine EGoal.mk hex (v' := .tuple #[e'.val, goInt e'.born]) (w' := { w with heap := w.heap.setIfInBounds e.b (.map (es'.modify n fun e => { e with key := a.eval y }) clock) }) ?_ ?_
          (upd_map c.w hb hm (ER_mod g2 n _ _ fun e e' _ _ _ hvl hbn => ⟨hk, hvl, hbn⟩)) ⟨rfl, rfl, rfl⟩
        · simp only [Instr.mapEntry, Sem.run_bind, r_und ht, Result.andThen_ok, hu, MapKept.run_getObj_map g1, run_checkKey' hq hf hk, k1, keyStays hst, MapKept.run_setObj_map _ g1, Sem.run_pure]
          simp [hes]
        · simp only [VR]; exact ⟨_, rfl, .cons k5 (.cons (by simp only [VR]; rw [k6]; rfl) .nil)⟩
    · cases h7
  · cases h7

theorem idxE_ok {st : Nat} : ∀ {es : List (AV × AV × Nat)} {l : List MapEntry} {n r : Nat}, ER ρ m es l → idxE es st n = some r → ∃ j, r = n + j ∧ l.findIdx? (fun e => (e.born : Int) == (st : Int)) = some j
  | [], _, _, _, _, h => by cases h
  | (k, v, b) :: es, l, n, r, he, h => by
    obtain ⟨e0, l', rfl, h1, h2, h3, h4⟩ := he
    cases hb : Nat.beq b st with
    | true =>
      simp only [idxE, hb, iff_true] at h
      cases h
      exact ⟨0, rfl, by simp [List.findIdx?_cons, h3, Nat.eq_of_beq_eq_true hb]⟩
    | false =>
      simp only [idxE, hb, iff_false] at h
      obtain ⟨j, g1, g2⟩ := idxE_ok h4 h
      refine ⟨j + 1, by omega, ?_⟩
      have : ((e0.born : Int) == (st : Int)) = false := by
        have := Nat.ne_of_beq_eq_false hb
        rw [h3]; simp; omega
      rw [List.findIdx?_cons, this, g2]; rfl

theorem ok_es (c : Ctx P ifts F ρ m T H a.tmps w.heap) {t : TypeId} {x y z : Operand} {ax ay az : AOpd} {v : AV} (hop : o.op = .entryStore t x y z) (hx : copd x = some ax) (hy : copd y = some ay) (hz : copd z = some az)
    (h : (bd (ax.ev T) fun m => bd (ay.ev T) fun s => bd (az.ev T) fun v => esV H v m s) = some (v, H')) : EGoal P ifts ρ m H a w o v H' := by
  obtain ⟨u, h1, h2⟩ := bd_some h
  obtain ⟨us, h3, h4⟩ := bd_some h2
  obtain ⟨uv, h5, h6⟩ := bd_some h4
  have hu := opd_ok c.t hx h1
  have hs := opd_ok c.t hy h3
  have hv := opd_ok c.t hz h5
  unfold esV at h6
  split at h6
  · rename_i b k st
    split at h6
    · rename_i es clock hb
      obtain ⟨n, h8, h9⟩ := bd_some h6
      obtain ⟨rfl, rfl⟩ := sk_noRes h9
      simp only [VR] at hu hs
      obtain ⟨e, hm, hu⟩ := hu
      obtain ⟨_, es', g1, g2⟩ := map_of c.w hb hm
      obtain ⟨j, k1, k2⟩ := idxE_ok g2 h8
      have hj : j = n := by omega
      subst hj
      have hf : es'.findIdx? (fun e => (e.born : Int) == (st : Int)) = some j := by rw [← k2, ← List.findIdx?_toArray]
      refine EGoal.sk (s := Instr.entryStore t (a.eval x) (a.eval y) (a.eval z)) (w' := { w with heap := w.heap.setIfInBounds e.b (.map (es'.modify j fun e => { e with val := a.eval z }) clock) }) (by simp [execOp, hop]) ?_ (upd_map c.w hb hm (es' := es'.modify j fun e => { e with val := a.eval z }) (ER_mod g2 j (fun e => (e.1, uv, e.2.2)) (fun e => { e with val := a.eval z }) fun e e' _ _ hkk _ hbn => ⟨hkk, hv, hbn⟩)) ⟨rfl, rfl, rfl⟩
      have hb' : (Int.ofNat st) = (st : Int) := rfl
      simp only [Instr.entryStore, Sem.run_bind, hu, hs, asInt, asIntOf, Sem.run_pure, Result.andThen_ok, MapKept.run_getObj_map g1, hb', hf, MapKept.run_setObj_map _ g1]
    · cases h6
  · cases h6

theorem ER_erase {es : List (AV × AV × Nat)} {es' : Array MapEntry} (he : ER ρ m es es'.toList) (n : Nat) : ER ρ m (es.eraseIdx n) (es'.eraseIdxIfInBounds n).toList := by
  have hl := he.length
  have ht : (es'.eraseIdxIfInBounds n).toList = es'.toList.eraseIdx n := by
    unfold Array.eraseIdxIfInBounds
    split
    · simp only [Array.toList_eraseIdx]
    · rename_i hn; rw [List.eraseIdx_of_length_le (by simpa using hn)]
  rw [ht]
  refine ER_of (by rw [List.length_eraseIdx, List.length_eraseIdx, hl]) fun i e hi => ?_
  rw [List.getElem?_eraseIdx] at hi ⊢
  split at hi
  · rename_i h; rw [if_pos h]; exact ER_get he hi
  · rename_i h; rw [if_neg h]; exact ER_get he hi

theorem VR_noRes : VR ρ m noRes (.tuple #[]) := by simp only [noRes, VR]; exact ⟨#[], rfl, .nil⟩

/-- a builtin that touches the heap -/
theorem EGoal.bi {v : AV} {b : Builtin} {k : Call} {s : TypeId → Sem Value} {v' : Value} {m' : Emb} {w' : World} (hop : o.op = .call k) (hb : k.callee = .builtin b)
    (h : ∀ cs, builtin b k.argTypes o.type cs (k.args.map a.eval) = (do pure (.value (← s o.type)))) (hs : (s o.type).run P w = .ok v' w') (hv : VR ρ m' v v') (ht : St P ifts ρ m H w.heap m' H' w'.heap) (he : WE w w') : EGoal P ifts ρ m H a w o v H' := by
  obtain ⟨cs, h1⟩ := exec_builtin (P := P) (w := w) (a := a) hop hb
  exact ⟨m', w', v', .inl (by rw [h1, h]; simp [hs]), hv, ht, he⟩

theorem ok_dl (c : Ctx P ifts F ρ m T H a.tmps w.heap) {k : Call} {t kt et : TypeId} {q : EqT} {ax ay : AOpd} {v : AV} (hop : o.op = .call k) (hb : k.callee = .builtin .delete) (hargs : copds k.args.toList = some [ax, ay])
    (ht0 : k.argTypes[0]? = some t) (ht : P.underlying t = some (.map kt et)) (hq : tkq P kt = some q)
    (h : (bd (ax.ev T) fun m => bd (ay.ev T) fun k => orN (kfit q k) (dlV H q k m)) = some (v, H')) : EGoal P ifts ρ m H a w o v H' := by
  obtain ⟨x, y, hl, hx, hy⟩ := copds_two hargs
  obtain ⟨u, h1, h2⟩ := bd_some h
  obtain ⟨uk, h3, h6⟩ := bd_some h2
  obtain ⟨hf, h7⟩ := orN_some h6
  have hu := opd_ok c.t hx h1
  have hk := opd_ok c.t hy h3
  have go : ∀ hp', v = noRes → St P ifts ρ m H w.heap m H' hp' → (Builtin.delete_ k.argTypes o.type #[a.eval x, a.eval y]).run P w = .ok (.tuple #[]) { w with heap := hp' } → EGoal P ifts ρ m H a w o v H' := by
    intro hp' hv hst hr
    exact EGoal.bi (s := fun ty => Builtin.delete_ k.argTypes ty #[a.eval x, a.eval y]) hop hb (fun cs => by rw [args_two hl]; rfl) hr (by rw [hv]; exact VR_noRes) hst ⟨rfl, rfl, rfl⟩
  unfold dlV at h7
  split at h7
  · cases h7
    simp only [VR] at hu
    refine go w.heap rfl (St.refl c.w) ?_
    simp [Builtin.delete_, ht0, r_und ht, hu, run_checkKey' hq hf hk]
  · rename_i b
    split at h7
    · rename_i es clock hbk
      obtain ⟨r, h8, h9⟩ := bd_some h7
      simp only [VR] at hu
      obtain ⟨e, hm, hu⟩ := hu
      obtain ⟨_, es', g1, g2⟩ := map_of c.w hbk hm
      rcases findKey_ok c.w hq hk h8 g2 with ⟨rfl, k1⟩ | ⟨n, e', en, rfl, k2, k3, k4, k5, k6, k1⟩
      · cases h9
        refine go w.heap rfl (St.refl c.w) ?_
        simp [Builtin.delete_, ht0, r_und ht, hu, run_checkKey' hq hf hk, MapKept.run_getObj_map g1, k1, MapKept.run_setObj_map _ g1, set_self g1]
      · cases h9
        refine go _ rfl (upd_map c.w hbk hm (ER_erase g2 n)) ?_
        simp [Builtin.delete_, ht0, r_und ht, hu, run_checkKey' hq hf hk, MapKept.run_getObj_map g1, k1, MapKept.run_setObj_map _ g1]
    · cases h7
  · cases h7

theorem ok_clm (c : Ctx P ifts F ρ m T H a.tmps w.heap) {k : Call} {t kt et : TypeId} {ax : AOpd} {v : AV} (hop : o.op = .call k) (hb : k.callee = .builtin .clear) (hargs : copds k.args.toList = some [ax])
    (ht0 : k.argTypes[0]? = some t) (ht : P.underlying t = some (.map kt et)) (h : bd (ax.ev T) (clmV H) = some (v, H')) : EGoal P ifts ρ m H a w o v H' := by
  obtain ⟨x, hl, hx⟩ := copds_one hargs
  obtain ⟨u, h1, h7⟩ := bd_some h
  have hu := opd_ok c.t hx h1
  have go : ∀ hp', v = noRes → St P ifts ρ m H w.heap m H' hp' → (Builtin.clear_ k.argTypes o.type #[a.eval x]).run P w = .ok (.tuple #[]) { w with heap := hp' } → EGoal P ifts ρ m H a w o v H' := by
    intro hp' hv hst hr
    exact EGoal.bi (s := fun ty => Builtin.clear_ k.argTypes ty #[a.eval x]) hop hb (fun cs => by rw [args_one hl]; rfl) hr (by rw [hv]; exact VR_noRes) hst ⟨rfl, rfl, rfl⟩
  unfold clmV at h7
  split at h7
  · cases h7
    simp only [VR] at hu
    refine go w.heap rfl (St.refl c.w) ?_
    simp [Builtin.clear_, ht0, r_und ht, hu]
  · rename_i b
    split at h7
    · rename_i es clock hbk
      cases h7
      simp only [VR] at hu
      obtain ⟨e, hm, hu⟩ := hu
      obtain ⟨_, es', g1, g2⟩ := map_of c.w hbk hm
      refine go _ rfl (upd_map c.w hbk hm (es2 := []) (es' := #[]) (by simp [ER])) ?_
      simp [Builtin.clear_, ht0, r_und ht, hu, MapKept.run_getObj_map g1, MapKept.run_setObj_map _ g1]
    · cases h7
  · cases h7
end
end Go.Ev

namespace Go.Ev
open Go
section
variable {P : Program} {ifts : List TypeId} {F : Facts} {ρ : Nat → Value} {m : Emb} {T : Tr AV} {H H' : AH} {a : Act} {w : World} {o : Oper}

theorem ok_rs (c : Ctx P ifts F ρ m T H a.tmps w.heap) {t : TypeId} {x : Operand} {ax : AOpd} {v : AV} (hop : o.op = .range t x) (hx : copd x = some ax) (ht : P.underlying t = some .string)
    (h : bd (ax.ev T) (rsV H) = some (v, H')) : EGoal P ifts ρ m H a w o v H' := by
  obtain ⟨u, h1, h2⟩ := bd_some h
  have hu := opd_ok c.t hx h1
  unfold rsV at h2
  split at h2
  · rename_i l
    cases h2
    simp only [VR] at hu
    refine EGoal.mk (s := Instr.range t (a.eval x)) (by simp [execOp, hop]) (v' := .pointer (some ⟨w.heap.size, 0, none⟩)) (w' := { w with heap := w.heap.push (.stringIter (bytesArr l) 0) }) (m' := m.add H.n ⟨w.heap.size, 0, 0⟩) ?_ ?_ ?_ ⟨rfl, rfl, rfl⟩
    · rw [hu.1]; simp [Instr.range, r_und ht]
    · simp only [VR]; exact ⟨_, Emb.add_same _ _ _, rfl⟩
    · exact St.alloc c.w ⟨rfl, by simp, hu.2⟩
  · cases h2

theorem ok_rm (c : Ctx P ifts F ρ m T H a.tmps w.heap) {t k e : TypeId} {x : Operand} {ax : AOpd} {v : AV} (hop : o.op = .range t x) (hx : copd x = some ax) (ht : P.underlying t = some (.map k e))
    (h : bd (ax.ev T) (rmV H) = some (v, H')) : EGoal P ifts ρ m H a w o v H' := by
  obtain ⟨u, h1, h2⟩ := bd_some h
  have hu := opd_ok c.t hx h1
  unfold rmV at h2
  split at h2
  · cases h2
    simp only [VR] at hu
    refine EGoal.mk (s := Instr.range t (a.eval x)) (by simp [execOp, hop]) (v' := .pointer (some ⟨w.heap.size, 0, none⟩)) (w' := { w with heap := w.heap.push (.mapIter none 0 #[] 0) }) (m' := m.add H.n ⟨w.heap.size, 0, 0⟩) ?_ ?_ ?_ ⟨rfl, rfl, rfl⟩
    · rw [hu]; simp [Instr.range, r_und ht]
    · simp only [VR]; exact ⟨_, Emb.add_same _ _ _, rfl⟩
    · exact St.alloc c.w ⟨rfl, by simp⟩
  · rename_i b
    split at h2
    · rename_i es clock hb
      cases h2
      simp only [VR] at hu
      obtain ⟨e', hm, hu⟩ := hu
      obtain ⟨_, es', g1, g2⟩ := map_of c.w hb hm
      have hne : b ≠ H.n := by have := c.w.lt b _ hb; omega
      refine EGoal.mk (s := Instr.range t (a.eval x)) (by simp [execOp, hop]) (v' := .pointer (some ⟨w.heap.size, 0, none⟩)) (w' := { w with heap := w.heap.push (.mapIter (some e'.b) clock #[] clock) }) (m' := m.add H.n ⟨w.heap.size, 0, 0⟩) ?_ ?_ ?_ ⟨rfl, rfl, rfl⟩
      · rw [hu]; simp [Instr.range, r_und ht, MapKept.run_getObj_map g1]
      · simp only [VR]; exact ⟨_, Emb.add_same _ _ _, rfl⟩
      · exact St.alloc c.w ⟨rfl, e', by rw [Emb.add_ne _ _ hne]; exact hm, by simp⟩
    · cases h2
  · cases h2

theorem r_getObj_si {r pos : Nat} {s : ByteArray} (h : w.heap[r]? = some (.stringIter s pos)) : (getObj r).run P w = .ok (.stringIter s pos) w := by
  simp [getObj, Sem.run, h]
theorem r_setObj_si {r pos : Nat} {s : ByteArray} (h : w.heap[r]? = some (.stringIter s pos)) (o' : Obj) : (setObj r o').run P w = .ok () { w with heap := w.heap.setIfInBounds r o' } := by
  simp [setObj, Sem.run, h]
theorem r_setObj_mi {r : Nat} {mb : Option Nat} {since last : Nat} {seen : Array Nat} (h : w.heap[r]? = some (.mapIter mb since seen last)) (o' : Obj) : (setObj r o').run P w = .ok () { w with heap := w.heap.setIfInBounds r o' } := by
  simp [setObj, Sem.run, h]

theorem decode_ascii {l : List Nat} {pos ch : Nat} (h : l[pos]? = some ch) (hc : ch < 128) : Utf8.decode (bytesArr l) pos = (ch, 1) := by
  have hget : ((bytesArr l).get! pos).toNat = ch := by
    obtain ⟨hlt, he⟩ := List.getElem?_eq_some_iff.1 h
    simp [bytesArr, ByteArray.get!, hlt, he]
    omega
  simp only [Utf8.decode, Nat.add_zero, hget]
  rw [if_pos (by omega)]

theorem ok_nxs (c : Ctx P ifts F ρ m T H a.tmps w.heap) {x : Operand} {ax : AOpd} {v : AV} (hop : o.op = .next x true) (hx : copd x = some ax) (h : bd (ax.ev T) (nxsV H) = some (v, H')) : EGoal P ifts ρ m H a w o v H' := by
  obtain ⟨u, h1, h2⟩ := bd_some h
  have hu := opd_ok c.t hx h1
  unfold nxsV at h2
  split at h2
  · rename_i r
    split at h2
    · rename_i l pos hb
      simp only [VR] at hu
      obtain ⟨e, hm, hu⟩ := hu
      obtain ⟨h0, g1, g2⟩ := c.w.ob r _ e hb hm
      split at h2
      · rename_i ch hch
        obtain ⟨h3, h4⟩ := orN_some h2
        cases h4
        rw [nget_eq] at hch
        have hc : ch < 128 := Nat.le_of_ble_eq_true h3
        have hlt : pos < (bytesArr l).size := by rw [bytesArr_size]; exact (List.getElem?_eq_some_iff.1 hch).1
        have hB := (Array.getElem?_eq_some_iff.1 g1).1
        refine EGoal.mk (s := Instr.next (a.eval x) true o.type) (by simp [execOp, hop]) (v' := .tuple #[.bool true, goInt pos, .int .i32 ch]) (w' := { w with heap := w.heap.setIfInBounds e.b (.stringIter (bytesArr l) (pos + 1)) }) (m' := m) ?_ ?_ ?_ ⟨rfl, rfl, rfl⟩
        · simp only [Instr.next, hu, h0, Nat.add_zero, Sem.run_bind, r_getObj_si g1, Result.andThen_ok, hlt, if_true, decode_ascii hch hc, r_setObj_si g1, Sem.run_pure]
        · simp only [VR]; exact ⟨_, rfl, .cons (by simp only [VR]) (.cons (by simp only [VR]; rfl) (.cons (by simp only [VR]; rfl) .nil))⟩
        · exact St.upd c.w hb hm ⟨h0, by simp [hB], g2⟩
      · rename_i hch
        cases h2
        rw [nget_eq] at hch
        have hlt : ¬ pos < (bytesArr l).size := by rw [bytesArr_size]; simpa using hch
        refine EGoal.mk (s := Instr.next (a.eval x) true o.type) (by simp [execOp, hop]) (v' := .tuple #[.bool false]) (w' := w) (m' := m) ?_ ?_ (St.refl c.w) ⟨rfl, rfl, rfl⟩
        · simp only [Instr.next, hu, h0, Nat.add_zero, Sem.run_bind, r_getObj_si g1, Result.andThen_ok, hlt, if_false, Sem.run_pure]
        · simp only [VR]; exact ⟨_, rfl, .cons (by simp only [VR]) .nil⟩
    · cases h2
  · cases h2

theorem ER_all {p : AV × AV × Nat → Bool} {p' : MapEntry → Bool} (hp : ∀ e e', e'.born = e.2.2 → p e = p' e') : ∀ {es : List (AV × AV × Nat)} {l : List MapEntry}, ER ρ m es l → es.all p = l.all p'
  | [], _, h => by cases h; rfl
  | (k, v, n) :: es, _, h => by
    obtain ⟨e0, l', rfl, _, _, h3, h4⟩ := h
    simp only [List.all_cons]
    rw [hp _ e0 h3, ER_all hp h4]

theorem ER_filter {p : AV × AV × Nat → Bool} {p' : MapEntry → Bool} (hp : ∀ e e', e'.born = e.2.2 → p e = p' e') : ∀ {es : List (AV × AV × Nat)} {l : List MapEntry}, ER ρ m es l → ER ρ m (es.filter p) (l.filter p')
  | [], _, h => by cases h; rfl
  | (k, v, n) :: es, _, h => by
    obtain ⟨e0, l', rfl, h1, h2, h3, h4⟩ := h
    simp only [List.filter_cons]
    rw [hp _ e0 h3]
    have ih := ER_filter hp h4
    cases p' e0 with
    | true => exact ⟨e0, _, rfl, h1, h2, h3, ih⟩
    | false => exact ih

theorem r_mapNext1 : (choose (.mapNext 1)).run P w = .ok 0 w := by simp [Question.forced]

theorem ok_nxm (c : Ctx P ifts F ρ m T H a.tmps w.heap) {x : Operand} {ax : AOpd} {v : AV} (hop : o.op = .next x false) (hx : copd x = some ax) (h : bd (ax.ev T) (nxmV H) = some (v, H')) : EGoal P ifts ρ m H a w o v H' := by
  obtain ⟨u, h1, h2⟩ := bd_some h
  have hu := opd_ok c.t hx h1
  have over : ∀ e : MB, (Instr.next (a.eval x) false o.type).run P w = .ok (.tuple #[.bool false]) w → EGoal P ifts ρ m H a w o (.tup [.b false]) H := by
    intro e hr
    exact EGoal.mk (s := Instr.next (a.eval x) false o.type) (by simp [execOp, hop]) (v' := .tuple #[.bool false]) (w' := w) (m' := m) hr (by simp only [VR]; exact ⟨_, rfl, .cons (by simp only [VR]) .nil⟩) (St.refl c.w) ⟨rfl, rfl, rfl⟩
  unfold nxmV at h2
  split at h2
  · rename_i r
    split at h2
    · rename_i since seen last hb
      cases h2
      simp only [VR] at hu
      obtain ⟨e, hm, hu⟩ := hu
      obtain ⟨h0, g1⟩ := c.w.ob r _ e hb hm
      refine over e ?_
      simp only [Instr.next, hu, h0, Nat.add_zero, Sem.run_bind, r_getObj_mi g1, Result.andThen_ok, Sem.run_pure]
    · rename_i mb since seen last hb
      split at h2
      · rename_i es clock hmb
        simp only [VR] at hu
        obtain ⟨e, hm, hu⟩ := hu
        obtain ⟨h0, e', hm', g1⟩ := c.w.ob r _ e hb hm
        obtain ⟨_, es', g2, g3⟩ := map_of c.w hmb hm'
        cases hbad : ((!seen.isEmpty) && (!es.isEmpty) && es.all (fun e => Nat.ble last e.2.2)) with
        | true => rw [hbad] at h2; cases h2
        | false =>
          rw [hbad] at h2
          have hbad' : ¬ ((!seen.toArray.isEmpty && !es'.isEmpty && es'.all (fun x => decide (x.born ≥ last))) = true) := by
            have e1 : seen.toArray.isEmpty = seen.isEmpty := by cases seen <;> rfl
            have e2 : es'.isEmpty = es.isEmpty := by
              have := g3.length
              cases es with
              | nil => simp at this; simp [Array.isEmpty, ← this]
              | cons y ys => simp at this; simp [Array.isEmpty, ← this]
            have e3 : es'.all (fun x => decide (x.born ≥ last)) = es.all (fun e => Nat.ble last e.2.2) := by
              rw [← Array.all_toList]
              exact (ER_all (fun e e' he => by rw [he, Bool.eq_iff_iff, Nat.ble_eq, decide_eq_true_iff]) g3).symm
            rw [e1, e2, e3, hbad]; simp
          have g4 : ER ρ m (es.filter fun e => !seen.contains e.2.2) (es'.filter fun e => !seen.toArray.contains e.born).toList := by
            rw [Array.toList_filter]
            exact ER_filter (fun e e' he => by rw [he]; simp) g3
          have h3 : nxmE H r mb since seen clock (es.filter fun e => !seen.contains e.2.2) = some (v, H') := h2
          generalize es.filter (fun e => !seen.contains e.2.2) = left at g4 h3
          generalize hl' : es'.filter (fun e => !seen.toArray.contains e.born) = left' at g4
          have hhead : (Instr.next (a.eval x) false o.type).run P w = (do
              let old := left'.filter (fun e => decide (e.born < since))
              let new := left'.filter (fun e => decide (e.born ≥ since))
              let candidates := (if old.isEmpty then #[none] else #[]) ++ (old ++ new).map some
              match candidates[← choose (.mapNext candidates.size)]? with
              | some (some e1) =>
                setObj e.b (.mapIter (some e'.b) since (seen.toArray.push e1.born) clock)
                pure (.tuple #[.bool true, e1.key, e1.val])
              | some none => pure (.tuple #[.bool false])
              | none => stuck "Next: no such candidate" : Sem Value).run P w := by
            subst hl'
            simp only [Instr.next, hu, h0, Nat.add_zero, Sem.run_bind, r_getObj_mi g1, Result.andThen_ok, MapKept.run_getObj_map g2]
            rw [if_neg hbad']
            simp only [Sem.run_bind]
            congr 1
          match left, h3, g4 with
          | [], h3, g4 =>
            cases h3
            have : left' = #[] := by
              have := g4.length
              simp at this; exact Array.size_eq_zero_iff.1 this.symm
            subst this
            refine over e ?_
            rw [hhead]
            simp [Question.forced]
          | [en], h3, g4 =>
            obtain ⟨h4, h5⟩ := orN_some (show orN (Nat.blt en.2.2 since) _ = some (v, H') from h3)
            cases h5
            obtain ⟨k, vv, n⟩ := en
            obtain ⟨e1, l', k1, k2, k3, k4, k5⟩ := g4
            cases k5
            have : left' = #[e1] := Array.toList_inj.1 (by rw [k1])
            subst this
            have hlt : e1.born < since := by rw [k4]; exact Nat.le_of_ble_eq_true h4
            have hB := (Array.getElem?_eq_some_iff.1 g1).1
            refine EGoal.mk (s := Instr.next (a.eval x) false o.type) (by simp [execOp, hop]) (v' := .tuple #[.bool true, e1.key, e1.val])
              (w' := { w with heap := w.heap.setIfInBounds e.b (.mapIter (some e'.b) since (seen.toArray.push e1.born) clock) }) (m' := m) ?_ ?_ ?_ ⟨rfl, rfl, rfl⟩
            · rw [hhead]
              have hng : ¬ (e1.born ≥ since) := by omega
              have f1 : (#[e1].filter fun e => decide (e.born < since)) = #[e1] := by simp [hlt]
              have f2 : (#[e1].filter fun e => decide (e.born ≥ since)) = #[] := by simp [hng]
              simp only [f1, f2]
              simp [Question.forced, r_setObj_mi g1]
            · simp only [VR]; exact ⟨_, rfl, .cons (by simp only [VR]) (.cons k2 (.cons k3 .nil))⟩
            · exact St.upd c.w hb hm ⟨h0, e', hm', by simp [hB, k4]⟩
          | _ :: _ :: _, h3, _ => cases h3
      · cases h2
    · cases h2
  · cases h2
end
end Go.Ev

namespace Go.Ev
open Go
section
variable {P : Program} {ifts : List TypeId} {F : Facts} {ρ : Nat → Value} {m : Emb} {T : Tr AV} {H H' : AH} {a : Act} {w : World} {o : Oper}

theorem growBy_le (n : Nat) : ∀ (r c : Nat), Builtin.growBy n r c ≤ 2 ^ r * (c + 768)
  | 0, c => by simp [Builtin.growBy]
  | r + 1, c => by
    simp only [Builtin.growBy]
    have h2 : 1 ≤ 2 ^ r := Nat.one_le_two_pow
    split
    · have : 1 * (c + 768) ≤ 2 ^ (r + 1) * (c + 768) := Nat.mul_le_mul_right _ Nat.one_le_two_pow
      omega
    · refine Nat.le_trans (growBy_le n r _) ?_
      have : c + (c + 768) / 4 + 768 ≤ 2 * (c + 768) := by omega
      calc 2 ^ r * (c + (c + 768) / 4 + 768) ≤ 2 ^ r * (2 * (c + 768)) := Nat.mul_le_mul_left _ this
        _ = 2 ^ (r + 1) * (c + 768) := by rw [Nat.pow_succ, Nat.mul_assoc]

theorem nextcap_le {need old : Nat} (h : old < need) (hn : need < 1000000) : Builtin.nextslicecap need old ≤ 20000000 := by
  have h4 : Builtin.growBy need 4 old ≤ 2 ^ 4 * (old + 768) := growBy_le need 4 old
  have h5 : (2 : Nat) ^ 4 = 16 := by decide
  rw [h5] at h4
  have h6 : Builtin.growBy need 4 old ≤ 20000000 := Nat.le_trans h4 (by omega)
  unfold Builtin.nextslicecap
  split
  · omega
  · split
    · omega
    · exact h6

theorem nextcap_fits {need old b : Nat} (h : old < need) (hn : need < 1000000) (hb : b ≤ 1000000) : ¬ (Builtin.nextslicecap need old * b > 2 ^ 48) := by
  have h1 := nextcap_le h hn
  have : Builtin.nextslicecap need old * b ≤ 20000000 * 1000000 := Nat.mul_le_mul h1 hb
  omega

/-- what is appended: the elements of a slice, the bytes of a string; or so many zeros -/
def Apd (P : Program) (ts : Array TypeId) (zs : Array Value) (size : Nat) (x : Value) (n : Nat) (V : List Value) (hp : Array Obj) : Prop :=
  ((∃ u, ts[1]? = some u ∧ ((∃ e', P.underlying u = some (.slice e')) ∨ P.underlying u = some .string)) ∧ (∀ w, (Builtin.lenOf x).run P w = .ok n w) ∧ ∀ w : World, w.heap = hp → (Builtin.firstCells size n x).run P w = .ok V.toArray w) ∨
  (∃ u k kx, ts[1]? = some u ∧ P.underlying u = some (.int k) ∧ x = .int kx (n : Int) ∧ n < 1000000 ∧ V = if n * size = 0 then [] else (Builtin.zeroCells zs n).toList)

theorem wrap_small {n : Nat} (h : n < 1000000) : IntKind.i64.wrap (n : Int) = (n : Int) := by
  apply fits64_wrap
  show Nat.ble n 9223372036854775807 = true
  rw [Nat.ble_eq]; omega

theorem bytes_fit {n b : Nat} (hn : n < 1000000) (hb : b ≤ 1000000) : ¬ ((n : Int) * (b : Int) > 2 ^ 48) := by
  have : n * b ≤ 1000000 * 1000000 := Nat.mul_le_mul (by omega) hb
  have h' : ((n * b : Nat) : Int) ≤ 1000000000000 := by omega
  rw [Int.natCast_mul] at h'
  omega

theorem r_append_room {ts : Array TypeId} {t e ty : TypeId} {i : TypeInfo} {vz : Value} (ht0 : ts[0]? = some t) (ht : P.underlying t = some (.slice e)) (hi : P.info? e = some i) (hz : i.zero = some vz) (hb : i.bytes ≤ 1000000)
    {base : Option Addr} {sLen sCap n : Nat} {x : Value} {V : List Value} (hx : Apd P ts vz.cells i.size x n V w.heap) (hr : sLen + n ≤ sCap) {w' : World}
    (hst : match base with | some a => (storeCells (a.add (sLen * i.size)) V).run P w = .ok () w' | none => w' = w) :
    (Builtin.append_ ts ty #[.slice base sLen sCap, x]).run P w = .ok (.slice base (sLen + n) sCap) w' := by
  have hs : (sizeOf e).run P w = .ok i.size w := by simp [sizeOf, r_inf hi]
  rcases hx with ⟨⟨u, hk, hu⟩, hl, hV⟩ | ⟨u, k, kx, h1, h2, rfl, h3, rfl⟩
  · have hV' := hV w rfl
    rcases hu with ⟨e', hu⟩ | hu
    · cases base with
      | none => simp at hst; subst hst; simp [Builtin.append_, ht0, hk, r_und ht, r_und hu, hs, hl, hr, hV']
      | some ad => simp at hst; simp [Builtin.append_, ht0, hk, r_und ht, r_und hu, hs, hl, hr, hV', hst]
    · cases base with
      | none => simp at hst; subst hst; simp [Builtin.append_, ht0, hk, r_und ht, r_und hu, hs, hl, hr, hV']
      | some ad => simp at hst; simp [Builtin.append_, ht0, hk, r_und ht, r_und hu, hs, hl, hr, hV', hst]
  · have hzv : (zeroValue e).run P w = .ok vz w := by simp [zeroValue, r_inf hi, hz]
    have hfit := bytes_fit h3 hb
    have hnn : ¬ ((n : Int) < 0) := by omega
    have hfit' : ¬ (281474976710656 < (n : Int) * (i.bytes : Int)) := by simpa using hfit
    cases base with
    | none =>
      simp at hst; subst hst
      by_cases h0 : n * i.size = 0
      · simp [Builtin.append_, ht0, h1, r_und ht, r_und h2, hs, asInt, asIntOf, wrap_small h3, hnn, r_inf hi, hfit', hr, h0]
      · simp [Builtin.append_, ht0, h1, r_und ht, r_und h2, hs, asInt, asIntOf, wrap_small h3, hnn, r_inf hi, hfit', hr, h0, hzv]
    | some ad =>
      simp only at hst
      by_cases h0 : n * i.size = 0
      · rw [if_pos h0] at hst
        simp [Builtin.append_, ht0, h1, r_und ht, r_und h2, hs, asInt, asIntOf, wrap_small h3, hnn, r_inf hi, hfit', hr, h0, hst]
      · rw [if_neg h0] at hst
        simp [Builtin.append_, ht0, h1, r_und ht, r_und h2, hs, asInt, asIntOf, wrap_small h3, hnn, r_inf hi, hfit', hr, h0, hzv, hst]

theorem r_append_grow {ts : Array TypeId} {t e ty : TypeId} {i : TypeInfo} {vz : Value} (ht0 : ts[0]? = some t) (ht : P.underlying t = some (.slice e)) (hi : P.info? e = some i) (hz : i.zero = some vz) (hb : i.bytes ≤ 1000000)
    {base : Option Addr} {sLen sCap n : Nat} {x : Value} {O V : List Value} (hx : Apd P ts vz.cells i.size x n V w.heap) (hg : sCap < sLen + n) (hn : sLen + n < 1000000)
    (hO : ∀ w1 : World, w1.heap = w.heap → (Builtin.firstCells i.size sLen (.slice base sLen sCap)).run P w1 = .ok O.toArray w1) :
    ∃ K, sLen + n ≤ K ∧ (Builtin.append_ ts ty #[.slice base sLen sCap, x]).run P w = .ok (.slice (some ⟨w.heap.size, 0, none⟩) (sLen + n) K)
      (w.drew.alloc (.cells (O.toArray ++ (V.toArray ++ Builtin.zeroCells vz.cells (K - (sLen + n)))) e)) := by
  have hs : ∀ w : World, (sizeOf e).run P w = .ok i.size w := fun w => by simp [sizeOf, r_inf hi]
  have hzv : ∀ w : World, (zeroValue e).run P w = .ok vz w := fun w => by simp [zeroValue, r_inf hi, hz]
  have hfit := nextcap_fits hg hn hb
  have hfit' : ¬ (281474976710656 < Builtin.nextslicecap (sLen + n) sCap * i.bytes) := by simpa using hfit
  have hr : ¬ (sLen + n ≤ sCap) := by omega
  have h63 : ¬ (9223372036854775807 < ((sLen : Int) + (n : Int))) := by omega
  have hq : (Question.appendCap (sLen + n) sCap e).forced = false := rfl
  refine ⟨(Question.appendCap (sLen + n) sCap e).cut (w.tape w.drawn (.appendCap (sLen + n) sCap e)), cutCap_ge _ _ _ _, ?_⟩
  have hO' := hO w.drew rfl
  rcases hx with ⟨⟨u, hk, hu⟩, hl, hV⟩ | ⟨u, k, kx, h1, h2, rfl, h3, rfl⟩
  · have hV' := hV w.drew rfl
    rcases hu with ⟨e', hu⟩ | hu
    · simp [Builtin.append_, ht0, hk, r_und ht, r_und hu, hs, hl, hr, hV', hO', hzv, r_inf hi, hfit', h63, hq, newRow]
    · simp [Builtin.append_, ht0, hk, r_und ht, r_und hu, hs, hl, hr, hV', hO', hzv, r_inf hi, hfit', h63, hq, newRow]
  · have hfit2 := bytes_fit h3 hb
    have hnn : ¬ ((n : Int) < 0) := by omega
    have hfit2' : ¬ (281474976710656 < (n : Int) * (i.bytes : Int)) := by simpa using hfit2
    by_cases h0 : n * i.size = 0
    · simp [Builtin.append_, ht0, h1, r_und ht, r_und h2, hs, asInt, asIntOf, wrap_small h3, hnn, r_inf hi, hfit', hfit2', hr, h0, hO', hzv, h63, hq, newRow]
    · simp [Builtin.append_, ht0, h1, r_und ht, r_und h2, hs, asInt, asIntOf, wrap_small h3, hnn, r_inf hi, hfit', hfit2', hr, h0, hO', hzv, h63, hq, newRow]
end
end Go.Ev

namespace Go.Ev
open Go
section
variable {P : Program} {ifts : List TypeId} {F : Facts} {ρ : Nat → Value} {m : Emb} {T : Tr AV} {H H' : AH} {a : Act} {w : World} {o : Oper}

/-- a row goes on under a new number -/
theorem St.move {hp : Array Obj} (w : WR P ifts ρ m H hp) {b : Nat} {ob o' : AO} {e : MB} {obj : Obj} {q x : Nat} (hb : H.get b = some ob) (hm : m b = some e)
    (ho : OR P ifts ρ (m.add H.n ⟨e.b, q, x⟩) o' ⟨e.b, q, x⟩ (hp.setIfInBounds e.b obj)) : St P ifts ρ m H hp (m.add H.n ⟨e.b, q, x⟩) ((H.kill b).new o') (hp.setIfInBounds e.b obj) := by
  have hle : m.le (m.add H.n ⟨e.b, q, x⟩) := Emb.le_add (w.nx _ (Nat.le_refl _))
  have oth : ∀ k, k ≠ e.b → (hp.setIfInBounds e.b obj)[k]? = hp[k]? := fun k hk => by rw [Array.getElem?_setIfInBounds_ne]; omega
  have hbn : b < H.n := w.lt b _ hb
  have live : ∀ k o2, k ≠ H.n → ((H.kill b).new o').get k = some o2 → k ≠ b ∧ H.get k = some o2 := fun k o2 hk h => by
    rw [AH.get_new, AH.n_kill, if_neg hk, AH.get_kill] at h
    split at h
    · cases h
    · rename_i hkb; exact ⟨hkb, h⟩
  have new : ((H.kill b).new o').get H.n = some o' := by rw [AH.get_new, AH.n_kill, if_pos rfl]
  refine ⟨by simp, fun k hk => Emb.add_ne _ _ (by omega), ⟨?_, ?_, ?_, ?_⟩, by simp, ?_, ?_, ?_⟩
  · intro k hk
    simp at hk
    rw [Emb.add_ne _ _ (by omega)]; exact w.nx k (by omega)
  · intro k o2 h
    simp only [AH.n_new, AH.n_kill]
    by_cases hk : k = H.n
    · omega
    · have := w.lt k o2 (live k o2 hk h).2; omega
  · intro k o2 e2 h1 h2
    by_cases hk : k = H.n
    · subst hk
      rw [new] at h1; cases h1
      rw [Emb.add_same] at h2; cases h2; exact ho
    · rw [Emb.add_ne _ _ hk] at h2
      obtain ⟨h3, h4⟩ := live k o2 hk h1
      refine OR.congr (oth _ fun he => h3 ?_) ((w.ob k o2 e2 h4 h2).mono hle)
      exact w.dj k b o2 ob e2 e h4 hb h2 hm he
  · intro k k' o1 o2 e1 e2 h1 h2 h3 h4 he
    by_cases hk : k = H.n
    · by_cases hk' : k' = H.n
      · rw [hk, hk']
      · subst hk
        rw [Emb.add_same] at h3; cases h3
        rw [Emb.add_ne _ _ hk'] at h4
        obtain ⟨h5, h6⟩ := live k' o2 hk' h2
        exact absurd (w.dj k' b o2 ob e2 e h6 hb h4 hm he.symm) h5
    · rw [Emb.add_ne _ _ hk] at h3
      obtain ⟨h5, h6⟩ := live k o1 hk h1
      by_cases hk' : k' = H.n
      · subst hk'
        rw [Emb.add_same] at h4; cases h4
        exact absurd (w.dj k b o1 ob e1 e h6 hb h3 hm he) h5
      · rw [Emb.add_ne _ _ hk'] at h4
        exact w.dj k k' o1 o2 e1 e2 h6 (live k' o2 hk' h2).2 h3 h4 he
  · intro B hB hf
    exact oth B fun he => hf b ob e hb hm he.symm
  · intro k o2 e2 h1 h2
    by_cases hk : k = H.n
    · subst hk
      rw [Emb.add_same] at h2; cases h2
      exact .inr ⟨b, ob, e, hb, hm, rfl⟩
    · rw [Emb.add_ne _ _ hk] at h2
      exact .inr ⟨k, o2, e2, (live k o2 hk h1).2, h2, rfl⟩
  · intro k hk hkm
    rw [AH.get_new, AH.n_kill, if_neg (by omega), AH.get_kill, if_neg]
    intro he; subst he; rw [hm] at hkm; cases hkm

theorem src_ok (hw : WR P ifts ρ m H w.heap) {v : AV} {vv : Value} (hv : VR ρ m v vv) {esz n q : Nat} {xs : List AV} (hs : srcCells esz n H v = some xs) (hl : lenA v = some q) (hn : n ≤ q) (hz : 0 < esz) :
    ∃ V, (∀ w1 : World, w1.heap = w.heap → (Builtin.firstCells esz n vv).run P w1 = .ok V.toArray w1) ∧ (∀ w1, (Builtin.lenOf vv).run P w1 = .ok q w1) ∧ VRs ρ m xs V ∧ allSingle xs = true ∧ xs.length ≤ n * esz := by
  rcases onSrc_some hs with ⟨rfl, h1⟩ | ⟨b, off, len, cap, ex, rfl, h1⟩ | ⟨l, rfl, h1⟩
  · cases h1; cases hl
    simp only [VR] at hv; subst hv
    exact ⟨[], fun w1 _ => by simp [Builtin.firstCells], fun w1 => by simp [Builtin.lenOf], .nil, rfl, by simp⟩
  · cases hl
    obtain ⟨l, h2, h3⟩ := bd_some h1
    simp only [VR] at hv
    obtain ⟨e, o', c', hm, rfl, hlc, hcap, hoff⟩ := hv
    obtain ⟨es, fl, hb⟩ := row_some h2
    obtain ⟨C, el, fr, vs, g1, g2, g3, g4, g5⟩ := cut_cells hw hb hm h3
    refine ⟨vs, fun w1 hw1 => ?_, fun w1 => by simp [Builtin.lenOf], g4, g5, by rw [g4.length, g2]; exact Nat.le_refl _⟩
    simp only [Builtin.firstCells]
    rcases hoff with h0 | h0
    · have hn0 : n = 0 := by cases ex <;> simp at hcap <;> omega
      subst hn0
      have : vs = [] := List.length_eq_zero_iff.1 (by rw [g2]; simp)
      subst this
      simp [loadCells, loadCellsFrom]
    · rw [h0]; exact r_loadCells (w := w1) (by rw [hw1]; exact g1) (e.o + off) _ g2 g3
  · cases hl; cases h1
    simp only [VR] at hv
    obtain ⟨rfl, hl2⟩ := hv
    have hl3 : ∀ k ∈ l.take n, k < 256 := fun k hk => hl2 k (List.mem_of_mem_take hk)
    obtain ⟨g1, g2⟩ := u8s_ok (ρ := ρ) (m := m) hl3
    refine ⟨_, fun w1 _ => ?_, fun w1 => by simp [Builtin.lenOf, bytesArr_size], g1, g2, ?_⟩
    · simp [Builtin.firstCells, bytesArr, ByteArray.extract_mk]
    · simp only [u8s, List.length_map, List.length_take]
      exact Nat.le_trans (Nat.min_le_left _ _) (Nat.le_mul_of_pos_right _ hz)

theorem zeroCells_size (z : Array Value) (n : Nat) : (Builtin.zeroCells z n).size = n * z.size := by simp [Builtin.zeroCells]

theorem mkRow_some {H0 : AH} {l : List AV} {esz len : Nat} {ex : Bool} {r : AV} (h : mkRow H0 l esz len ex = some (r, H')) : r = .sl H0.n 0 len len ex ∧ H' = H0.new (.cells l esz 0) := by cases h; exact ⟨rfl, rfl⟩

/-- 'append' -/
theorem app_ok (hw : WR P ifts ρ m H w.heap) (hρ : One ρ) {ts : Array TypeId} {t e ty : TypeId} {i : TypeInfo} {vz : Value} (ht0 : ts[0]? = some t) (ht : P.underlying t = some (.slice e)) (hi : P.info? e = some i) (hz : i.zero = some vz)
    (hzs : vz.cells.size = i.size) (hb : i.bytes ≤ 1000000) {s : AV} {sv : Value} (hs : VR ρ m s sv) {n : Nat} {x : Value} {V : List Value} {xs : List AV} (hx : Apd P ts vz.cells i.size x n V w.heap)
    (hxs : VRs ρ m xs V) (hx1 : allSingle xs = true) (hxl : xs.length ≤ n * i.size) {r : AV} (h : app H i.size n xs s = some (r, H')) :
    ∃ m' w' r', (Builtin.append_ ts ty #[sv, x]).run P w = .ok r' w' ∧ VR ρ m' r r' ∧ St P ifts ρ m H w.heap m' H' w'.heap ∧ WE w w' := by
  -- a new row
  have grow : ∀ (H0 : AH) (base : Option Addr) (sLen sCap : Nat) (old : List AV) (O : List Value), St P ifts ρ m H w.heap m H0 w.heap → H0.n = H.n → sv = .slice base sLen sCap → sCap < sLen + n → sLen + n < 1000000 →
      (∀ w1 : World, w1.heap = w.heap → (Builtin.firstCells i.size sLen (.slice base sLen sCap)).run P w1 = .ok O.toArray w1) → VRs ρ m old O → allSingle old = true → mkRow H0 (old ++ xs) i.size (sLen + n) false = some (r, H') →
      ∃ m' w' r', (Builtin.append_ ts ty #[sv, x]).run P w = .ok r' w' ∧ VR ρ m' r r' ∧ St P ifts ρ m H w.heap m' H' w'.heap ∧ WE w w' := by
    intro H0 base sLen sCap old O hst hn0 hsv hg hn hO ho hos hr
    obtain ⟨rfl, rfl⟩ := mkRow_some hr
    obtain ⟨K, hK, hrun⟩ := r_append_grow (w := w) (ty := ty) ht0 ht hi hz hb (base := base) (sLen := sLen) (sCap := sCap) hx hg hn hO
    subst hsv
    refine ⟨m.add H0.n ⟨w.heap.size, 0, K - (sLen + n)⟩, _, _, hrun, ?_, ?_, ⟨rfl, rfl, rfl⟩⟩
    · simp only [VR]
      exact ⟨_, _, _, Emb.add_same _ _ _, rfl, Nat.le_refl _, by simp; omega, .inr rfl⟩
    · have hC : VRs ρ m (old ++ xs) (O.toArray ++ V.toArray).toList := by simpa using ho.append hxs
      refine St.trans hst (new_row hst.wr (l := old ++ xs) (C := O.toArray ++ (V.toArray ++ Builtin.zeroCells vz.cells (K - (sLen + n)))) (el := e) (fr := (0, 0)) (esz := i.size) (fl := 0) (x := K - (sLen + n)) ?_ (fun j y hj => ?_) (by simp) (by simp))
      · rw [hC.size]; simp only [Array.size_append, zeroCells_size, hzs]; omega
      · obtain ⟨k1, v, k2, k3⟩ := hC.cells (allSingle_append hos hx1) j y hj
        refine ⟨k1, v, ?_, k3⟩
        rw [← Array.append_assoc, Array.getElem?_append_left (Array.getElem?_eq_some_iff.1 k2).1]; exact k2
  rcases onSl_some h with ⟨rfl, h1⟩ | ⟨b, off, len, cap, ex, rfl, h1⟩
  · simp only [VR] at hs
    subst hs
    cases n with
    | zero =>
      cases h1
      refine ⟨m, w, _, r_append_room (w := w) ht0 ht hi hz hb hx (by omega) (base := none) rfl, by simp only [VR], St.refl hw, WE.refl w⟩
    | succ n =>
      obtain ⟨h2, h3⟩ := orN_some (show orN (Nat.blt (n + 1) 1000000) (mkRow H xs i.size (n + 1) false) = some (r, H') from h1)
      have hlt : n + 1 < 1000000 := Nat.le_of_ble_eq_true h2
      refine grow H none 0 0 [] [] (St.refl hw) rfl rfl (by omega) (by omega) (fun w1 _ => by simp [Builtin.firstCells]) .nil rfl ?_
      rw [Nat.zero_add]; exact h3
  · obtain ⟨ob, h2, h3⟩ := bd_some h1
    obtain ⟨l, es, fl, rfl, h4⟩ := onCells_some h3
    simp only [VR] at hs
    obtain ⟨eb, o', c', hm, rfl, hlc, hcap, hoff⟩ := hs
    have hcc : cap ≤ c' := by cases ex <;> simp at hcap <;> omega
    unfold appC at h4
    cases hroom : Nat.ble (Nat.add len n) cap with
    | true =>
      rw [hroom] at h4
      have hr : len + n ≤ cap := Nat.le_of_ble_eq_true hroom
      cases hf : Nat.beq fl 2 with
      | true => rw [hf] at h4; cases h4
      | false =>
        rw [hf] at h4
        obtain ⟨l', h5, h6⟩ := bd_some (show bd (lay l xs (off + len * i.size)) _ = some (r, H') from h4)
        cases h6
        obtain ⟨hp', k3, k4⟩ := put_ok (w := w) hw hρ h2 hm (Nat.ne_of_beq_eq_false hf) h5 hxs hx1
        have hst : (storeCells ((⟨eb.b, o', none⟩ : Addr).add (len * i.size)) V).run P w = .ok () { w with heap := hp' } := by
          rcases hoff with h0 | h0
          · have hn0 : n = 0 := by omega
            subst hn0
            have : V = [] := List.length_eq_zero_iff.1 (by rw [← hxs.length]; simp at hxl; exact List.length_eq_zero_iff.2 hxl)
            subst this
            exact k3
          · rw [addrAdd, h0, Nat.add_assoc]; exact k3
        refine ⟨m, _, _, r_append_room (w := w) ht0 ht hi hz hb hx (by omega) (base := some ⟨eb.b, o', none⟩) hst, ?_, k4, ⟨rfl, rfl, rfl⟩⟩
        simp only [VR]
        exact ⟨eb, o', c', hm, rfl, hr, hcap, hoff⟩
    | false =>
      rw [hroom] at h4
      have hr : cap < len + n := by
        rcases Nat.lt_or_ge cap (len + n) with h' | h'
        · exact h'
        · rw [show Nat.ble (Nat.add len n) cap = true from Nat.ble_eq_true_of_le h'] at hroom; cases hroom
      obtain ⟨h5, h6⟩ := orN_some h4
      have hlt : len + n < 1000000 := Nat.le_of_ble_eq_true h5
      obtain ⟨old, h7, h8⟩ := bd_some (show bd (cut l off (len * i.size)) _ = some (r, H') from h6)
      obtain ⟨C, el, fr, O, g1, g2, g3, g4, g5⟩ := cut_cells hw h2 hm h7
      have hO : ∀ w1 : World, w1.heap = w.heap → (Builtin.firstCells i.size len (.slice (some ⟨eb.b, o', none⟩) len c')).run P w1 = .ok O.toArray w1 := by
        intro w1 hw1
        simp only [Builtin.firstCells]
        rcases hoff with h0 | h0
        · have hn0 : len = 0 := by omega
          subst hn0
          have : O = [] := List.length_eq_zero_iff.1 (by rw [g2]; simp)
          subst this
          simp [loadCells, loadCellsFrom]
        · rw [h0]; exact r_loadCells (w := w1) (by rw [hw1]; exact g1) (eb.o + off) _ g2 g3
      cases ex with
      | true =>
        simp at hcap
        refine grow H (some ⟨eb.b, o', none⟩) len c' old O (St.refl hw) rfl rfl (by omega) hlt hO g4 g5 h8
      | false =>
        simp at hcap
        obtain ⟨h9, h10⟩ := orN_some (show orN (Nat.beq es i.size && Nat.beq fl 0 && Nat.ble (off + cap * i.size) l.length) (mkRow (H.kill b) (old ++ xs) i.size (len + n) false) = some (r, H') from h8)
        simp only [Bool.and_eq_true] at h9
        obtain ⟨⟨h11, h12⟩, h13⟩ := h9
        have hes : es = i.size := Nat.eq_of_beq_eq_true h11
        have hfl : fl = 0 := Nat.eq_of_beq_eq_true h12
        have hle : off + cap * i.size ≤ l.length := Nat.le_of_ble_eq_true h13
        subst hfl
        rcases Nat.lt_or_ge c' (len + n) with hgr | hin
        · exact grow (H.kill b) (some ⟨eb.b, o', none⟩) len c' old O (St.kill hw hm) rfl rfl hgr hlt hO g4 g5 h10
        · obtain ⟨rfl, rfl⟩ := mkRow_some h10
          have ho' : o' = eb.o + off := hoff.resolve_left (by omega)
          subst ho'
          obtain ⟨C0, el0, fr0, q1, q2, q3, q4, q5⟩ := cell_of hw h2 hm
          rw [g1] at q1; cases q1
          have hfr := q5 rfl
          subst hfr
          have hVl := hxs.length
          have hol := g4.length
          -- lengths
          have m1 : (cap + eb.x) * i.size = cap * i.size + eb.x * i.size := Nat.add_mul _ _ _
          have m2 : (len + n) * i.size = len * i.size + n * i.size := Nat.add_mul _ _ _
          have m3 : (cap + eb.x) * i.size = (len + n) * i.size + (cap + eb.x - (len + n)) * i.size := by rw [← Nat.add_mul]; congr 1; omega
          rw [hes] at q2
          obtain ⟨C', r1, r2, r3⟩ := r_storeCells (P := P) (B := eb.b) (o := eb.o + off + len * i.size) V 0 w C el (0, 0) g1 (by omega) (by simp) (hxs.ones hρ hx1)
          have hB : eb.b < w.heap.size := (Array.getElem?_eq_some_iff.1 g1).1
          refine ⟨m.add H.n ⟨eb.b, eb.o + off, cap + eb.x - (len + n)⟩, { w with heap := w.heap.setIfInBounds eb.b (.cells C' el (0, 0)) }, _,
            r_append_room (w := w) ht0 ht hi hz hb hx hin (base := some ⟨eb.b, eb.o + off, none⟩) (by simp only [addrAdd]; exact r1), ?_, ?_, ⟨rfl, rfl, rfl⟩⟩
          · simp only [VR]
            exact ⟨_, _, _, Emb.add_same _ _ _, rfl, Nat.le_refl _, by simp; omega, .inr rfl⟩
          · refine St.move hw h2 hm ?_
            have hle2 : m.le (m.add H.n ⟨eb.b, eb.o + off, cap + eb.x - (len + n)⟩) := Emb.le_add (hw.nx _ (Nat.le_refl _))
            refine ⟨C', el, (0, 0), by simp [hB], ?_, fun j y hj => ?_, by simp, by simp⟩
            · simp only [List.length_append]; omega
            · show single y = true ∧ ∃ v, C'[eb.o + off + j]? = some v ∧ VR ρ _ y v
              rw [r3]
              by_cases hjo : j < old.length
              · rw [List.getElem?_append_left hjo] at hj
                obtain ⟨v, k1, k2⟩ := g4.get hj
                refine ⟨allSingle_get g5 hj, v, ?_, k2.mono hle2⟩
                rw [if_neg (by omega)]
                exact g3 j v k1
              · rw [List.getElem?_append_right (by omega)] at hj
                obtain ⟨v, k1, k2⟩ := hxs.get hj
                refine ⟨allSingle_get hx1 hj, v, ?_, k2.mono hle2⟩
                have := (List.getElem?_eq_some_iff.1 k1).1
                rw [if_pos (by omega)]
                rw [← k1]; congr 1; omega
end
end Go.Ev

namespace Go.Ev
open Go
section
variable {P : Program} {ifts : List TypeId} {F : Facts} {ρ : Nat → Value} {m : Emb} {T : Tr AV} {H H' : AH} {a : Act} {w : World} {o : Oper}

theorem tbytes_some {t : TypeId} {b : Nat} {i : TypeInfo} (h : tbytes P t = some b) (hi : P.info? t = some i) : i.bytes = b := by
  obtain ⟨i', h1, h2⟩ := bd_some h
  rw [hi] at h1; cases h1; cases h2; rfl

theorem tsize_of {t : TypeId} {n : Nat} {i : TypeInfo} (h : tsize P t = some n) (hi : P.info? t = some i) : i.size = n := by
  obtain ⟨i', h1, h2⟩ := tsize_some h
  rw [hi] at h1; cases h1; exact h2

theorem ok_ap (c : Ctx P ifts F ρ m T H a.tmps w.heap) {k : Call} {t u e : TypeId} {n b : Nat} {z : List AV} {ax ay : AOpd} {v : AV} (hop : o.op = .call k) (hb : k.callee = .builtin .append) (hargs : copds k.args.toList = some [ax, ay])
    (ht0 : k.argTypes[0]? = some t) (ht : P.underlying t = some (.slice e)) (hz : tzc P e = some z) (hn : tsize P e = some n) (hby : tbytes P e = some b) (hc : 0 < n ∧ z.length = n ∧ 0 < b ∧ b ≤ 1000000)
    (hu0 : k.argTypes[1]? = some u) (hu : (∃ e', P.underlying u = some (.slice e')) ∨ P.underlying u = some .string)
    (h : (bd (ax.ev T) fun s => bd (ay.ev T) fun v => bd (lenA v) fun q => bd (srcCells n q H v) fun xs => app H n q xs s) = some (v, H')) : EGoal P ifts ρ m H a w o v H' := by
  obtain ⟨x, y, hl, hx, hy⟩ := copds_two hargs
  obtain ⟨us, h1, h2⟩ := bd_some h
  obtain ⟨uv, h3, h4⟩ := bd_some h2
  obtain ⟨q, h5, h6⟩ := bd_some h4
  obtain ⟨xs, h7, h8⟩ := bd_some h6
  obtain ⟨i, vz, g1, g2, g3, g4⟩ := tzc_some c.one hz
  have e1 := tsize_of hn g1
  have e2 := tbytes_some hby g1
  subst e1; subst e2
  have hs := opd_ok c.t hx h1
  have hv := opd_ok c.t hy h3
  obtain ⟨V, k1, k2, k3, k4, k5⟩ := src_ok (w := w) c.w hv h7 h5 (Nat.le_refl _) hc.1
  obtain ⟨m', w', r', q1, q2, q3, q4⟩ := app_ok (ty := o.type) c.w c.one ht0 ht g1 g2 (by rw [← (g3 m).size]; exact hc.2.1) hc.2.2.2 hs (.inl ⟨⟨u, hu0, hu⟩, k2, k1⟩) k3 k4 k5 h8
  exact EGoal.bi (s := fun ty => Builtin.append_ k.argTypes ty #[a.eval x, a.eval y]) hop hb (fun cs => by rw [args_two hl]; rfl) q1 q2 q3 q4

theorem zeroCells_ok {z : List AV} {zs : Array Value} (h : VRs ρ m z zs.toList) (hz : 0 < z.length) (n : Nat) : VRs ρ m (zeros z n) (Builtin.zeroCells zs n).toList := by
  unfold Builtin.zeroCells
  exact zeros_ok h hz n _ (by rw [h.size])

theorem ok_apz (c : Ctx P ifts F ρ m T H a.tmps w.heap) {k : Call} {t u e : TypeId} {n b : Nat} {kk : IntKind} {z : List AV} {ax ay : AOpd} {v : AV} (hop : o.op = .call k) (hb : k.callee = .builtin .append) (hargs : copds k.args.toList = some [ax, ay])
    (ht0 : k.argTypes[0]? = some t) (ht : P.underlying t = some (.slice e)) (hz : tzc P e = some z) (hn : tsize P e = some n) (hby : tbytes P e = some b) (hc : 0 < n ∧ z.length = n ∧ 0 < b ∧ b ≤ 1000000)
    (hu0 : k.argTypes[1]? = some u) (hu : P.underlying u = some (.int kk))
    (h : (bd (ax.ev T) fun s => bd (ay.ev T) (apzV H n b z s)) = some (v, H')) : EGoal P ifts ρ m H a w o v H' := by
  obtain ⟨x, y, hl, hx, hy⟩ := copds_two hargs
  obtain ⟨us, h1, h2⟩ := bd_some h
  obtain ⟨uv, h3, h4⟩ := bd_some h2
  unfold apzV at h4
  split at h4
  · rename_i kx q
    obtain ⟨h5, h6⟩ := orN_some h4
    simp only [Bool.and_eq_true] at h5
    have hq : q < 1000000 := Nat.le_of_ble_eq_true h5.1
    obtain ⟨i, vz, g1, g2, g3, g4⟩ := tzc_some c.one hz
    have e1 := tsize_of hn g1
    have e2 := tbytes_some hby g1
    subst e1; subst e2
    have hs := opd_ok c.t hx h1
    have hv := opd_ok c.t hy h3
    simp only [VR] at hv
    have hzs : vz.cells.size = i.size := by rw [← (g3 m).size]; exact hc.2.1
    have hV : VRs ρ m (zeros z q) (if q * i.size = 0 then [] else (Builtin.zeroCells vz.cells q).toList) := by
      by_cases h0 : q * i.size = 0
      · have hq0 : q = 0 := by
          rcases Nat.mul_eq_zero.1 h0 with h | h
          · exact h
          · omega
        subst hq0
        simp [zeros, VRs]
      · rw [if_neg h0]; exact zeroCells_ok (g3 m) (by omega) q
    obtain ⟨m', w', r', q1, q2, q3, q4⟩ := app_ok (ty := o.type) c.w c.one ht0 ht g1 g2 hzs hc.2.2.2 hs (.inr ⟨u, kk, kx, hu0, hu, hv, hq, rfl⟩) hV (allSingle_zeros g4 q) (by rw [zeros_length, hc.2.1]; exact Nat.le_refl _) h6
    exact EGoal.bi (s := fun ty => Builtin.append_ k.argTypes ty #[a.eval x, a.eval y]) hop hb (fun cs => by rw [args_two hl]; rfl) q1 q2 q3 q4
  · cases h4

theorem ok_cpy (c : Ctx P ifts F ρ m T H a.tmps w.heap) {k : Call} {t e : TypeId} {n : Nat} {ax ay : AOpd} {v : AV} (hop : o.op = .call k) (hb : k.callee = .builtin .copy) (hargs : copds k.args.toList = some [ax, ay])
    (ht0 : k.argTypes[0]? = some t) (ht : P.underlying t = some (.slice e)) (hn : tsize P e = some n)
    (h : (bd (ax.ev T) fun d => bd (ay.ev T) fun v => bd (lenA v) fun q => cpyV H n v q d) = some (v, H')) : EGoal P ifts ρ m H a w o v H' := by
  obtain ⟨x, y, hl, hx, hy⟩ := copds_two hargs
  obtain ⟨ud, h1, h2⟩ := bd_some h
  obtain ⟨uv, h3, h4⟩ := bd_some h2
  obtain ⟨q, h5, h6⟩ := bd_some h4
  have hd := opd_ok c.t hx h1
  have hv := opd_ok c.t hy h3
  have go : ∀ (p : Nat) hp', v = .i .i64 (Int.ofNat p) → St P ifts ρ m H w.heap m H' hp' → (Builtin.copy_ k.argTypes o.type #[a.eval x, a.eval y]).run P w = .ok (goInt p) { w with heap := hp' } → EGoal P ifts ρ m H a w o v H' := by
    intro p hp' hv hst hr
    exact EGoal.bi (s := fun ty => Builtin.copy_ k.argTypes ty #[a.eval x, a.eval y]) hop hb (fun cs => by rw [args_two hl]; rfl) hr (by rw [hv]; simp only [VR]; rfl) hst ⟨rfl, rfl, rfl⟩
  -- what is copied is there
  have src : ∀ p xs, srcCells n p H uv = some xs → p ≤ q → ∃ V, (Builtin.firstCells n p (a.eval y)).run P w = .ok V.toArray w ∧ (Builtin.lenOf (a.eval y)).run P w = .ok q w ∧ VRs ρ m xs V ∧ allSingle xs = true := by
    intro p xs hs hp
    rcases Nat.eq_zero_or_pos n with hn0 | hn0
    · subst hn0
      rcases onSrc_some hs with ⟨rfl, e1⟩ | ⟨b, off, len, cap, ex, rfl, e1⟩ | ⟨l, rfl, e1⟩
      · cases e1; cases h5
        simp only [VR] at hv
        exact ⟨[], by simp [Builtin.firstCells, hv], by simp [Builtin.lenOf, hv], .nil, rfl⟩
      · cases h5
        obtain ⟨l, e2, e3⟩ := bd_some e1
        simp only [VR] at hv
        obtain ⟨eb, o', c', hm, hv, _⟩ := hv
        obtain ⟨f1, _⟩ := cut_some e3
        have hxs : xs = [] := List.length_eq_zero_iff.1 (by rw [f1]; simp)
        subst hxs
        exact ⟨[], by simp [Builtin.firstCells, hv, loadCells, loadCellsFrom], by simp [Builtin.lenOf, hv], .nil, rfl⟩
      · cases h5; cases e1
        simp only [VR] at hv
        have hl3 : ∀ k ∈ l.take p, k < 256 := fun k hk => hv.2 k (List.mem_of_mem_take hk)
        obtain ⟨f1, f2⟩ := u8s_ok (ρ := ρ) (m := m) hl3
        exact ⟨_, by rw [hv.1]; simp [Builtin.firstCells, bytesArr, ByteArray.extract_mk], by rw [hv.1]; simp [Builtin.lenOf, bytesArr_size], f1, f2⟩
    · obtain ⟨V, k1, k2, k3, k4, _⟩ := src_ok (w := w) c.w hv hs h5 hp hn0
      exact ⟨V, k1 w rfl, k2 w, k3, k4⟩
  unfold cpyV at h6
  split at h6
  · cases h6
    simp only [VR] at hd
    have hlen : (Builtin.lenOf (a.eval y)).run P w = .ok q w := by
      cases uv <;> first
        | (cases h5; done)
        | skip
      · cases h5; simp only [VR] at hv; rw [hv.1]; simp [Builtin.lenOf, bytesArr_size]
      · cases h5; simp only [VR] at hv; rw [hv]; simp [Builtin.lenOf]
      · cases h5; simp only [VR] at hv; obtain ⟨_, _, _, _, hv, _⟩ := hv; rw [hv]; simp [Builtin.lenOf]
    have h00 : Nat.min q 0 = 0 := Nat.min_zero q
    have hfirst : (Builtin.firstCells n 0 (a.eval y)).run P w = .ok #[] w := by
      cases uv <;> first
        | (cases h5; done)
        | skip
      · simp only [VR] at hv; rw [hv.1]; simp [Builtin.firstCells]
      · simp only [VR] at hv; rw [hv]; simp [Builtin.firstCells]
      · simp only [VR] at hv; obtain ⟨_, _, _, _, hv, _⟩ := hv; rw [hv]; simp [Builtin.firstCells, loadCells, loadCellsFrom]
    refine go 0 w.heap rfl (St.refl c.w) ?_
    simp only [Builtin.copy_, List.getElem?_toArray, ht0, List.getElem?_cons_zero, List.getElem?_cons_succ, Sem.run_bind, r_und ht, Result.andThen_ok, hd, hlen, h00, r_size hn, hfirst, Sem.run_pure]
  · rename_i b off len cap ex
    obtain ⟨xs, h7, h8⟩ := bd_some h6
    obtain ⟨l, es, fl, l', p1, p2, p3, rfl, rfl⟩ := put_some h8
    obtain ⟨V, k1, k2, k3, k4⟩ := src _ xs h7 (Nat.min_le_left _ _)
    simp only [VR] at hd
    obtain ⟨e', o', c', hm, hd, hlc, hcap, hoff⟩ := hd
    obtain ⟨hp', s1, s2⟩ := put_ok (w := w) c.w c.one p1 hm p2 p3 k3 k4
    have hst : (storeCells ⟨e'.b, o', none⟩ V).run P w = .ok () { w with heap := hp' } := by
      rcases hoff with h0 | h0
      · have hl0 : len = 0 := by cases ex <;> simp at hcap <;> omega
        subst hl0
        have hV0 : V = [] := by
          have e1 : Nat.min q 0 = 0 := Nat.min_zero q
          rw [e1] at h7 k1
          rcases onSrc_some h7 with ⟨rfl, e2⟩ | ⟨b, off, len, cap, ex, rfl, e2⟩ | ⟨l, rfl, e2⟩
          · cases e2; exact k3.nil_inv
          · obtain ⟨_, _, e3⟩ := bd_some e2
            obtain ⟨f1, _⟩ := cut_some e3
            exact List.length_eq_zero_iff.1 (by rw [← k3.length, f1]; simp)
          · cases e2; exact k3.nil_inv
        subst hV0
        exact s1
      · rw [h0]; exact s1
    refine go (Nat.min q len) hp' rfl s2 ?_
    simp only [Builtin.copy_, List.getElem?_toArray, ht0, List.getElem?_cons_zero, List.getElem?_cons_succ, Sem.run_bind, r_und ht, Result.andThen_ok, hd, k2, r_size hn, k1, Sem.run_pure, hst]
  · cases h6

theorem ok_cls (c : Ctx P ifts F ρ m T H a.tmps w.heap) {k : Call} {t e : TypeId} {n : Nat} {z : List AV} {ax : AOpd} {v : AV} (hop : o.op = .call k) (hb : k.callee = .builtin .clear) (hargs : copds k.args.toList = some [ax])
    (ht0 : k.argTypes[0]? = some t) (ht : P.underlying t = some (.slice e)) (hz : tzc P e = some z) (hc : 0 < n ∧ z.length = n)
    (h : bd (ax.ev T) (clsV H z) = some (v, H')) : EGoal P ifts ρ m H a w o v H' := by
  obtain ⟨x, hl, hx⟩ := copds_one hargs
  obtain ⟨u, h1, h7⟩ := bd_some h
  have hu := opd_ok c.t hx h1
  have go : ∀ hp', v = noRes → St P ifts ρ m H w.heap m H' hp' → (Builtin.clear_ k.argTypes o.type #[a.eval x]).run P w = .ok (.tuple #[]) { w with heap := hp' } → EGoal P ifts ρ m H a w o v H' := by
    intro hp' hv hst hr
    exact EGoal.bi (s := fun ty => Builtin.clear_ k.argTypes ty #[a.eval x]) hop hb (fun cs => by rw [args_one hl]; rfl) hr (by rw [hv]; exact VR_noRes) hst ⟨rfl, rfl, rfl⟩
  obtain ⟨i, vz, g1, g2, g3, g4⟩ := tzc_some c.one hz
  have hzv : (zeroValue e).run P w = .ok vz w := by simp [zeroValue, r_inf g1, g2]
  unfold clsV at h7
  split at h7
  · cases h7
    simp only [VR] at hu
    refine go w.heap rfl (St.refl c.w) ?_
    simp [Builtin.clear_, ht0, r_und ht, hu]
  · rename_i b off len cap ex
    simp only [VR] at hu
    obtain ⟨e', o', c', hm, hu, hlc, hcap, hoff⟩ := hu
    split at h7
    · cases h7
      refine go w.heap rfl (St.refl c.w) ?_
      simp [Builtin.clear_, ht0, r_und ht, hu]
    · rename_i q
      obtain ⟨l, es, fl, l', p1, p2, p3, rfl, rfl⟩ := put_some h7
      obtain ⟨hp', s1, s2⟩ := put_ok (w := w) c.w c.one p1 hm p2 p3 (zeroCells_ok (g3 m) (by omega) (q + 1)) (allSingle_zeros g4 _)
      have ho : o' = e'.o + off := hoff.resolve_left (by cases ex <;> simp at hcap <;> omega)
      refine go hp' rfl s2 ?_
      simp [Builtin.clear_, ht0, r_und ht, hu, hzv, ho, s1]
  · cases h7

theorem e_no_ {α : Type} {v : α} (h : (none : Option α) = some v) : False := by cases h

theorem eff_ok (c : Ctx P ifts F ρ m T H a.tmps w.heap) {op : AOp} {v : AV} (h : cop P ifts o = some op) (hp : effOp op T H = some (v, H')) : EGoal P ifts ρ m H a w o v H' := by
  unfold cop at h
  split at h
  case h_1 => obtain ⟨ax, h1, h2⟩ := bd_some h; cases h2; exact (no_ hp).elim
  case h_2 => obtain ⟨ax, h1, h2⟩ := bd_some h; cases h2; exact (no_ hp).elim
  case h_3 =>
    obtain ⟨ax, h1, h2⟩ := bd_some h
    obtain ⟨ay, h3, h4⟩ := bd_some h2
    obtain ⟨az, h5, h6⟩ := bd_some h4
    cases h6; exact (no_ hp).elim
  case h_4 e heq =>
    obtain ⟨z, h1, h2⟩ := bd_some h
    cases h2
    obtain ⟨rfl, rfl⟩ : v = .p H.n 0 ∧ H' = H.new (.cells z 0 0) := by cases hp; exact ⟨rfl, rfl⟩
    exact ok_al c heq h1
  case h_5 e x heq =>
    obtain ⟨ax, h1, h2⟩ := bd_some h
    cases h2
    obtain ⟨u, h3, h4⟩ := bd_some (show bd (ax.ev T) _ = some (v, H') from hp)
    obtain ⟨cl, h5, h6⟩ := bd_some h4
    obtain ⟨rfl, rfl⟩ : v = .p H.n 0 ∧ H' = H.new (.cells cl 0 0) := by cases h6; exact ⟨rfl, rfl⟩
    exact ok_bx c heq h1 h3 h5
  case h_6 =>
    obtain ⟨d, h1, h2⟩ := bd_some h
    split at h2
    · obtain ⟨z, h3, h4⟩ := bd_some h2
      obtain ⟨pl, h5, h6⟩ := bd_some h4
      obtain ⟨r, h7, h8⟩ := bd_some h6
      cases h8; exact (no_ hp).elim
    · obtain ⟨z, h3, h4⟩ := bd_some h2
      obtain ⟨n, h5, h6⟩ := bd_some h4
      obtain ⟨r, h7, h8⟩ := bd_some h6
      cases h8; exact (no_ hp).elim
    · cases h2
  case h_7 t len ps heq =>
    obtain ⟨d, h1, h2⟩ := bd_some h
    split at h2
    · obtain ⟨z, h3, h4⟩ := bd_some h2
      obtain ⟨n, h5, h6⟩ := bd_some h4
      obtain ⟨r, h7, h8⟩ := bd_some h6
      split at h8
      · rename_i hc
        cases h8
        obtain ⟨l, h9, h10⟩ := bd_some (show bd (fills T r (zeros z len)) _ = some (v, H') from hp)
        obtain ⟨rfl, rfl⟩ : v = .sl H.n 0 len len true ∧ H' = H.new (.cells l 0 0) := by cases h10; exact ⟨rfl, rfl⟩
        exact ok_bs c heq h1 h3 h5 h7 hc h9
      · cases h8
    · cases h2
  case h_8 =>
    obtain ⟨ax, h1, h2⟩ := bd_some h
    obtain ⟨g, h3, h4⟩ := bd_some h2
    obtain ⟨n, h5, h6⟩ := bd_some h4
    cases g <;> cases h6 <;> exact (no_ hp).elim
  case h_9 t x y heq =>
    obtain ⟨ax, h1, h2⟩ := bd_some h
    obtain ⟨ay, h3, h4⟩ := bd_some h2
    obtain ⟨n, h5, h6⟩ := bd_some h4
    cases h6; exact ok_st c heq h1 h3 h5 hp
  case h_10 => obtain ⟨ax, h1, h2⟩ := bd_some h; cases h2; exact (no_ hp).elim
  case h_11 =>
    obtain ⟨ax, h1, h2⟩ := bd_some h
    obtain ⟨ay, h3, h4⟩ := bd_some h2
    obtain ⟨u, h5, h6⟩ := bd_some h4
    split at h6
    · cases h6; exact (no_ hp).elim
    · cases h6; exact (no_ hp).elim
    · obtain ⟨q, h7, h8⟩ := bd_some h6
      cases h8; exact (no_ hp).elim
    · obtain ⟨q, h7, h8⟩ := bd_some h6
      cases h8; exact (no_ hp).elim
    · cases h6
  case h_12 => obtain ⟨ax, h1, h2⟩ := bd_some h; cases h2; exact (no_ hp).elim
  case h_13 s d x heq =>
    obtain ⟨ax, h1, h2⟩ := bd_some h
    obtain ⟨us, h3, h4⟩ := bd_some h2
    obtain ⟨ud, h5, h6⟩ := bd_some h4
    split at h6
    · cases h6; exact (no_ hp).elim
    · cases h6; exact (no_ hp).elim
    · obtain ⟨ue, h7, h8⟩ := bd_some h6
      split at h8
      · cases h8; exact (no_ hp).elim
      · cases h8
    · obtain ⟨ue, h7, h8⟩ := bd_some h6
      split at h8
      · cases h8; exact ok_csb c heq h1 h3 h5 h7 hp
      · cases h8
    · cases h6
  case h_14 =>
    obtain ⟨ax, h1, h2⟩ := bd_some h
    obtain ⟨d, h3, h4⟩ := bd_some h2
    split at h4
    · cases h4
    · cases h4; exact (no_ hp).elim
  case h_15 =>
    obtain ⟨af, h1, h2⟩ := bd_some h
    obtain ⟨ak, h3, h4⟩ := bd_some h2
    cases h4; exact (no_ hp).elim
  case h_16 t heq =>
    cases h
    obtain ⟨rfl, rfl⟩ : v = .mp H.n ∧ H' = H.new (.map [] 0) := by cases hp; exact ⟨rfl, rfl⟩
    exact ok_mkm c heq (.inl rfl)
  case h_17 t kk n heq =>
    obtain ⟨d, h1, h2⟩ := bd_some h
    split at h2
    · cases h2
      obtain ⟨rfl, rfl⟩ : v = .mp H.n ∧ H' = H.new (.map [] 0) := by cases hp; exact ⟨rfl, rfl⟩
      exact ok_mkm c heq (.inr ⟨⟨_, _, rfl⟩, _, _, h1⟩)
    · cases h2
  case h_18 t x y heq =>
    obtain ⟨ax, h1, h2⟩ := bd_some h
    obtain ⟨ay, h3, h4⟩ := bd_some h2
    obtain ⟨u, h5, h6⟩ := bd_some h4
    split at h6
    · obtain ⟨z, h7, h8⟩ := bd_some h6
      obtain ⟨n, h9, h10⟩ := bd_some h8
      obtain ⟨b, h11, h12⟩ := bd_some h10
      split at h12
      · rename_i hc
        cases h12; exact ok_mks c heq h1 h3 h5 h7 h9 h11 hc hp
      · cases h12
    · cases h6
  case h_19 t x lo hi mx heq =>
    obtain ⟨ax, h1, h2⟩ := bd_some h
    obtain ⟨alo, h3, h4⟩ := bd_some h2
    obtain ⟨ahi, h5, h6⟩ := bd_some h4
    obtain ⟨amx, h7, h8⟩ := bd_some h6
    obtain ⟨_, h9, h10⟩ := bd_some h8
    obtain ⟨u, h11, h12⟩ := bd_some h10
    split at h12
    · obtain ⟨k, h13, h14⟩ := bd_some h12
      cases h14; exact (no_ hp).elim
    · obtain ⟨k, h13, h14⟩ := bd_some h12
      cases h14; exact (no_ hp).elim
    · split at h12
      · cases h12; exact (no_ hp).elim
      · cases h12
    · obtain ⟨r, h13, h14⟩ := bd_some h12
      split at h14
      · obtain ⟨k, h15, h16⟩ := bd_some h14
        cases h16; exact (no_ hp).elim
      · cases h14
    · cases h12
  case h_20 =>
    obtain ⟨ax, h1, h2⟩ := bd_some h
    obtain ⟨u, h3, h4⟩ := bd_some h2
    split at h4
    · obtain ⟨fd, h5, h6⟩ := bd_some h4
      obtain ⟨n, h7, h8⟩ := bd_some h6
      cases n with
      | zero => cases h8
      | succ n => cases h8; exact (no_ hp).elim
    · cases h4
  case h_21 =>
    obtain ⟨ax, h1, h2⟩ := bd_some h
    obtain ⟨u, h3, h4⟩ := bd_some h2
    split at h4
    · obtain ⟨fd, h5, h6⟩ := bd_some h4
      obtain ⟨n, h7, h8⟩ := bd_some h6
      obtain ⟨g, h9, h10⟩ := bd_some h8
      cases h10; exact (no_ hp).elim
    · cases h4
  case h_22 =>
    obtain ⟨ax, h1, h2⟩ := bd_some h
    obtain ⟨ai, h3, h4⟩ := bd_some h2
    obtain ⟨u, h5, h6⟩ := bd_some h4
    split at h6
    · obtain ⟨k, h7, h8⟩ := bd_some h6
      cases h8; exact (no_ hp).elim
    · obtain ⟨k, h7, h8⟩ := bd_some h6
      cases h8; exact (no_ hp).elim
    · cases h6
  case h_23 =>
    obtain ⟨ax, h1, h2⟩ := bd_some h
    obtain ⟨ai, h3, h4⟩ := bd_some h2
    obtain ⟨u, h5, h6⟩ := bd_some h4
    split at h6
    · obtain ⟨k, h7, h8⟩ := bd_some h6
      obtain ⟨g, h9, h10⟩ := bd_some h8
      cases h10; exact (no_ hp).elim
    · cases h6; exact (no_ hp).elim
    · cases h6
  case h_24 =>
    obtain ⟨ax, h1, h2⟩ := bd_some h
    obtain ⟨ai, h3, h4⟩ := bd_some h2
    obtain ⟨u, h5, h6⟩ := bd_some h4
    split at h6
    · obtain ⟨q, h7, h8⟩ := bd_some h6
      obtain ⟨z, h9, h10⟩ := bd_some h8
      cases h10; exact (no_ hp).elim
    · cases h6
  case h_25 t x y z heq =>
    obtain ⟨am, h1, h2⟩ := bd_some h
    obtain ⟨ak, h3, h4⟩ := bd_some h2
    obtain ⟨av, h5, h6⟩ := bd_some h4
    obtain ⟨u, h7, h8⟩ := bd_some h6
    split at h8
    · obtain ⟨q, h9, h10⟩ := bd_some h8
      cases h10; exact ok_mu c (.inl heq) h1 h3 h5 h7 h9 hp
    · cases h8
  case h_26 t x y z heq =>
    obtain ⟨am, h1, h2⟩ := bd_some h
    obtain ⟨ak, h3, h4⟩ := bd_some h2
    obtain ⟨av, h5, h6⟩ := bd_some h4
    obtain ⟨u, h7, h8⟩ := bd_some h6
    split at h8
    · obtain ⟨q, h9, h10⟩ := bd_some h8
      cases h10; exact ok_mu c (.inr heq) h1 h3 h5 h7 h9 hp
    · cases h8
  case h_27 t x y heq =>
    obtain ⟨am, h1, h2⟩ := bd_some h
    obtain ⟨ak, h3, h4⟩ := bd_some h2
    obtain ⟨u, h7, h8⟩ := bd_some h4
    split at h8
    · obtain ⟨q, h9, h10⟩ := bd_some h8
      obtain ⟨z, h11, h12⟩ := bd_some h10
      cases h12; exact ok_me c heq h1 h3 h7 h9 h11 hp
    · cases h8
  case h_28 t x y z heq =>
    obtain ⟨am, h1, h2⟩ := bd_some h
    obtain ⟨ak, h3, h4⟩ := bd_some h2
    obtain ⟨av, h5, h6⟩ := bd_some h4
    cases h6; exact ok_es c heq h1 h3 h5 hp
  case h_29 t x heq =>
    obtain ⟨ax, h1, h2⟩ := bd_some h
    obtain ⟨u, h3, h4⟩ := bd_some h2
    split at h4
    · cases h4; exact ok_rs c heq h1 h3 hp
    · cases h4; exact ok_rm c heq h1 h3 hp
    · cases h4
  case h_30 x s heq =>
    obtain ⟨ax, h1, h2⟩ := bd_some h
    cases s with
    | true => cases h2; exact ok_nxs c heq h1 hp
    | false => cases h2; exact ok_nxm c heq h1 hp
  case h_31 => obtain ⟨ax, h1, h2⟩ := bd_some h; cases h2; exact (no_ hp).elim
  case h_32 => obtain ⟨ax, h1, h2⟩ := bd_some h; cases h2; exact (no_ hp).elim
  case h_33 k heq =>
    obtain ⟨args, h1, h2⟩ := bd_some h
    split at h2
    · cases h2; exact (no_ hp).elim
    · obtain ⟨f, h3, h4⟩ := bd_some h2
      cases h4; exact (no_ hp).elim
    · obtain ⟨r, h3, h4⟩ := bd_some h2
      obtain ⟨ms, h5, h6⟩ := bd_some h4
      cases h6; exact (no_ hp).elim
    · rename_i b hb
      unfold cop.cbuiltin at h2
      split at h2
      · obtain ⟨t, h3, h4⟩ := bd_some h2
        obtain ⟨u, h5, h6⟩ := bd_some h4
        split at h6
        · cases h6; exact (no_ hp).elim
        · cases h6; exact (no_ hp).elim
        · cases h6; exact (no_ hp).elim
        · obtain ⟨r, h7, h8⟩ := bd_some h6
          split at h8
          · cases h8; exact (no_ hp).elim
          · cases h8
        · cases h6; exact (no_ hp).elim
        · cases h6
      · obtain ⟨t, h3, h4⟩ := bd_some h2
        obtain ⟨u, h5, h6⟩ := bd_some h4
        split at h6
        · cases h6; exact (no_ hp).elim
        · cases h6
      · cases h2; exact (no_ hp).elim
      · cases h2; exact (no_ hp).elim
      · obtain ⟨t, h3, h4⟩ := bd_some h2
        obtain ⟨u, h5, h6⟩ := bd_some h4
        split at h6
        · obtain ⟨z, h7, h8⟩ := bd_some h6
          obtain ⟨n, h9, h10⟩ := bd_some h8
          obtain ⟨by', h11, h12⟩ := bd_some h10
          split at h12
          · rename_i hc
            obtain ⟨tt, h15, h16⟩ := bd_some h12
            obtain ⟨uu, h13, h14⟩ := bd_some h16
            split at h14
            · cases h14; exact ok_apz c heq hb h1 h3 h5 h7 h9 h11 hc h15 h13 hp
            · cases h14; exact ok_ap c heq hb h1 h3 h5 h7 h9 h11 hc h15 (.inl ⟨_, h13⟩) hp
            · cases h14; exact ok_ap c heq hb h1 h3 h5 h7 h9 h11 hc h15 (.inr h13) hp
            · cases h14
          · cases h12
        · cases h6
      · obtain ⟨t, h3, h4⟩ := bd_some h2
        obtain ⟨u, h5, h6⟩ := bd_some h4
        split at h6
        · obtain ⟨n, h9, h10⟩ := bd_some h6
          cases h10; exact ok_cpy c heq hb h1 h3 h5 h9 hp
        · cases h6
      · obtain ⟨t, h3, h4⟩ := bd_some h2
        obtain ⟨u, h5, h6⟩ := bd_some h4
        split at h6
        · obtain ⟨z, h7, h8⟩ := bd_some h6
          obtain ⟨n, h9, h10⟩ := bd_some h8
          split at h10
          · rename_i hc
            cases h10; exact ok_cls c heq hb h1 h3 h5 h7 hc hp
          · cases h10
        · cases h6; exact ok_clm c heq hb h1 h3 h5 hp
        · cases h6
      · obtain ⟨t, h3, h4⟩ := bd_some h2
        obtain ⟨u, h5, h6⟩ := bd_some h4
        split at h6
        · obtain ⟨q, h9, h10⟩ := bd_some h6
          cases h10; exact ok_dl c heq hb h1 h3 h5 h9 hp
        · cases h6
      · cases h2
  case h_34 => cases h
end
end Go.Ev

namespace Go.Ev
open Go
section
variable {P : Program} {ifts : List TypeId} {F : Facts} {ρ : Nat → Value} {m : Emb} {T : Tr AV} {H H' : AH} {a : Act} {w : World} {o : Oper}

theorem zeros_all {x : AV} : ∀ (n i : Nat) (y : AV), (zeros [x] n)[i]? = some y → y = x
  | 0, i, y, h => by simp [zeros] at h
  | n + 1, 0, y, h => by simp [zeros] at h; exact h.symm
  | n + 1, i + 1, y, h => by simp [zeros] at h; exact zeros_all n i y h

theorem inSz_mem {k : Nat} : ∀ {l : List Nat}, inSz k l = true → k ∈ l
  | [], h => by cases h
  | a :: l, h => by
    cases hb : Nat.beq a k with
    | true => rw [Nat.eq_of_beq_eq_true hb]; simp
    | false =>
      have h' : iff (Nat.beq a k) true (inSz k l) = true := h
      rw [hb] at h'
      exact List.mem_cons_of_mem _ (inSz_mem h')

theorem mkSx_some {k : Nat} {v : AV} (h : mkSx F H k = some (v, H')) : k ∈ F.sz ∧ v = .sx H.n k ∧ H' = H.new (.os k) := by
  obtain ⟨h1, h2⟩ := orN_some h
  cases h2
  exact ⟨inSz_mem h1, rfl, rfl⟩

theorem onXX_some {β : Type} {f : Nat → Option β} {v : AV} {r : β} (h : onXX f v = some r) : ∃ k, v = .x k ∧ f k = some r := by
  rcases onIX_some h with ⟨_, _, _, h1⟩ | ⟨k, rfl, h1⟩
  · cases h1
  · exact ⟨k, rfl, h1⟩

/-- a new row of bytes -/
theorem new_os (hw : WR P ifts ρ m H w.heap) {k n x : Nat} {C : Array Value} {el : TypeId} (hk : ρ k = .int .i64 (n : Int)) (hn : 0 < n) (hC : n ≤ C.size) (hb : ∀ i, i < n → ∃ y, C[i]? = some (.int .u8 y)) :
    St P ifts ρ m H w.heap (m.add H.n ⟨w.heap.size, 0, x⟩) (H.new (.os k)) (w.heap.push (.cells C el (0, 0))) :=
  St.alloc hw ⟨C, el, n, by simp, hk, by simpa using hC, hn, fun i hi => by simpa using hb i hi⟩

theorem sym_mks (c : Ctx P ifts F ρ m T H a.tmps w.heap) {t e : TypeId} {n b : Nat} {z : List AV} {x y : Operand} {ax ay : AOpd} {v : AV} (hop : o.op = .makeSlice t x y) (hx : copd x = some ax) (hy : copd y = some ay)
    (ht : P.underlying t = some (.slice e)) (hz : tzc P e = some z) (hn : tsize P e = some n) (hb : tbytes P e = some b)
    (h : s_mks n b z ax ay F T H = some (v, H')) : EGoal P ifts ρ m H a w o v H' := by
  obtain ⟨h0, h1⟩ := orN_some h
  simp only [Bool.and_eq_true] at h0
  obtain ⟨⟨hn1, hb1⟩, hz1⟩ := h0
  have hn1 : n = 1 := Nat.eq_of_beq_eq_true hn1
  have hb1 : b = 1 := Nat.eq_of_beq_eq_true hb1
  have hz1 : z = [.i .u8 0] := veqs_eq hz1
  subst hn1; subst hb1; subst hz1
  obtain ⟨u, h2, h3⟩ := bd_some h1
  obtain ⟨u', h4, h5⟩ := bd_some h3
  obtain ⟨k, rfl, h6⟩ := onXX_some h5
  obtain ⟨k', rfl, h7⟩ := onXX_some h6
  obtain ⟨h8, h9⟩ := orN_some h7
  have hkk : k = k' := Nat.eq_of_beq_eq_true h8
  subst hkk
  obtain ⟨hsz, rfl, rfl⟩ := mkSx_some h9
  obtain ⟨q, hq, hq0, hq1⟩ := c.f.sz k hsz
  have hu := opd_ok c.t hx h2
  have hu' := opd_ok c.t hy h4
  simp only [VR] at hu hu'
  rw [hq] at hu hu'
  obtain ⟨i, vz, g1, g2, g3, g4⟩ := tzc_some c.one hz
  obtain ⟨ib, g5, g6⟩ := bd_some hb
  rw [g1] at g5; cases g5
  have g6 : i.bytes = 1 := Option.some.inj g6
  have hw64 : ∀ k : Nat, k < 1000000 → IntKind.i64.wrap (k : Int) = (k : Int) := fun k hk => wrap_small hk
  have hz2 : (zeroValue e).run P w = .ok vz w := by simp [zeroValue, r_inf g1, g2]
  have hzs : VRs ρ m (zeros [.i .u8 0] q) ((Array.range (q * 1)).map (fun i => vz.cells[i % vz.cells.size]!)).toList := zeros_ok (g3 m) (by simp) q _ (by simp)
  have hrun : (Instr.makeSlice t (a.eval x) (a.eval y)).run P w = .ok (.slice (some ⟨w.heap.size, 0, none⟩) q q) { w with heap := w.heap.push (.cells ((Array.range (q * 1)).map (fun i => vz.cells[i % vz.cells.size]!)) e) } := by
    simp only [Instr.makeSlice, Sem.run_bind, r_und ht, Result.andThen_ok, hu, hu', asInt, asIntOf, Sem.run_pure, r_inf g1, hw64 q hq1]
    have c1 : (decide ((q : Int) < 0) || decide ((i.bytes : Int) * (q : Int) > 2 ^ 48) || decide ((q : Int) < 0) || decide ((q : Int) > (q : Int))) = false := by
      rw [g6, show (2 : Int) ^ 48 = 281474976710656 from by decide]
      have h1q : ((1 : Nat) : Int) * (q : Int) = (q : Int) := by simp
      rw [h1q]
      simp only [Bool.or_eq_false_iff, decide_eq_false_iff_not]
      refine ⟨⟨⟨?_, ?_⟩, ?_⟩, ?_⟩ <;> omega
    rw [if_neg (by rw [c1]; simp)]
    simp only [Int.toNat_natCast, run_askRoom, Result.andThen_ok, r_size hn, Sem.run_bind]
    have h0 : ¬ q * 1 = 0 := by omega
    simp only [h0, if_false, Sem.run_bind, hz2, Sem.run_pure, Result.andThen_ok, newRow, run_newObj]
  refine EGoal.mk (by simp [execOp, hop]) hrun (m' := m.add H.n ⟨w.heap.size, 0, 0⟩) ?_ ?_ ⟨rfl, rfl, rfl⟩
  · simp only [VR]; exact ⟨_, q, q, Emb.add_same _ _ _, hq, rfl, Nat.le_refl _, hq0⟩
  · refine new_os c.w hq hq0 (by simp) fun j hj => ?_
    have hsize : ((Array.range (q * 1)).map (fun i => vz.cells[i % vz.cells.size]!)).size = q := by simp
    have hjv : ((Array.range (q * 1)).map (fun i => vz.cells[i % vz.cells.size]!))[j]? = some (((Array.range (q * 1)).map (fun i => vz.cells[i % vz.cells.size]!))[j]'(by omega)) := Array.getElem?_eq_getElem (by omega)
    obtain ⟨y, h10, h11⟩ := hzs.back (i := j) (by rw [Array.getElem?_toList]; exact hjv)
    rw [zeros_all q j y h10] at h11
    simp only [VR] at h11
    exact ⟨0, by rw [hjv, h11]⟩

theorem isNo_some {v : AV} (h : isNo v = true) : ∃ b o, v = .sl b o 0 0 true := by
  unfold isNo at h
  cases hv : onSl (some false) (fun _ _ len cap ex => some (Nat.beq len 0 && Nat.beq cap 0 && ex)) v with
  | none => rw [hv] at h; cases h
  | some r =>
    rw [hv] at h
    have hr : r = true := h
    subst hr
    rcases onSl_some hv with ⟨_, h1⟩ | ⟨b, o, len, cap, ex, rfl, h1⟩
    · cases h1
    · have h2 : (Nat.beq len 0 && Nat.beq cap 0 && ex) = true := Option.some.inj h1
      simp only [Bool.and_eq_true] at h2
      rw [Nat.eq_of_beq_eq_true h2.1.1, Nat.eq_of_beq_eq_true h2.1.2, h2.2]
      exact ⟨b, o, rfl⟩

theorem sym_ap (c : Ctx P ifts F ρ m T H a.tmps w.heap) {k : Call} {t u e : TypeId} {n b : Nat} {z : List AV} {ax ay : AOpd} {v : AV} (hop : o.op = .call k) (hb : k.callee = .builtin .append) (hargs : copds k.args.toList = some [ax, ay])
    (ht0 : k.argTypes[0]? = some t) (ht : P.underlying t = some (.slice e)) (hz : tzc P e = some z) (hn : tsize P e = some n) (hby : tbytes P e = some b) (hc : 0 < n ∧ z.length = n ∧ 0 < b ∧ b ≤ 1000000)
    (hu0 : k.argTypes[1]? = some u) (hu : (∃ e', P.underlying u = some (.slice e')) ∨ P.underlying u = some .string)
    (h : s_ap n ax ay F T H = some (v, H')) : EGoal P ifts ρ m H a w o v H' := by
  obtain ⟨x, y, hl, hx, hy⟩ := copds_two hargs
  obtain ⟨hn1, h1⟩ := orN_some h
  have hn1 : n = 1 := Nat.eq_of_beq_eq_true hn1
  subst hn1
  obtain ⟨us, h2, h3⟩ := bd_some h1
  obtain ⟨uv, h4, h5⟩ := bd_some h3
  obtain ⟨h6, h7⟩ := orN_some h5
  obtain ⟨b0, o0, rfl⟩ := isNo_some h6
  rcases onSx_some h7 with ⟨bb, kk, rfl, h8⟩ | ⟨_, h8⟩
  case inr => cases h8
  obtain ⟨ob, h9, h10⟩ := bd_some h8
  obtain ⟨k', rfl, h11⟩ := onOs_some h10
  obtain ⟨h12, h13⟩ := orN_some h11
  have hkk : kk = k' := Nat.eq_of_beq_eq_true h12
  subst hkk
  obtain ⟨hsz, rfl, rfl⟩ := mkSx_some h13
  obtain ⟨q, hq, hq0, hq1⟩ := c.f.sz kk hsz
  obtain ⟨i, vz, g1, g2, g3, g4⟩ := tzc_some c.one hz
  have e1 := tsize_of hn g1
  have e2 := tbytes_some hby g1
  have hs := opd_ok c.t hx h2
  have hv := opd_ok c.t hy h4
  simp only [VR] at hs hv
  obtain ⟨eb, o', c', hm, hs, _, hcap, _⟩ := hs
  simp at hcap
  subst hcap
  obtain ⟨es, n', c2, hm2, hk2, hv, hnc, _⟩ := hv
  have hnq : n' = q := by rw [hq] at hk2; injection hk2 with _ h'; omega
  subst hnq
  obtain ⟨C, el, n2, hbk, hk3, hsize, _, hbytes⟩ := c.w.ob bb _ es h9 hm2
  have hn2 : n2 = n' := by rw [hq] at hk3; injection hk3 with _ h'; omega
  subst hn2
  -- the bytes that are there
  have hV : ∃ V : List Value, V.length = n2 ∧ (∀ (j : Nat) v, V[j]? = some v → C[es.o + j]? = some v) ∧ ∀ j, j < n2 → ∃ x, V[j]? = some (.int .u8 x) := by
    refine ⟨(List.range n2).map fun j => C.getD (es.o + j) undef, by simp, fun j v hj => ?_, fun j hj => ?_⟩
    · rw [List.getElem?_map] at hj
      have hjn : j < n2 := by
        rcases Nat.lt_or_ge j n2 with h | h
        · exact h
        · simp [List.getElem?_eq_none (show (List.range n2).length ≤ j by simpa using h)] at hj
      obtain ⟨x, hx⟩ := hbytes j hjn
      simp [hjn, Array.getD_eq_getD_getElem?, hx] at hj
      rw [hx, hj]
    · obtain ⟨x, hx⟩ := hbytes j hj
      exact ⟨x, by simp [hj, Array.getD_eq_getD_getElem?, hx]⟩
  obtain ⟨V, hVl, hVc, hVb⟩ := hV
  have hA : Apd P k.argTypes vz.cells i.size (a.eval y) n2 V w.heap := by
    refine .inl ⟨⟨u, hu0, hu⟩, fun w1 => by rw [hv]; simp [Builtin.lenOf], fun w1 hw1 => ?_⟩
    rw [hv, e1]
    simp only [Builtin.firstCells, Nat.mul_one]
    exact r_loadCells (w := w1) (by rw [hw1]; exact hbk) es.o n2 hVl hVc
  obtain ⟨K, hK, hrun⟩ := r_append_grow (w := w) (ty := o.type) ht0 ht g1 g2 (by rw [e2]; exact hc.2.2.2) (base := some ⟨eb.b, o', none⟩) (sLen := 0) (sCap := 0) (O := []) hA (by omega) (by omega) (fun w1 _ => by simp [Builtin.firstCells, loadCells, loadCellsFrom])
  rw [← hs] at hrun
  refine EGoal.bi (s := fun ty => Builtin.append_ k.argTypes ty #[a.eval x, a.eval y]) hop hb (fun cs => by rw [args_two hl]; rfl) hrun (m' := m.add H.n ⟨w.heap.size, 0, 0⟩) ?_ ?_ ⟨rfl, rfl, rfl⟩
  · simp only [VR]; exact ⟨_, n2, K, Emb.add_same _ _ _, hq, by simp, by omega, hq0⟩
  · refine new_os c.w hq hq0 ?_ fun j hj => ?_
    · simp [hVl]
    · obtain ⟨x, hx⟩ := hVb j hj
      refine ⟨x, ?_⟩
      simp only [List.toArray, Array.empty_append]
      rw [Array.getElem?_append_left (by simp [hVl]; omega)]
      simpa using hx

/-- the operations that know slices whose length has a name -/
noncomputable def symOp (op : AOp) (F : Facts) (T : Tr AV) (H : AH) : Option (AV × AH) := match op with
  | .mks n b z x y => s_mks n b z x y F T H
  | .ap n x y => s_ap n x y F T H
  | _ => none

theorem sym_ok (c : Ctx P ifts F ρ m T H a.tmps w.heap) {op : AOp} (h : cop P ifts o = some op) {v : AV} (hp : symOp op F T H = some (v, H')) : EGoal P ifts ρ m H a w o v H' := by
  unfold cop at h
  split at h
  case h_1 => obtain ⟨ax, h1, h2⟩ := bd_some h; cases h2; exact (no_ hp).elim
  case h_2 => obtain ⟨ax, h1, h2⟩ := bd_some h; cases h2; exact (no_ hp).elim
  case h_3 =>
    obtain ⟨ax, h1, h2⟩ := bd_some h
    obtain ⟨ay, h3, h4⟩ := bd_some h2
    obtain ⟨az, h5, h6⟩ := bd_some h4
    cases h6; exact (no_ hp).elim
  case h_4 e heq =>
    obtain ⟨z, h1, h2⟩ := bd_some h
    cases h2; exact (no_ hp).elim
  case h_5 e x heq =>
    obtain ⟨ax, h1, h2⟩ := bd_some h
    cases h2; exact (no_ hp).elim
  case h_6 =>
    obtain ⟨d, h1, h2⟩ := bd_some h
    split at h2
    · obtain ⟨z, h3, h4⟩ := bd_some h2
      obtain ⟨pl, h5, h6⟩ := bd_some h4
      obtain ⟨r, h7, h8⟩ := bd_some h6
      cases h8; exact (no_ hp).elim
    · obtain ⟨z, h3, h4⟩ := bd_some h2
      obtain ⟨n, h5, h6⟩ := bd_some h4
      obtain ⟨r, h7, h8⟩ := bd_some h6
      cases h8; exact (no_ hp).elim
    · cases h2
  case h_7 t len ps heq =>
    obtain ⟨d, h1, h2⟩ := bd_some h
    split at h2
    · obtain ⟨z, h3, h4⟩ := bd_some h2
      obtain ⟨n, h5, h6⟩ := bd_some h4
      obtain ⟨r, h7, h8⟩ := bd_some h6
      split at h8
      · cases h8; exact (no_ hp).elim
      · cases h8
    · cases h2
  case h_8 =>
    obtain ⟨ax, h1, h2⟩ := bd_some h
    obtain ⟨g, h3, h4⟩ := bd_some h2
    obtain ⟨n, h5, h6⟩ := bd_some h4
    cases g <;> cases h6 <;> exact (no_ hp).elim
  case h_9 t x y heq =>
    obtain ⟨ax, h1, h2⟩ := bd_some h
    obtain ⟨ay, h3, h4⟩ := bd_some h2
    obtain ⟨n, h5, h6⟩ := bd_some h4
    cases h6; exact (no_ hp).elim
  case h_10 => obtain ⟨ax, h1, h2⟩ := bd_some h; cases h2; exact (no_ hp).elim
  case h_11 =>
    obtain ⟨ax, h1, h2⟩ := bd_some h
    obtain ⟨ay, h3, h4⟩ := bd_some h2
    obtain ⟨u, h5, h6⟩ := bd_some h4
    split at h6
    · cases h6; exact (no_ hp).elim
    · cases h6; exact (no_ hp).elim
    · obtain ⟨q, h7, h8⟩ := bd_some h6
      cases h8; exact (no_ hp).elim
    · obtain ⟨q, h7, h8⟩ := bd_some h6
      cases h8; exact (no_ hp).elim
    · cases h6
  case h_12 => obtain ⟨ax, h1, h2⟩ := bd_some h; cases h2; exact (no_ hp).elim
  case h_13 s d x heq =>
    obtain ⟨ax, h1, h2⟩ := bd_some h
    obtain ⟨us, h3, h4⟩ := bd_some h2
    obtain ⟨ud, h5, h6⟩ := bd_some h4
    split at h6
    · cases h6; exact (no_ hp).elim
    · cases h6; exact (no_ hp).elim
    · obtain ⟨ue, h7, h8⟩ := bd_some h6
      split at h8
      · cases h8; exact (no_ hp).elim
      · cases h8
    · obtain ⟨ue, h7, h8⟩ := bd_some h6
      split at h8
      · cases h8; exact (no_ hp).elim
      · cases h8
    · cases h6
  case h_14 =>
    obtain ⟨ax, h1, h2⟩ := bd_some h
    obtain ⟨d, h3, h4⟩ := bd_some h2
    split at h4
    · cases h4
    · cases h4; exact (no_ hp).elim
  case h_15 =>
    obtain ⟨af, h1, h2⟩ := bd_some h
    obtain ⟨ak, h3, h4⟩ := bd_some h2
    cases h4; exact (no_ hp).elim
  case h_16 t heq => cases h; exact (no_ hp).elim
  case h_17 t kk n heq =>
    obtain ⟨d, h1, h2⟩ := bd_some h
    split at h2
    · cases h2; exact (no_ hp).elim
    · cases h2
  case h_18 t x y heq =>
    obtain ⟨ax, h1, h2⟩ := bd_some h
    obtain ⟨ay, h3, h4⟩ := bd_some h2
    obtain ⟨u, h5, h6⟩ := bd_some h4
    split at h6
    · obtain ⟨z, h7, h8⟩ := bd_some h6
      obtain ⟨n, h9, h10⟩ := bd_some h8
      obtain ⟨b, h11, h12⟩ := bd_some h10
      split at h12
      · rename_i hc
        cases h12; exact sym_mks c heq h1 h3 h5 h7 h9 h11 hp
      · cases h12
    · cases h6
  case h_19 t x lo hi mx heq =>
    obtain ⟨ax, h1, h2⟩ := bd_some h
    obtain ⟨alo, h3, h4⟩ := bd_some h2
    obtain ⟨ahi, h5, h6⟩ := bd_some h4
    obtain ⟨amx, h7, h8⟩ := bd_some h6
    obtain ⟨_, h9, h10⟩ := bd_some h8
    obtain ⟨u, h11, h12⟩ := bd_some h10
    split at h12
    · obtain ⟨k, h13, h14⟩ := bd_some h12
      cases h14; exact (no_ hp).elim
    · obtain ⟨k, h13, h14⟩ := bd_some h12
      cases h14; exact (no_ hp).elim
    · split at h12
      · cases h12; exact (no_ hp).elim
      · cases h12
    · obtain ⟨r, h13, h14⟩ := bd_some h12
      split at h14
      · obtain ⟨k, h15, h16⟩ := bd_some h14
        cases h16; exact (no_ hp).elim
      · cases h14
    · cases h12
  case h_20 =>
    obtain ⟨ax, h1, h2⟩ := bd_some h
    obtain ⟨u, h3, h4⟩ := bd_some h2
    split at h4
    · obtain ⟨fd, h5, h6⟩ := bd_some h4
      obtain ⟨n, h7, h8⟩ := bd_some h6
      cases n with
      | zero => cases h8
      | succ n => cases h8; exact (no_ hp).elim
    · cases h4
  case h_21 =>
    obtain ⟨ax, h1, h2⟩ := bd_some h
    obtain ⟨u, h3, h4⟩ := bd_some h2
    split at h4
    · obtain ⟨fd, h5, h6⟩ := bd_some h4
      obtain ⟨n, h7, h8⟩ := bd_some h6
      obtain ⟨g, h9, h10⟩ := bd_some h8
      cases h10; exact (no_ hp).elim
    · cases h4
  case h_22 =>
    obtain ⟨ax, h1, h2⟩ := bd_some h
    obtain ⟨ai, h3, h4⟩ := bd_some h2
    obtain ⟨u, h5, h6⟩ := bd_some h4
    split at h6
    · obtain ⟨k, h7, h8⟩ := bd_some h6
      cases h8; exact (no_ hp).elim
    · obtain ⟨k, h7, h8⟩ := bd_some h6
      cases h8; exact (no_ hp).elim
    · cases h6
  case h_23 =>
    obtain ⟨ax, h1, h2⟩ := bd_some h
    obtain ⟨ai, h3, h4⟩ := bd_some h2
    obtain ⟨u, h5, h6⟩ := bd_some h4
    split at h6
    · obtain ⟨k, h7, h8⟩ := bd_some h6
      obtain ⟨g, h9, h10⟩ := bd_some h8
      cases h10; exact (no_ hp).elim
    · cases h6; exact (no_ hp).elim
    · cases h6
  case h_24 =>
    obtain ⟨ax, h1, h2⟩ := bd_some h
    obtain ⟨ai, h3, h4⟩ := bd_some h2
    obtain ⟨u, h5, h6⟩ := bd_some h4
    split at h6
    · obtain ⟨q, h7, h8⟩ := bd_some h6
      obtain ⟨z, h9, h10⟩ := bd_some h8
      cases h10; exact (no_ hp).elim
    · cases h6
  case h_25 t x y z heq =>
    obtain ⟨am, h1, h2⟩ := bd_some h
    obtain ⟨ak, h3, h4⟩ := bd_some h2
    obtain ⟨av, h5, h6⟩ := bd_some h4
    obtain ⟨u, h7, h8⟩ := bd_some h6
    split at h8
    · obtain ⟨q, h9, h10⟩ := bd_some h8
      cases h10; exact (no_ hp).elim
    · cases h8
  case h_26 t x y z heq =>
    obtain ⟨am, h1, h2⟩ := bd_some h
    obtain ⟨ak, h3, h4⟩ := bd_some h2
    obtain ⟨av, h5, h6⟩ := bd_some h4
    obtain ⟨u, h7, h8⟩ := bd_some h6
    split at h8
    · obtain ⟨q, h9, h10⟩ := bd_some h8
      cases h10; exact (no_ hp).elim
    · cases h8
  case h_27 t x y heq =>
    obtain ⟨am, h1, h2⟩ := bd_some h
    obtain ⟨ak, h3, h4⟩ := bd_some h2
    obtain ⟨u, h7, h8⟩ := bd_some h4
    split at h8
    · obtain ⟨q, h9, h10⟩ := bd_some h8
      obtain ⟨z, h11, h12⟩ := bd_some h10
      cases h12; exact (no_ hp).elim
    · cases h8
  case h_28 t x y z heq =>
    obtain ⟨am, h1, h2⟩ := bd_some h
    obtain ⟨ak, h3, h4⟩ := bd_some h2
    obtain ⟨av, h5, h6⟩ := bd_some h4
    cases h6; exact (no_ hp).elim
  case h_29 t x heq =>
    obtain ⟨ax, h1, h2⟩ := bd_some h
    obtain ⟨u, h3, h4⟩ := bd_some h2
    split at h4
    · cases h4; exact (no_ hp).elim
    · cases h4; exact (no_ hp).elim
    · cases h4
  case h_30 x s heq =>
    obtain ⟨ax, h1, h2⟩ := bd_some h
    cases s with
    | true => cases h2; exact (no_ hp).elim
    | false => cases h2; exact (no_ hp).elim
  case h_31 => obtain ⟨ax, h1, h2⟩ := bd_some h; cases h2; exact (no_ hp).elim
  case h_32 => obtain ⟨ax, h1, h2⟩ := bd_some h; cases h2; exact (no_ hp).elim
  case h_33 k heq =>
    obtain ⟨args, h1, h2⟩ := bd_some h
    split at h2
    · cases h2; exact (no_ hp).elim
    · obtain ⟨f, h3, h4⟩ := bd_some h2
      cases h4; exact (no_ hp).elim
    · obtain ⟨r, h3, h4⟩ := bd_some h2
      obtain ⟨ms, h5, h6⟩ := bd_some h4
      cases h6; exact (no_ hp).elim
    · rename_i b hb
      unfold cop.cbuiltin at h2
      split at h2
      · obtain ⟨t, h3, h4⟩ := bd_some h2
        obtain ⟨u, h5, h6⟩ := bd_some h4
        split at h6
        · cases h6; exact (no_ hp).elim
        · cases h6; exact (no_ hp).elim
        · cases h6; exact (no_ hp).elim
        · obtain ⟨r, h7, h8⟩ := bd_some h6
          split at h8
          · cases h8; exact (no_ hp).elim
          · cases h8
        · cases h6; exact (no_ hp).elim
        · cases h6
      · obtain ⟨t, h3, h4⟩ := bd_some h2
        obtain ⟨u, h5, h6⟩ := bd_some h4
        split at h6
        · cases h6; exact (no_ hp).elim
        · cases h6
      · cases h2; exact (no_ hp).elim
      · cases h2; exact (no_ hp).elim
      · obtain ⟨t, h3, h4⟩ := bd_some h2
        obtain ⟨u, h5, h6⟩ := bd_some h4
        split at h6
        · obtain ⟨z, h7, h8⟩ := bd_some h6
          obtain ⟨n, h9, h10⟩ := bd_some h8
          obtain ⟨by', h11, h12⟩ := bd_some h10
          split at h12
          · rename_i hc
            obtain ⟨tt, h15, h16⟩ := bd_some h12
            obtain ⟨uu, h13, h14⟩ := bd_some h16
            split at h14
            · cases h14; exact (no_ hp).elim
            · cases h14; exact sym_ap c heq hb h1 h3 h5 h7 h9 h11 hc h15 (.inl ⟨_, h13⟩) hp
            · cases h14; exact sym_ap c heq hb h1 h3 h5 h7 h9 h11 hc h15 (.inr h13) hp
            · cases h14
          · cases h12
        · cases h6
      · obtain ⟨t, h3, h4⟩ := bd_some h2
        obtain ⟨u, h5, h6⟩ := bd_some h4
        split at h6
        · obtain ⟨n, h9, h10⟩ := bd_some h6
          cases h10; exact (no_ hp).elim
        · cases h6
      · obtain ⟨t, h3, h4⟩ := bd_some h2
        obtain ⟨u, h5, h6⟩ := bd_some h4
        split at h6
        · obtain ⟨z, h7, h8⟩ := bd_some h6
          obtain ⟨n, h9, h10⟩ := bd_some h8
          split at h10
          · rename_i hc
            cases h10; exact (no_ hp).elim
          · cases h10
        · cases h6; exact (no_ hp).elim
        · cases h6
      · obtain ⟨t, h3, h4⟩ := bd_some h2
        obtain ⟨u, h5, h6⟩ := bd_some h4
        split at h6
        · obtain ⟨q, h9, h10⟩ := bd_some h6
          cases h10; exact (no_ hp).elim
        · cases h6
      · cases h2
  case h_34 => cases h
end
end Go.Ev

