/-
  The abstract evaluator: each operation that leaves the heap alone yields what was reckoned.
  Conditions: none beyond those that each theorem names.
-/
import Derived.Test.YtnkfegnbddmebaaGreatXaEvB
import GoSem.Dispatch
import Derived.Laws.StructEq
import Derived.Laws.Concat
import Derived.Laws.Strings2
import Derived.Laws.Tables
import Derived.Laws.Build
import Derived.Laws.BytesString
import Derived.Laws.Strings
import Derived.MapKept
namespace Go.Ev
open Go

mutual
theorem veq_eq : ∀ {a b : AV}, veq a b = true → a = b
  | .b _, b, h => by cases b <;> simp_all [veq]
  | .i k n, b, h => by
    cases b <;> simp [veq] at h
    rename_i k' n'
    rw [kbeq_eq h.1, show n = n' by simpa [ieq_eq] using h.2]
  | .s _, b, h => by cases b <;> simp_all [veq]
  | .np, b, h => by cases b <;> simp_all [veq]
  | .p _ _, b, h => by cases b <;> simp_all [veq]
  | .nsl, b, h => by cases b <;> simp_all [veq]
  | .sl _ _ _ _ _, b, h => by cases b <;> simp_all [veq]
  | .nm, b, h => by cases b <;> simp_all [veq]
  | .mp _, b, h => by cases b <;> simp_all [veq]
  | .nf, b, h => by cases b <;> simp_all [veq]
  | .fn _ _ _, b, h => by
    cases b <;> simp [veq] at h
    obtain ⟨⟨h1, h2⟩, h3⟩ := h
    rw [h1, veqs_eq h2, veqs_eq h3]
  | .yl _, b, h => by cases b <;> simp_all [veq]
  | .ni, b, h => by cases b <;> simp_all [veq]
  | .ifc _ _, b, h => by
    cases b <;> simp [veq] at h
    rw [h.1, veq_eq h.2]
  | .agg _, b, h => by
    cases b <;> simp [veq] at h
    rw [veqs_eq h]
  | .tup _, b, h => by
    cases b <;> simp [veq] at h
    rw [veqs_eq h]
  | .x _, b, h => by cases b <;> simp_all [veq]
  | .sx _ _, b, h => by cases b <;> simp_all [veq]
theorem veqs_eq : ∀ {a b : List AV}, veqs a b = true → a = b
  | [], b, h => by cases b <;> simp_all [veqs]
  | _ :: _, b, h => by
    cases b with
    | nil => simp [veqs] at h
    | cons _ _ =>
      simp [veqs] at h
      rw [veq_eq h.1, veqs_eq h.2]
end

/-- the facts hold -/
structure FOk (P : Program) (F : Facts) (ρ : Nat → Value) : Prop where
  bin : ∀ op a b r, (op, a, b, r) ∈ F.bin → ∀ m va vb, VR ρ m a va → VR ρ m b vb →
    (∃ k n k' n', va = .int k n ∧ vb = .int k' n') ∧ ∃ vr, VR ρ m r vr ∧ ∀ t (w : World), (binOp op t va vb).run P w = .ok vr w
  len : ∀ k r, (k, r) ∈ F.len → ∃ x n c, ρ k = .slice x n c ∧ ∀ m, VR ρ m r (.int .i64 (n : Int))
  ia : ∀ e s i r, (e, s, i, r) ∈ F.ia → ∀ m vs vi, VR ρ m s vs → VR ρ m i vi → ∃ vr, VR ρ m r vr ∧ ∀ (t e' : TypeId) (w : World), P.underlying t = some (.slice e') → tsize P e' = some e → (Instr.indexAt t vs vi).run P w = .ok vr w
  fa : ∀ k off r, (k, off, r) ∈ F.fa → ∃ B o, ρ k = .pointer (some ⟨B, o, none⟩) ∧ ρ r = .pointer (some ⟨B, o + off, none⟩)
  sz : ∀ k, k ∈ F.sz → ∃ n : Nat, ρ k = .int .i64 (n : Int) ∧ 0 < n ∧ n < 1000000

/-- what lies at a place that nobody turns -/
def LdAt (ρ : Nat → Value) (C : Array Value) (o : Nat) : AV → Prop
  | .agg l => allSingle l = true ∧ ∃ vs : List Value, vs.length = l.length ∧ (∀ (j : Nat) v, vs[j]? = some v → C[o + j]? = some v) ∧ ∀ m, VRs ρ m l vs
  | a => ∃ v, C[o]? = some v ∧ ∀ m, VR ρ m a v

/-- places that nobody turns -/
def Fz (F : Facts) (ρ : Nat → Value) (m : Emb) (H : AH) (hp : Array Obj) : Prop :=
  ∀ k v, (k, v) ∈ F.ld → ∃ B o C el fr, ρ k = .pointer (some ⟨B, o, none⟩) ∧ hp[B]? = some (.cells C el fr) ∧ LdAt ρ C o v ∧ ∀ b ob e, H.get b = some ob → m b = some e → e.b ≠ B

theorem FOk.nil (P : Program) (ρ : Nat → Value) : FOk P {} ρ := ⟨fun _ _ _ _ h => (by simp at h), fun _ _ h => (by simp at h), fun _ _ _ _ h => (by simp at h), fun _ _ _ h => (by simp at h), fun _ h => (by simp at h)⟩

theorem Fz.step {P : Program} {ifts : List TypeId} {F : Facts} {ρ : Nat → Value} {m m' : Emb} {H H' : AH} {hp hp' : Array Obj} (h : Fz F ρ m H hp) (st : St P ifts ρ m H hp m' H' hp') : Fz F ρ m' H' hp' := fun k v hk => by
  obtain ⟨B, o, C, el, fr, h1, h2, h3, h4⟩ := h k v hk
  have hlt : B < hp.size := (Array.getElem?_eq_some_iff.1 h2).1
  refine ⟨B, o, C, el, fr, h1, (st.fr B hlt h4).trans h2, h3, fun b ob e hb hm he => ?_⟩
  rcases st.ow b ob e hb hm with g | ⟨b0, o0, e0, g1, g2, g3⟩
  · omega
  · exact h4 b0 o0 e0 g1 g2 (g3.trans he)

theorem Fz.nil {F : Facts} {ρ : Nat → Value} {m : Emb} {H : AH} {hp : Array Obj} (h : F.ld = []) : Fz F ρ m H hp := fun k v hk => by rw [h] at hk; cases hk

structure Ctx (P : Program) (ifts : List TypeId) (F : Facts) (ρ : Nat → Value) (m : Emb) (T : Tr AV) (H : AH) (tmps : Array Value) (hp : Array Obj) : Prop where
  t : TR ρ m T tmps
  w : WR P ifts ρ m H hp
  one : One ρ
  f : FOk P F ρ
  z : Fz F ρ m H hp

section
variable {P : Program} {ifts : List TypeId} {F : Facts} {ρ : Nat → Value} {m : Emb} {T : Tr AV} {H : AH} {a : Act} {w : World} {o : Oper}

theorem findLen_mem {k : Nat} {r : AV} : ∀ {l : List (Nat × AV)}, findLen k l = some r → (k, r) ∈ l
  | [], h => by cases h
  | (j, v) :: l, h => by
    unfold findLen at h
    cases hb : Nat.beq j k with
    | true =>
      rw [hb] at h
      cases h
      rw [Nat.eq_of_beq_eq_true hb]; simp
    | false =>
      rw [hb] at h
      exact List.mem_cons_of_mem _ (findLen_mem (show findLen k l = some r from h))

theorem findIa_mem {e : Nat} {s i r : AV} : ∀ {l : List (Nat × AV × AV × AV)}, findIa e s i l = some r → (e, s, i, r) ∈ l
  | [], h => by cases h
  | (e', a, b, v) :: l, h => by
    unfold findIa at h
    cases hb : (Nat.beq e' e && veq a s && veq b i) with
    | true =>
      rw [hb] at h
      cases h
      simp only [Bool.and_eq_true] at hb
      rw [Nat.eq_of_beq_eq_true hb.1.1, veq_eq hb.1.2, veq_eq hb.2]; simp
    | false =>
      rw [hb] at h
      exact List.mem_cons_of_mem _ (findIa_mem (show findIa e s i l = some r from h))

theorem findFa_mem {k off : Nat} {v : AV} : ∀ {l : List (Nat × Nat × Nat)}, findFa k off l = some v → ∃ r, v = .x r ∧ (k, off, r) ∈ l
  | [], h => by cases h
  | (j, o, r) :: l, h => by
    unfold findFa at h
    cases hb : (Nat.beq j k && Nat.beq o off) with
    | true =>
      rw [hb] at h
      cases h
      simp only [Bool.and_eq_true] at hb
      rw [Nat.eq_of_beq_eq_true hb.1, Nat.eq_of_beq_eq_true hb.2]
      exact ⟨r, rfl, by simp⟩
    | false =>
      rw [hb] at h
      obtain ⟨r', h1, h2⟩ := findFa_mem (show findFa k off l = some v from h)
      exact ⟨r', h1, List.mem_cons_of_mem _ h2⟩

/-- what a row's cell is -/
theorem cell_of {hp : Array Obj} (hw : WR P ifts ρ m H hp) {b : Nat} {l : List AV} {es fl : Nat} (h : H.get b = some (.cells l es fl)) {e : MB} (hm : m b = some e) :
    ∃ C el fr, hp[e.b]? = some (.cells C el fr) ∧ e.o + l.length + e.x * es ≤ C.size ∧
      (∀ (i : Nat) a, l[i]? = some a → single a = true ∧ ∃ v, C[e.o + i]? = some v ∧ VR ρ m a v) ∧ (fl ≠ 2 → ∀ j, j < C.size → ¬ (fr.1 ≤ j ∧ j < fr.2)) ∧ (fl = 0 → fr = (0, 0)) :=
  hw.ob b _ e h hm

theorem row_some {b : Nat} {l : List AV} (h : row H b = some l) : ∃ es fl, H.get b = some (.cells l es fl) := by
  obtain ⟨o, h1, h2⟩ := bd_some h
  cases o <;> first
    | (cases h2; exact ⟨_, _, h1⟩)
    | exact absurd (show (none : Option (List AV)) = some l from h2) (by simp)

theorem cell?_of {C : Array Value} {el : TypeId} {fr : Nat × Nat} {B j : Nat} (h : w.heap[B]? = some (.cells C el fr)) : w.cell? ⟨B, j, none⟩ = C[j]? := by
  simp [World.cell?, h]

theorem r_load {C : Array Value} {el : TypeId} {fr : Nat × Nat} {B j : Nat} {v : Value} (h : w.heap[B]? = some (.cells C el fr)) (hv : C[j]? = some v) :
    (load ⟨B, j, none⟩).run P w = .ok v w := by
  simp [run_load, cell?_of h, hv]

theorem r_loadCellsFrom {C : Array Value} {el : TypeId} {fr : Nat × Nat} {B : Nat} (h : w.heap[B]? = some (.cells C el fr)) (o : Nat) :
    ∀ (n i : Nat) (acc : Array Value) (vs : List Value), vs.length = n → (∀ (j : Nat) v, vs[j]? = some v → C[o + (i + j)]? = some v) →
      (loadCellsFrom ⟨B, o, none⟩ i n acc).run P w = .ok (acc ++ vs.toArray) w := by
  intro n
  induction n with
  | zero => intro i acc vs hl _; have : vs = [] := List.length_eq_zero_iff.1 hl; subst this; simp [loadCellsFrom]
  | succ n ih =>
    intro i acc vs hl hv
    cases vs with
    | nil => simp at hl
    | cons v vs =>
      have h0 := hv 0 v (by simp)
      have ha : (⟨B, o, none⟩ : Addr).add i = ⟨B, o + i, none⟩ := by
        unfold Addr.add; split
        · rename_i hi; subst hi; rfl
        · rfl
      simp only [loadCellsFrom, Sem.run_bind, ha]
      rw [r_load h (by simpa using h0)]
      simp only [Result.andThen_ok]
      rw [ih (i + 1) (acc.push v) vs (by simpa using hl) (fun j v' hj => by
        have := hv (j + 1) v' (by simpa using hj)
        rwa [show i + (j + 1) = i + 1 + j from by omega] at this)]
      simp

theorem r_loadCells {C : Array Value} {el : TypeId} {fr : Nat × Nat} {B : Nat} (h : w.heap[B]? = some (.cells C el fr)) (o n : Nat) {vs : List Value} (hl : vs.length = n)
    (hv : ∀ (j : Nat) v, vs[j]? = some v → C[o + j]? = some v) : (loadCells ⟨B, o, none⟩ n).run P w = .ok vs.toArray w := by
  unfold loadCells
  rw [r_loadCellsFrom h o n 0 #[] vs hl (fun j v hj => by simpa using hv j v hj)]
  simp

/-- a cut of a row: the cells behind it -/
theorem cut_cells {hp : Array Obj} (hw : WR P ifts ρ m H hp) {b : Nat} {l r : List AV} {es fl : Nat} (h : H.get b = some (.cells l es fl)) {e : MB} (hm : m b = some e) {o n : Nat} (hc : cut l o n = some r) :
    ∃ C el fr vs, hp[e.b]? = some (.cells C el fr) ∧ vs.length = n ∧ (∀ (j : Nat) v, vs[j]? = some v → C[e.o + o + j]? = some v) ∧ VRs ρ m r vs ∧ allSingle r = true := by
  obtain ⟨C, el, fr, h1, h2, h3, h4⟩ := cell_of hw h hm
  obtain ⟨e1, e2⟩ := cut_some hc
  have g : ∀ i, (hi : i < n) → ∃ v, C[e.o + o + i]? = some v ∧ ∀ a, r[i]? = some a → VR ρ m a v := fun i hi => by
    have hr : r[i]? = some (r[i]'(by omega)) := List.getElem?_eq_getElem (by omega)
    obtain ⟨_, v, h5, h6⟩ := h3 (o + i) _ ((e2 i hi).symm.trans hr)
    refine ⟨v, by rw [Nat.add_assoc]; exact h5, fun a ha => ?_⟩
    rw [hr] at ha; cases ha; exact h6
  refine ⟨C, el, fr, (List.range n).map fun i => C.getD (e.o + o + i) undef, h1, by simp, ?_, ?_, ?_⟩
  · intro j v hj
    rw [List.getElem?_map] at hj
    have hjn : j < n := by
      rcases Nat.lt_or_ge j n with h | h
      · exact h
      · simp [List.getElem?_eq_none (show (List.range n).length ≤ j by simpa using h)] at hj
    obtain ⟨v', h5, _⟩ := g j hjn
    simp [hjn, Array.getD_eq_getD_getElem?, h5] at hj
    rw [h5, hj]
  · refine VRs.of_get (by simp [e1]) fun i a hi => ?_
    have hin : i < n := by rw [← e1]; exact (List.getElem?_eq_some_iff.1 hi).1
    obtain ⟨v', h5, h6⟩ := g i hin
    exact ⟨v', by simp [hin, Array.getD_eq_getD_getElem?, h5], h6 a hi⟩
  · refine allSingle_of fun i a hi => ?_
    have hin : i < n := by rw [← e1]; exact (List.getElem?_eq_some_iff.1 hi).1
    exact (h3 (o + i) a ((e2 i hin).symm.trans hi)).1

theorem inn_some {top k : Nat} {v : AV} (h : inn top v = some k) : ∃ kd, v = .i kd (Int.ofNat k) ∧ k < top := by
  obtain ⟨kd, q, rfl, h8⟩ := onI_some h
  cases q with
  | negSucc _ => exact absurd (show (none : Option Nat) = some k from h8) (by simp)
  | ofNat q =>
    obtain ⟨h9, h10⟩ := orN_some (show orN (Nat.blt q top) (some q) = some k from h8)
    cases h10
    exact ⟨kd, rfl, by simpa using h9⟩

theorem natv_some {top k : Nat} {v : AV} (h : natv top v = some k) : ∃ kd, v = .i kd (Int.ofNat k) ∧ k ≤ top := by
  obtain ⟨kd, q, rfl, h8⟩ := onI_some h
  cases q with
  | negSucc _ => exact absurd (show (none : Option Nat) = some k from h8) (by simp)
  | ofNat q =>
    obtain ⟨h9, h10⟩ := orN_some (show orN (Nat.ble q top) (some q) = some k from h8)
    cases h10
    exact ⟨kd, rfl, Nat.le_of_ble_eq_true h9⟩

/-- what is asked of an operation that leaves the heap alone -/
def PGoal (P : Program) (ρ : Nat → Value) (m : Emb) (a : Act) (w : World) (o : Oper) (v : AV) : Prop :=
  ∃ v', VR ρ m v v' ∧ (execOp a.eval o).run P w = .ok (.value v') w

theorem PGoal.mk {v : AV} {s : Sem Value} (h : execOp a.eval o = (do pure (.value (← s)))) {v' : Value} (hv : VR ρ m v v') (hs : s.run P w = .ok v' w) : PGoal P ρ m a w o v :=
  ⟨v', hv, by rw [h]; simp [hs]⟩

theorem ok_move (c : Ctx P ifts F ρ m T H a.tmps w.heap) {x : Operand} {ax : AOpd} {v : AV} (hop : o.op = .move x ∨ o.op = .assign x) (hx : copd x = some ax) (h : ax.ev T = some v) : PGoal P ρ m a w o v :=
  ⟨_, opd_ok c.t hx h, by rcases hop with hop | hop <;> simp [execOp, hop]⟩

theorem ok_pick (c : Ctx P ifts F ρ m T H a.tmps w.heap) {x y z : Operand} {ax ay az : AOpd} {v : AV} (hop : o.op = .pick x y z) (hx : copd x = some ax) (hy : copd y = some ay) (hz : copd z = some az)
    (h : bd (ax.ev T) (pkV ay az T) = some v) : PGoal P ρ m a w o v := by
  obtain ⟨u, h1, h2⟩ := bd_some h
  obtain ⟨t, rfl, h3⟩ := onB_some h2
  have hu := opd_ok c.t hx h1
  simp only [VR] at hu
  cases t with
  | true => exact ⟨_, opd_ok c.t hy h3, by simp [execOp, hop, hu, asBool]⟩
  | false => exact ⟨_, opd_ok c.t hz h3, by simp [execOp, hop, hu, asBool]⟩

theorem ok_ld (c : Ctx P ifts F ρ m T H a.tmps w.heap) {t : TypeId} {x : Operand} {ax : AOpd} {v : AV} (hop : o.op = .load t x) (hx : copd x = some ax) (hg : tagg P t = some false)
    (h : bd (ax.ev T) (ldV F H) = some v) : PGoal P ρ m a w o v := by
  obtain ⟨u, h1, h2⟩ := bd_some h
  rcases onPX_some h2 with ⟨b, off, rfl, h3⟩ | ⟨k, rfl, h3⟩
  case inr =>
    obtain ⟨u', h4, h5⟩ := bd_some (show bd (findLen k F.ld) _ = some v from h3)
    obtain ⟨h6, h7⟩ := orN_some h5
    obtain rfl : u' = v := Option.some.inj h7
    obtain ⟨B, off, C, el, fr, g1, g2, g3, _⟩ := c.z k _ (findLen_mem h4)
    have hu := opd_ok c.t hx h1
    simp only [VR] at hu
    rw [g1] at hu
    have g4 : ∃ v', C[off]? = some v' ∧ ∀ m, VR ρ m u' v' := by
      cases u' <;> first
        | exact g3
        | (simp [single] at h6; done)
    obtain ⟨v', g4, g5⟩ := g4
    refine PGoal.mk (s := Instr.loadAt t (a.eval x)) (by simp [execOp, hop]) (g5 m) ?_
    simp [Instr.loadAt, Instr.sureAddr, hu, loadVar, r_agg hg, run_load, cell?_of g2, g4]
  obtain ⟨l, h4, h5⟩ := bd_some h3
  rw [lget_eq] at h5
  have hu := opd_ok c.t hx h1
  simp only [VR] at hu
  obtain ⟨e, hm, hu⟩ := hu
  obtain ⟨es, fl, hb⟩ := row_some h4
  obtain ⟨C, el, fr, g1, _, g3, _⟩ := cell_of c.w hb hm
  obtain ⟨_, v', g4, g5⟩ := g3 _ _ h5
  refine PGoal.mk (s := Instr.loadAt t (a.eval x)) (by simp [execOp, hop]) g5 ?_
  simp [Instr.loadAt, Instr.sureAddr, hu, loadVar, r_agg hg, run_load, cell?_of g1, g4]

theorem ok_ldn (c : Ctx P ifts F ρ m T H a.tmps w.heap) {t : TypeId} {n : Nat} {x : Operand} {ax : AOpd} {v : AV} (hop : o.op = .load t x) (hx : copd x = some ax) (hg : tagg P t = some true) (hn : tsize P t = some n)
    (h : bd (ax.ev T) (ldnV F n H) = some v) : PGoal P ρ m a w o v := by
  obtain ⟨u, h1, h2⟩ := bd_some h
  rcases onPX_some h2 with ⟨b, off, rfl, h3⟩ | ⟨k, rfl, h3⟩
  case inr =>
    obtain ⟨u', h4, h5⟩ := bd_some (show bd (findLen k F.ld) _ = some v from h3)
    obtain ⟨l, rfl, h5⟩ := onAgg_some h5
    obtain ⟨h6, h7⟩ := orN_some h5
    cases h7
    have h6 : l.length = n := Nat.eq_of_beq_eq_true h6
    obtain ⟨B, off, C, el, fr, g1, g2, ⟨g3, vs, g4, g5, g6⟩, _⟩ := c.z k _ (findLen_mem h4)
    have hu := opd_ok c.t hx h1
    simp only [VR] at hu
    rw [g1] at hu
    refine PGoal.mk (s := Instr.loadAt t (a.eval x)) (v' := .agg vs.toArray) (by simp [execOp, hop]) ?_ ?_
    · simp only [VR]; exact ⟨_, rfl, by simpa using g6 m, g3⟩
    · simp [Instr.loadAt, Instr.sureAddr, hu, loadVar, r_agg hg, r_size hn, r_loadCells g2 off n (g4.trans h6) g5]
  obtain ⟨l, h4, h5⟩ := bd_some h3
  obtain ⟨r, h6, h7⟩ := bd_some h5
  cases h7
  have hu := opd_ok c.t hx h1
  simp only [VR] at hu
  obtain ⟨e, hm, hu⟩ := hu
  obtain ⟨es, fl, hb⟩ := row_some h4
  obtain ⟨C, el, fr, vs, g1, g2, g3, g4, g5⟩ := cut_cells c.w hb hm h6
  refine PGoal.mk (s := Instr.loadAt t (a.eval x)) (v' := .agg vs.toArray) (by simp [execOp, hop]) ?_ ?_
  · simp only [VR]; exact ⟨_, rfl, by simpa using g4, g5⟩
  · simp [Instr.loadAt, Instr.sureAddr, hu, loadVar, r_agg hg, r_size hn, r_loadCells g1 (e.o + off) n g2 g3]

theorem ok_nc (c : Ctx P ifts F ρ m T H a.tmps w.heap) {x : Operand} {ax : AOpd} {v : AV} (hop : o.op = .nilCheck x) (hx : copd x = some ax) (h : bd (ax.ev T) ncV = some v) : PGoal P ρ m a w o v := by
  obtain ⟨u, h1, h2⟩ := bd_some h
  have hu := opd_ok c.t hx h1
  rcases onNc_some h2 with ⟨b, off, rfl, h3⟩ | ⟨g, f, k, rfl, h3⟩ | ⟨b, rfl, h3⟩ | ⟨t, x', rfl, h3⟩ <;> cases h3 <;> refine ⟨_, hu, ?_⟩ <;> simp only [VR] at hu
  · obtain ⟨e, hm, hu⟩ := hu; simp [execOp, hop, hu]
  · obtain ⟨f', c', hu, _⟩ := hu; simp [execOp, hop, hu]
  · obtain ⟨e, hm, hu⟩ := hu; simp [execOp, hop, hu]
  · obtain ⟨x'', hu, _⟩ := hu; simp [execOp, hop, hu]

theorem ok_fa (c : Ctx P ifts F ρ m T H a.tmps w.heap) {t : TypeId} {fs : Array Field} {f : Nat} {fd : Field} {n : Nat} {x : Operand} {ax : AOpd} {v : AV} (hop : o.op = .fieldAddr t x f) (hx : copd x = some ax)
    (ht : P.underlying t = some (.struct fs)) (hf : fs[f]? = some fd) (hn : tsize P fd.type = some (n + 1)) (h : bd (ax.ev T) (faV F fd.offset) = some v) : PGoal P ρ m a w o v := by
  obtain ⟨u, h1, h2⟩ := bd_some h
  rcases onPX_some h2 with ⟨b, off, rfl, h3⟩ | ⟨k, rfl, h3⟩
  case inr =>
    obtain ⟨r, rfl, h4⟩ := findFa_mem h3
    obtain ⟨B, off, g1, g2⟩ := c.f.fa _ _ _ h4
    have hu := opd_ok c.t hx h1
    simp only [VR] at hu
    rw [g1] at hu
    refine PGoal.mk (s := Instr.fieldAt t (a.eval x) f) (v' := .pointer (some ⟨B, off + fd.offset, none⟩)) (by simp [execOp, hop]) ?_ ?_
    · simp only [VR]; exact g2.symm
    · simp only [Instr.fieldAt, Sem.run_bind, r_und ht, Result.andThen_ok, hf, Instr.sureAddr, hu, Sem.run_pure, fieldPlace, r_size hn]
      simp [Addr.add]
      try (intro h0; simp [h0])
  cases h3
  have hu := opd_ok c.t hx h1
  simp only [VR] at hu
  obtain ⟨e, hm, hu⟩ := hu
  refine PGoal.mk (s := Instr.fieldAt t (a.eval x) f) (v' := .pointer (some ⟨e.b, e.o + (off + fd.offset), none⟩)) (by simp [execOp, hop]) ?_ ?_
  · simp only [VR]; exact ⟨e, hm, rfl⟩
  · simp only [Instr.fieldAt, Sem.run_bind, r_und ht, Result.andThen_ok, hf, Instr.sureAddr, hu, Sem.run_pure, fieldPlace, r_size hn]
    simp [Addr.add]
    split
    · rename_i h0; simp [h0]
    · simp [Nat.add_assoc]

theorem ok_ias (c : Ctx P ifts F ρ m T H a.tmps w.heap) {t e' : TypeId} {n : Nat} {x i : Operand} {ax ai : AOpd} {v : AV} (hop : o.op = .indexAddr t x i) (hx : copd x = some ax) (hi : copd i = some ai)
    (ht : P.underlying t = some (.slice e')) (hn : tsize P e' = some n) (h : (bd (ax.ev T) fun a => bd (ai.ev T) fun j => iasV F n j a) = some v) : PGoal P ρ m a w o v := by
  obtain ⟨u, h1, h2⟩ := bd_some h
  obtain ⟨j, h3, h4⟩ := bd_some h2
  rcases onLen_some h4 with ⟨_, h5⟩ | ⟨b, off, len, cap, ex, rfl, h5⟩ | ⟨_, _, h5⟩ | ⟨k, rfl, h5⟩
  · cases h5
  case inr.inr.inl => cases h5
  case inr.inr.inr =>
    obtain ⟨vr, g1, g2⟩ := c.f.ia _ _ _ _ (findIa_mem h5) m _ _ (opd_ok c.t hx h1) (opd_ok c.t hi h3)
    exact PGoal.mk (s := Instr.indexAt t (a.eval x) (a.eval i)) (by simp [execOp, hop]) g1 (g2 _ _ _ ht hn)
  obtain ⟨q, h6, h7⟩ := bd_some h5
  cases h7
  obtain ⟨kd, rfl, hlt⟩ := inn_some h6
  have hu := opd_ok c.t hx h1
  have hj := opd_ok c.t hi h3
  simp only [VR] at hu hj
  obtain ⟨e, o', c', hm, hu, hlc, hcap, hoff⟩ := hu
  have hc' : c' ≠ 0 := by cases ex <;> simp at hcap <;> omega
  have ho : o' = e.o + off := hoff.resolve_left hc'
  refine PGoal.mk (s := Instr.indexAt t (a.eval x) (a.eval i)) (v' := .pointer (some ⟨e.b, e.o + (off + q * n), none⟩)) (by simp [execOp, hop]) ?_ ?_
  · simp only [VR]; exact ⟨e, hm, rfl⟩
  · simp only [Instr.indexAt, Sem.run_bind, hj, asIntOf, Sem.run_pure, Result.andThen_ok, r_und ht, hu]
    have : (0 : Int) ≤ Int.ofNat q ∧ Int.ofNat q < (len : Int) := ⟨by simp, by simp; omega⟩
    simp only [this, and_self, if_true, Sem.run_bind, r_size hn, Result.andThen_ok, Sem.run_pure]
    simp [Addr.add, ho]
    split
    · rename_i h0; simp [h0]
    · simp [Nat.add_assoc]

theorem ok_iaa (c : Ctx P ifts F ρ m T H a.tmps w.heap) {t e' : TypeId} {k n : Nat} {x i : Operand} {ax ai : AOpd} {v : AV} (hop : o.op = .indexAddr t x i) (hx : copd x = some ax) (hi : copd i = some ai)
    (ht : P.underlying t = some (.array k e')) (hn : tsize P e' = some n) (h : (bd (ax.ev T) fun a => bd (ai.ev T) fun j => iaaV k n j a) = some v) : PGoal P ρ m a w o v := by
  obtain ⟨u, h1, h2⟩ := bd_some h
  obtain ⟨j, h3, h4⟩ := bd_some h2
  obtain ⟨b, off, rfl, h5⟩ := onP_some h4
  obtain ⟨q, h6, h7⟩ := bd_some (show bd (inn k j) _ = some v from h5)
  cases h7
  obtain ⟨kd, rfl, hlt⟩ := inn_some h6
  have hu := opd_ok c.t hx h1
  have hj := opd_ok c.t hi h3
  simp only [VR] at hu hj
  obtain ⟨e, hm, hu⟩ := hu
  refine PGoal.mk (s := Instr.indexAt t (a.eval x) (a.eval i)) (v' := .pointer (some ⟨e.b, e.o + (off + q * n), none⟩)) (by simp [execOp, hop]) ?_ ?_
  · simp only [VR]; exact ⟨e, hm, rfl⟩
  · simp only [Instr.indexAt, Sem.run_bind, hj, asIntOf, Sem.run_pure, Result.andThen_ok, r_und ht, Instr.sureAddr, hu]
    have : (0 : Int) ≤ Int.ofNat q ∧ Int.ofNat q < (k : Int) := ⟨by simp, by simp; omega⟩
    simp only [this, and_self, if_true, Sem.run_bind, r_size hn, Result.andThen_ok, Sem.run_pure]
    simp [Addr.add]
    split
    · rename_i h0; simp [h0]
    · simp [Nat.add_assoc]

theorem ok_ex (c : Ctx P ifts F ρ m T H a.tmps w.heap) {i : Nat} {x : Operand} {ax : AOpd} {v : AV} (hop : o.op = .extract x i) (hx : copd x = some ax) (h : bd (ax.ev T) (exV i) = some v) : PGoal P ρ m a w o v := by
  obtain ⟨u, h1, h2⟩ := bd_some h
  obtain ⟨l, rfl, h3⟩ := onTup_some h2
  rw [lget_eq] at h3
  have hu := opd_ok c.t hx h1
  simp only [VR] at hu
  obtain ⟨vs, hu, hvs⟩ := hu
  obtain ⟨v', g1, g2⟩ := hvs.get h3
  refine PGoal.mk (s := Instr.extract (a.eval x) i) (by simp [execOp, hop]) g2 ?_
  have g1' : vs[i]? = some v' := by simpa using g1
  simp [Instr.extract, hu, g1']
end
end Go.Ev

namespace Go.Ev
open Go

theorem wrap_mod (k : IntKind) (x : Int) : k.wrap (x % 2 ^ k.bits) = k.wrap x := by
  simp only [IntKind.wrap, Int.emod_emod_of_dvd x (Int.dvd_refl _)]

theorem int_ofNat_mod (a n : Nat) : ((a % 2 ^ n : Nat) : Int) = (a : Int) % 2 ^ n := by
  rw [Int.natCast_emod, Int.natCast_pow]; rfl

theorem bv_ofNat (n a : Nat) : (BitVec.ofInt n (Int.ofNat a)).toNat = a % 2 ^ n := by
  have : (BitVec.ofInt n (Int.ofNat a)) = BitVec.ofNat n a := by
    apply BitVec.eq_of_toNat_eq
    simp
  rw [this]; simp

section
variable {P : Program} {ifts : List TypeId} {F : Facts} {ρ : Nat → Value} {m : Emb} {T : Tr AV} {H : AH} {a : Act} {w : World} {o : Oper}

/-- what an operation on two numbers comes to -/
def BGoal (P : Program) (ρ : Nat → Value) (m : Emb) (op : BinOp) (va vb : Value) (v : AV) : Prop :=
  ∃ vr, VR ρ m v vr ∧ ∀ (t : TypeId) (w : World), (binOp op t va vb).run P w = .ok vr w

theorem bit_ok {op : BinOp} {f : Nat → Nat → Nat} {k : IntKind} {x y : Int} {v : AV} (h : bit f k x y = some v)
    (hb : ∀ a b : Nat, (Op.intBits op k (Int.ofNat a) (Int.ofNat b)) = pure (.int k (k.wrap (Int.ofNat (f a b)))))
    (hop : op = .and ∨ op = .or ∨ op = .xor) : BGoal P ρ m op (.int k x) (.int k y) v := by
  cases x with
  | negSucc _ => exact absurd (show (none : Option AV) = some v from h) (by simp)
  | ofNat a =>
    cases y with
    | negSucc _ => exact absurd (show (none : Option AV) = some v from h) (by simp)
    | ofNat b =>
      cases (show some (AV.i k (wr k (.ofNat (f a b)))) = some v from h)
      refine ⟨.int k (k.wrap (Int.ofNat (f a b))), by simp only [VR, wr_eq], fun t w => ?_⟩
      rcases hop with rfl | rfl | rfl <;> simp only [binOp, ne_eq, not_true_eq_false, if_false] <;> rw [hb] <;> rfl

theorem and_ok (k : IntKind) (a b : Nat) : (Op.intBits .and k (Int.ofNat a) (Int.ofNat b)) = pure (.int k (k.wrap (Int.ofNat (Nat.land a b)))) := by
  simp only [Op.intBits, BitVec.toNat_and, bv_ofNat]
  rw [← Nat.and_mod_two_pow, int_ofNat_mod, wrap_mod]; rfl
theorem or_ok (k : IntKind) (a b : Nat) : (Op.intBits .or k (Int.ofNat a) (Int.ofNat b)) = pure (.int k (k.wrap (Int.ofNat (Nat.lor a b)))) := by
  simp only [Op.intBits, BitVec.toNat_or, bv_ofNat]
  rw [← Nat.or_mod_two_pow, int_ofNat_mod, wrap_mod]; rfl
theorem xor_ok (k : IntKind) (a b : Nat) : (Op.intBits .xor k (Int.ofNat a) (Int.ofNat b)) = pure (.int k (k.wrap (Int.ofNat (Nat.xor a b)))) := by
  simp only [Op.intBits, BitVec.toNat_xor, bv_ofNat]
  rw [← Nat.xor_mod_two_pow, int_ofNat_mod, wrap_mod]; rfl

theorem intop_ok {op : BinOp} {k k' : IntKind} {x y : Int} {v : AV} (h : intop op k x k' y = some v) : BGoal P ρ m op (.int k x) (.int k' y) v := by
  have key : ∀ {r : Option AV}, orN (kbeq k k') r = some v → k = k' ∧ r = some v := fun h => ⟨kbeq_eq (orN_some h).1, (orN_some h).2⟩
  cases op with
  | add =>
    obtain ⟨rfl, g⟩ := key (show orN (kbeq k k') _ = some v from h); cases g
    exact ⟨.int k (k.wrap (x + y)), by simp only [VR, wr_eq]; rfl, fun t w => by simp [binOp, Op.intArith]⟩
  | sub =>
    obtain ⟨rfl, g⟩ := key (show orN (kbeq k k') _ = some v from h); cases g
    exact ⟨.int k (k.wrap (x - y)), by simp only [VR, wr_eq]; rfl, fun t w => by simp [binOp, Op.intArith]⟩
  | mul =>
    obtain ⟨rfl, g⟩ := key (show orN (kbeq k k') _ = some v from h); cases g
    exact ⟨.int k (k.wrap (x * y)), by simp only [VR, wr_eq]; rfl, fun t w => by simp [binOp, Op.intArith]⟩
  | quo =>
    obtain ⟨rfl, g⟩ := key (show orN (kbeq k k') _ = some v from h)
    cases hy : ieq y 0 with
    | true => rw [hy] at g; cases g
    | false =>
      rw [hy] at g; cases g
      have : ¬ y = 0 := by rw [ieq_eq] at hy; simpa using hy
      exact ⟨.int k (k.wrap (x.tdiv y)), by simp only [VR, wr_eq], fun t w => by simp [binOp, Op.intDiv, this]⟩
  | rem =>
    obtain ⟨rfl, g⟩ := key (show orN (kbeq k k') _ = some v from h)
    cases hy : ieq y 0 with
    | true => rw [hy] at g; cases g
    | false =>
      rw [hy] at g; cases g
      have : ¬ y = 0 := by rw [ieq_eq] at hy; simpa using hy
      exact ⟨.int k (x.tmod y), by simp only [VR], fun t w => by simp [binOp, Op.intDiv, this]⟩
  | and =>
    obtain ⟨rfl, g⟩ := key (show orN (kbeq k k') _ = some v from h)
    exact bit_ok g (and_ok k) (.inl rfl)
  | or =>
    obtain ⟨rfl, g⟩ := key (show orN (kbeq k k') _ = some v from h)
    exact bit_ok g (or_ok k) (.inr (.inl rfl))
  | xor =>
    obtain ⟨rfl, g⟩ := key (show orN (kbeq k k') _ = some v from h)
    exact bit_ok g (xor_ok k) (.inr (.inr rfl))
  | shl =>
    cases x with
    | negSucc _ => exact absurd (show (none : Option AV) = some v from h) (by simp)
    | ofNat p =>
      cases y with
      | negSucc _ => exact absurd (show (none : Option AV) = some v from h) (by simp)
      | ofNat q =>
        obtain ⟨h1, h2⟩ := orN_some (show orN (Nat.blt q k.bits) (some (.i k (wr k (.ofNat (Nat.shiftLeft p q))))) = some v from h)
        cases h2
        have hq : q < k.bits := by simpa using h1
        refine ⟨.int k (k.wrap ((p : Int) * 2 ^ q)), ?_, fun t w => ?_⟩
        · simp only [VR, wr_eq]
          congr 2
          show _ = ((p <<< q : Nat) : Int)
          rw [Nat.shiftLeft_eq]; simp
        · have : min q k.bits = q := Nat.min_eq_left (by omega)
          have h0 : ¬ ((q : Int) < 0) := by omega
          simp [binOp, Op.shift, this, h0]
  | shr =>
    cases x with
    | negSucc _ => exact absurd (show (none : Option AV) = some v from h) (by simp)
    | ofNat p =>
      cases y with
      | negSucc _ => exact absurd (show (none : Option AV) = some v from h) (by simp)
      | ofNat q =>
        obtain ⟨h1, h2⟩ := orN_some (show orN (Nat.blt q k.bits) (some (.i k (.ofNat (Nat.shiftRight p q)))) = some v from h)
        cases h2
        have hq : q < k.bits := by simpa using h1
        refine ⟨.int k ((p : Int).fdiv (2 ^ q)), ?_, fun t w => ?_⟩
        · simp only [VR]
          congr 1
          show (p : Int).fdiv (2 ^ q) = ((p >>> q : Nat) : Int)
          rw [Nat.shiftRight_eq_div_pow, Int.fdiv_eq_ediv_of_nonneg _ (by exact Int.le_of_lt (Int.pow_pos (by decide)))]
          simp
        · have : min q k.bits = q := Nat.min_eq_left (by omega)
          have h0 : ¬ ((q : Int) < 0) := by omega
          simp [binOp, Op.shift, this, h0]
  | andNot => exact absurd (show (none : Option AV) = some v from h) (by simp)
  | eql =>
    obtain ⟨rfl, g⟩ := key (show orN (kbeq k k') _ = some v from h); cases g
    exact ⟨.bool (x == y), by simp only [VR, ieq_eq], fun t w => by simp [binOp, Op.intCmp]⟩
  | neq =>
    obtain ⟨rfl, g⟩ := key (show orN (kbeq k k') _ = some v from h); cases g
    refine ⟨.bool (x != y), ?_, fun t w => by simp [binOp, Op.intCmp]⟩
    simp only [VR, ieq_eq, bne]; cases (x == y) <;> rfl
  | lss =>
    obtain ⟨rfl, g⟩ := key (show orN (kbeq k k') _ = some v from h); cases g
    exact ⟨.bool (decide (x < y)), by simp only [VR, ilt_eq], fun t w => by simp [binOp, Op.intCmp]⟩
  | leq =>
    obtain ⟨rfl, g⟩ := key (show orN (kbeq k k') _ = some v from h); cases g
    exact ⟨.bool (decide (x ≤ y)), by simp only [VR, ile_eq], fun t w => by simp [binOp, Op.intCmp]⟩
  | gtr =>
    obtain ⟨rfl, g⟩ := key (show orN (kbeq k k') _ = some v from h); cases g
    exact ⟨.bool (decide (x > y)), by simp only [VR, ilt_eq], fun t w => by simp [binOp, Op.intCmp]⟩
  | geq =>
    obtain ⟨rfl, g⟩ := key (show orN (kbeq k k') _ = some v from h); cases g
    exact ⟨.bool (decide (x ≥ y)), by simp only [VR, ile_eq], fun t w => by simp [binOp, Op.intCmp]⟩

theorem r_eqGuard {op : BinOp} {t : TypeId} {x y : Operand} {va vb : Value} (h : ¬ (va = .nilIface ∧ vb = .nilIface)) (h' : ∀ xs ys, ¬ (va = .agg xs ∧ vb = .agg ys)) :
    (eqGuard op t x y va vb).run P w = .ok () w := by
  have fin : ∀ op : BinOp, op = .eql ∨ op = .neq → (eqGuard op t x y va vb).run P w = .ok () w := by
    intro op hop
    rcases hop with rfl | rfl <;> simp only [eqGuard, Bool.not_true, Bool.false_eq_true, if_false] <;> split
    all_goals first
      | exact absurd ⟨rfl, rfl⟩ h
      | exact absurd ⟨rfl, rfl⟩ (h' _ _)
      | rfl
  cases op <;> first
    | rfl
    | exact fin _ (.inl rfl)
    | exact fin _ (.inr rfl)

theorem findBin_ok (f : FOk P F ρ) {op : BinOp} {x y v : AV} : ∀ {l : List (BinOp × AV × AV × AV)}, (∀ e ∈ l, e ∈ F.bin) → findBin op x y l = some v → (op, x, y, v) ∈ F.bin
  | [], _, h => by cases h
  | (o', a', b', r') :: l, hl, h => by
    have h : iff (decide (o' = op) && veq a' x && veq b' y) (some r') (findBin op x y l) = some v := h
    cases hc : (decide (o' = op) && veq a' x && veq b' y) with
    | true =>
      rw [hc] at h; cases h
      simp only [Bool.and_eq_true, decide_eq_true_eq] at hc
      obtain ⟨⟨rfl, h2⟩, h3⟩ := hc
      rw [← veq_eq h2, ← veq_eq h3]
      exact hl _ (by simp)
    | false => rw [hc] at h; exact findBin_ok f (fun e he => hl e (by simp [he])) h

theorem ok_bi (c : Ctx P ifts F ρ m T H a.tmps w.heap) {op : BinOp} {t yt : TypeId} {x y : Operand} {ax ay : AOpd} {v : AV} (hop : o.op = .binOp op t x y yt) (hx : copd x = some ax) (hy : copd y = some ay)
    (h : (bd (ax.ev T) fun a => bd (ay.ev T) (bino F op a)) = some v) : PGoal P ρ m a w o v := by
  obtain ⟨u, h1, h2⟩ := bd_some h
  obtain ⟨u', h3, h4⟩ := bd_some h2
  have hu := opd_ok c.t hx h1
  have hu' := opd_ok c.t hy h3
  have fin : ∀ (va vb : Value), a.eval x = va → a.eval y = vb → (∃ k n k' n', va = .int k n ∧ vb = .int k' n') → BGoal P ρ m op va vb v → PGoal P ρ m a w o v := by
    rintro va vb ea eb ⟨k, n, k', n', rfl, rfl⟩ ⟨vr, g1, g2⟩
    refine PGoal.mk (s := do eqGuard op t x y (a.eval x) (a.eval y); binOp op t (a.eval x) (a.eval y)) (by simp [execOp, hop]) g1 ?_
    rw [ea, eb]
    simp only [Sem.run_bind]
    rw [r_eqGuard (by simp) (by simp)]
    simp [g2]
  have viaF : findBin op u u' F.bin = some v → PGoal P ρ m a w o v := fun hf => by
    obtain ⟨g1, g2⟩ := c.f.bin _ _ _ _ (findBin_ok c.f (fun _ he => he) hf) m _ _ hu hu'
    exact fin _ _ rfl rfl g1 g2
  rcases onIX_some h4 with ⟨k, n, rfl, h5⟩ | ⟨j, rfl, h5⟩
  · rcases onIX_some h5 with ⟨k', n', rfl, h6⟩ | ⟨j, rfl, h6⟩
    · simp only [VR] at hu hu'
      exact fin _ _ hu hu' ⟨_, _, _, _, rfl, rfl⟩ (intop_ok h6)
    · exact viaF h6
  · exact viaF h5

theorem bytesArr_size (l : List Nat) : (bytesArr l).size = l.length := by simp [bytesArr, ByteArray.size]

theorem bytesArr_beq {l l' : List Nat} (h : ∀ n ∈ l, n < 256) (h' : ∀ n ∈ l', n < 256) : ((bytesArr l).toList == (bytesArr l').toList) = (l == l') := by
  simp only [bytesArr, ByteArray.toList_mk]
  rw [Bool.eq_iff_iff, beq_iff_eq, beq_iff_eq]
  constructor
  · intro e
    have : (l.map fun n => UInt8.ofNat n).map (fun u => u.toNat) = (l'.map fun n => UInt8.ofNat n).map (fun u => u.toNat) := by rw [e]
    rw [List.map_map, List.map_map] at this
    have g : ∀ {s : List Nat}, (∀ n ∈ s, n < 256) → s.map ((fun u : UInt8 => u.toNat) ∘ fun n => UInt8.ofNat n) = s := by
      intro s hs
      induction s with
      | nil => rfl
      | cons x s ih =>
        simp only [List.map_cons, Function.comp]
        rw [show s.map ((fun u : UInt8 => u.toNat) ∘ fun n => UInt8.ofNat n) = s from ih (fun n hn => hs n (by simp [hn]))]
        congr 1
        have := hs x (by simp)
        simp [UInt8.toNat_ofNat']; omega
    rwa [g h, g h'] at this
  · intro e; rw [e]

theorem ok_sb (c : Ctx P ifts F ρ m T H a.tmps w.heap) {op : BinOp} {t yt : TypeId} {x y : Operand} {ax ay : AOpd} {v : AV} (hop : o.op = .binOp op t x y yt) (hx : copd x = some ax) (hy : copd y = some ay)
    (h : (bd (ax.ev T) fun a => bd (ay.ev T) fun b => onS (fun l => onS (sop op l) b) a) = some v) : PGoal P ρ m a w o v := by
  obtain ⟨u, h1, h2⟩ := bd_some h
  obtain ⟨u', h3, h4⟩ := bd_some h2
  obtain ⟨l, rfl, h5⟩ := onS_some h4
  obtain ⟨l', rfl, h6⟩ := onS_some h5
  have hu := opd_ok c.t hx h1
  have hu' := opd_ok c.t hy h3
  simp only [VR] at hu hu'
  obtain ⟨hu, hl⟩ := hu
  obtain ⟨hu', hl'⟩ := hu'
  have fin : ∀ vr, VR ρ m v vr → (Op.stringOp op (bytesArr l) (bytesArr l')).run P w = .ok vr w → binOp op t (.string (bytesArr l)) (.string (bytesArr l')) = Op.stringOp op (bytesArr l) (bytesArr l') → PGoal P ρ m a w o v := by
    intro vr g1 g2 g3
    refine PGoal.mk (s := do eqGuard op t x y (a.eval x) (a.eval y); binOp op t (a.eval x) (a.eval y)) (by simp [execOp, hop]) g1 ?_
    rw [hu, hu']
    simp only [Sem.run_bind]
    rw [r_eqGuard (by simp) (by simp)]
    simp [g3, g2]
  cases op <;> first
    | exact absurd (show (none : Option AV) = some v from h6) (by simp)
    | skip
  · obtain ⟨h7, h8⟩ := orN_some (show orN (Nat.blt (l.length + l'.length) 4611686018427387904) (some (.s (l ++ l'))) = some v from h6)
    cases h8
    have hlt : l.length + l'.length < 4611686018427387904 := by simpa using h7
    refine fin (.string (bytesArr (l ++ l'))) ?_ ?_ (by simp [binOp])
    · simp only [VR]
      refine ⟨trivial, fun n hn => ?_⟩
      rcases List.mem_append.1 hn with hn | hn
      · exact hl n hn
      · exact hl' n hn
    · rw [run_string_add_sum w _ _ (by rw [bytesArr_size, bytesArr_size]; omega)]
      simp only [bytesArr, ByteArray.mk_append_mk, List.map_append]
  · cases (show some (AV.b (l == l')) = some v from h6)
    refine fin (.bool (l == l')) (by simp only [VR]) ?_ (by simp [binOp])
    simp only [Op.stringOp, bytesArr_beq hl hl']; rfl
  · cases (show some (AV.b (!(l == l'))) = some v from h6)
    refine fin (.bool (!(l == l'))) (by simp only [VR]) ?_ (by simp [binOp])
    simp only [Op.stringOp, bytesArr_beq hl hl']; rfl
end
end Go.Ev

namespace Go.Ev
open Go
section
variable {P : Program} {ifts : List TypeId} {F : Facts} {ρ : Nat → Value} {m : Emb} {T : Tr AV} {H : AH} {a : Act} {w : World} {o : Oper}

theorem isCells_some {b o : Nat} (h : isCells H b o = true) : ∃ l es, H.get b = some (.cells l es 0) ∧ o < l.length := by
  unfold isCells at h
  split at h
  · rename_i l es hg; exact ⟨l, es, hg, by simpa using h⟩
  · simp at h

theorem r_part_scalar {t : TypeId} {cs : Array Value} {off : Nat} {v : Value} (hg : tagg P t = some false) (hv : cs[off]? = some v) : (part t cs off).run P w = .ok v w := by
  simp [part, r_agg hg, hv]

theorem tagg_of_und {t : TypeId} {d : TypeDesc} (h : P.underlying t = some d) (h1 : ∀ fs, d ≠ .struct fs) (h2 : ∀ n e, d ≠ .array n e) : tagg P t = some false := by
  simp only [tagg, h, bd_some']

/-- fields of structs -/
theorem feq_ok {q : EqT} {t : TypeId} {ut : TypeDesc} {u v : AV} {rest : Option Bool} {r : Bool} {d : Nat} (h1 : P.underlying t = some ut)
    (hq : (q = .int ∧ ∃ k, ut = .int k) ∨ (q = .bool ∧ ut = .bool) ∨ (q = .str ∧ ut = .string)) (h : feq q rest u v = some r) {vu vv : Value} (hu : VR ρ m u vu) (hv : VR ρ m v vv) :
    ∃ e, (∀ w, (Op.equalIn (d + 1) t vu vv).run P w = .ok e w) ∧ iff e rest (some false) = some r := by
  rcases hq with ⟨rfl, k0, rfl⟩ | ⟨rfl, rfl⟩ | ⟨rfl, rfl⟩
  · obtain ⟨k, i, rfl, h2⟩ := onI_some (show onI _ u = some r from h)
    obtain ⟨k', i', rfl, h3⟩ := onI_some h2
    obtain ⟨e1, e2⟩ := orN_some h3
    have ek := kbeq_eq e1
    subst ek
    simp only [VR] at hu hv
    subst hu; subst hv
    exact ⟨i == i', fun w => run_equalIn_int w d t k k0 i i' h1, by rw [← ieq_eq]; exact e2⟩
  · obtain ⟨i, rfl, h2⟩ := onB_some (show onB _ u = some r from h)
    obtain ⟨i', rfl, h3⟩ := onB_some h2
    simp only [VR] at hu hv
    subst hu; subst hv
    exact ⟨i == i', fun w => run_equalIn_bool' w d t i i' h1, h3⟩
  · obtain ⟨l, rfl, h2⟩ := onS_some (show onS _ u = some r from h)
    obtain ⟨l', rfl, h3⟩ := onS_some h2
    simp only [VR] at hu hv
    obtain ⟨rfl, hl⟩ := hu
    obtain ⟨rfl, hl'⟩ := hv
    exact ⟨l == l', fun w => by rw [run_equalIn_string w d t _ _ h1, bytesArr_beq hl hl'], h3⟩

theorem aeqs_ok : ∀ {fds : List Field} {fs : List (Nat × Nat × Bool × EqT)} {x y : List AV} {r : Bool} {xs ys : Array Value} {d : Nat}, teqFields P fds = some fs → aeqs fs x y = some r →
    VRs ρ m x xs.toList → VRs ρ m y ys.toList → ∀ w, (Op.eqFields (d + 1) xs ys fds).run P w = .ok r w
  | [], fs, x, y, r, xs, ys, d, hf, h, hx, hy => by
    cases hf
    intro w
    cases (show some true = some r by rw [← h]; simp [aeqs])
    simp [Op.eqFields]
  | f :: fds, fs, x, y, r, xs, ys, d, hf, h, hx, hy => by
    intro w
    simp only [teqFields] at hf
    cases hn : (f.name == "_") with
    | true => rw [hn] at hf; cases hf
    | false =>
      rw [hn] at hf
      obtain ⟨ut, h1, h2⟩ := bd_some hf
      obtain ⟨n, h3, h4⟩ := bd_some h2
      obtain ⟨fs', h5, h6⟩ := bd_some h4
      have hne : f.name ≠ "_" := by simpa using hn
      have step : ∀ {q : EqT}, fs = (f.offset, n, false, q) :: fs' → tagg P f.type = some false →
          ((q = .int ∧ ∃ k, ut = .int k) ∨ (q = .bool ∧ ut = .bool) ∨ (q = .str ∧ ut = .string)) →
          (Op.eqFields (d + 1) xs ys (f :: fds)).run P w = .ok r w := by
        intro q hq hg hm
        subst hq
        obtain ⟨u, h7, h8⟩ := bd_some (show bd (lget x f.offset) _ = some r by simpa only [aeqs] using h)
        obtain ⟨v, h9, h10⟩ := bd_some h8
        rw [lget_eq] at h7 h9
        obtain ⟨vu, g1, g2⟩ := hx.get h7
        obtain ⟨vv, g3, g4⟩ := hy.get h9
        obtain ⟨e, g5, g6⟩ := feq_ok (d := d) h1 hm h10 g2 g4
        simp only [Op.eqFields, hne, ne_eq, not_false_eq_true, if_true, Sem.run_bind, r_part_scalar hg (show xs[f.offset]? = some vu by simpa using g1),
          r_part_scalar hg (show ys[f.offset]? = some vv by simpa using g3), Result.andThen_ok, g5]
        cases e with
        | true => simp only [Bool.not_true, Bool.false_eq_true, if_false]; exact aeqs_ok h5 g6 hx hy w
        | false => cases g6; simp
      cases ut with
      | int k0 => cases h6; exact step rfl (tagg_of_und h1 (by simp) (by simp)) (.inl ⟨rfl, k0, rfl⟩)
      | bool => cases h6; exact step rfl (tagg_of_und h1 (by simp) (by simp)) (.inr (.inl ⟨rfl, rfl⟩))
      | string => cases h6; exact step rfl (tagg_of_und h1 (by simp) (by simp)) (.inr (.inr ⟨rfl, rfl⟩))
      | _ => cases h6

theorem frozen?_of {C : Array Value} {el : TypeId} {fr : Nat × Nat} {B j : Nat} (h : w.heap[B]? = some (.cells C el fr)) : w.frozen? ⟨B, j, none⟩ = (decide (fr.1 ≤ j) && decide (j < fr.2)) := by
  simp only [World.frozen?, h]

theorem shape?_of {C : Array Value} {el : TypeId} {fr : Nat × Nat} {B : Nat} (h : w.heap[B]? = some (.cells C el fr)) : w.shape? B = some (el, C.size) := by
  simp [World.shape?, h]

theorem r_sameAddr_ne {C C' : Array Value} {el el' : TypeId} {B B' j j' : Nat} (h : w.heap[B]? = some (.cells C el (0, 0))) (h' : w.heap[B']? = some (.cells C' el' (0, 0))) (hne : B ≠ B') :
    (sameAddr ⟨B, j, none⟩ ⟨B', j', none⟩).run P w = .ok false w := by
  have e : (B == B') = false := by simpa using hne
  simp [sameAddr, e, frozen?_of h, frozen?_of h', noView, viewAt, shape?_of h, shape?_of h', mayBeOne, stringish]

theorem isNl_some {x : AV} {r : Bool} {vv : Value} (h : isNl x = some r) (hv : VR ρ m x vv) : ∃ p l c, vv = .slice p l c ∧ (r = true → p = none ∧ l = 0 ∧ c = 0) ∧ (r = false → ∃ ad, p = some ad) := by
  rcases onSx_some (show onSx _ _ x = some r from h) with ⟨b, k, rfl, h1⟩ | ⟨_, h1⟩
  · cases h1
    simp only [VR] at hv
    obtain ⟨e, n, c, _, _, rfl, _⟩ := hv
    exact ⟨_, _, _, rfl, fun h => (by cases h), fun _ => ⟨_, rfl⟩⟩
  · rcases onSl_some h1 with ⟨rfl, h2⟩ | ⟨b, off, l, c, ex, rfl, h2⟩ <;> cases h2 <;> simp only [VR] at hv
    · exact ⟨_, _, _, hv, fun _ => ⟨rfl, rfl, rfl⟩, fun h => (by cases h)⟩
    · obtain ⟨e1, o', c', _, rfl, _⟩ := hv
      exact ⟨_, _, _, rfl, fun h => (by cases h), fun _ => ⟨_, rfl⟩⟩

set_option maxHeartbeats 4000000 in
/-- '==' at a type -/
theorem aeq_ok (hw : WR P ifts ρ m H w.heap) {t : TypeId} {nc : Bool} {q : EqT} {x y : AV} {r : Bool} {vx vy : Value} {d : Nat} (hq : teq P t nc = some q) (h : aeq q x y H = some r)
    (hx : VR ρ m x vx) (hy : VR ρ m y vy) : (Op.equalIn (d + 2) t vx vy).run P w = .ok r w := by
  obtain ⟨ut, h1, h2⟩ := bd_some hq
  have ru : (underlying t).run P w = .ok ut w := r_und h1
  cases ut with
  | bool =>
    cases h2
    obtain ⟨i, rfl, h3⟩ := onB_some (show onB _ x = some r from h)
    obtain ⟨i', rfl, h4⟩ := onB_some h3
    cases h4
    simp only [VR] at hx hy; subst hx; subst hy
    simp [Op.equalIn, ru]
  | int k0 =>
    cases h2
    obtain ⟨k, i, rfl, h3⟩ := onI_some (show onI _ x = some r from h)
    obtain ⟨k', i', rfl, h4⟩ := onI_some h3
    obtain ⟨e1, e2⟩ := orN_some h4
    cases e2
    have ek := kbeq_eq e1; subst ek
    simp only [VR] at hx hy; subst hx; subst hy
    simp [Op.equalIn, ru, ieq_eq]
  | string =>
    cases h2
    obtain ⟨l, rfl, h3⟩ := onS_some (show onS _ x = some r from h)
    obtain ⟨l', rfl, h4⟩ := onS_some h3
    cases h4
    simp only [VR] at hx hy
    obtain ⟨rfl, hl⟩ := hx; obtain ⟨rfl, hl'⟩ := hy
    simp [Op.equalIn, ru, beq_toListBytes, bytesArr_beq hl hl']
  | pointer e =>
    obtain ⟨n, h3, h4⟩ := bd_some h2
    cases n with
    | zero => cases h4
    | succ n =>
      cases h4
      rcases onPN_some (show onPN _ _ x = some r from h) with ⟨rfl, h5⟩ | ⟨b, off, rfl, h5⟩
      · rcases onPN_some h5 with ⟨rfl, h6⟩ | ⟨b', off', rfl, h6⟩ <;> cases h6 <;> simp only [VR] at hx hy
        · subst hx; subst hy; simp [Op.equalIn, ru]
        · subst hx; obtain ⟨e1, _, rfl⟩ := hy; simp [Op.equalIn, ru]
      · rcases onPN_some h5 with ⟨rfl, h6⟩ | ⟨b', off', rfl, h6⟩
        · cases h6
          simp only [VR] at hx hy
          obtain ⟨e1, _, rfl⟩ := hx; subst hy; simp [Op.equalIn, ru]
        · simp only [VR] at hx hy
          obtain ⟨e1, hm1, rfl⟩ := hx
          obtain ⟨e2, hm2, rfl⟩ := hy
          simp only [Op.equalIn, Sem.run_bind, ru, Result.andThen_ok, r_size h3]
          simp only [Nat.add_eq_zero_iff, Nat.one_ne_zero, and_false, not_false_eq_true, if_true, ne_eq]
          cases hb : Nat.beq b b' with
          | true =>
            rw [hb] at h6
            cases h6
            have : b = b' := Nat.eq_of_beq_eq_true hb
            subst this
            rw [hm1] at hm2; cases hm2
            simp only [sameAddr, beq_self_eq_true, if_true, Sem.run_pure]
            congr 1
            rw [Bool.eq_iff_iff]
            simp
          | false =>
            rw [hb] at h6
            obtain ⟨e3, e4⟩ := orN_some (show orN _ _ = some r from h6)
            cases e4
            have e3' : isCells H b off = true ∧ isCells H b' off' = true := by
              cases h7 : isCells H b off with
              | true => rw [h7] at e3; exact ⟨rfl, e3⟩
              | false => rw [h7] at e3; cases e3
            obtain ⟨l, es, g1, _⟩ := isCells_some e3'.1
            obtain ⟨l', es', g2, _⟩ := isCells_some e3'.2
            obtain ⟨C, el, fr, g3, _, _, _, g4⟩ := cell_of hw g1 hm1
            obtain ⟨C', el', fr', g5, _, _, _, g6⟩ := cell_of hw g2 hm2
            rw [g4 rfl] at g3
            rw [g6 rfl] at g5
            refine r_sameAddr_ne g3 g5 fun he => ?_
            have := hw.dj b b' _ _ e1 e2 g1 g2 hm1 hm2 he
            subst this
            exact absurd hb (by simp)
  | interface ms =>
    cases nc with
    | false => cases h2
    | true =>
      cases h2
      rcases onIN_some (show onIN _ _ x = some r from h) with ⟨rfl, h5⟩ | ⟨b, off, rfl, h5⟩
      · rcases onIN_some h5 with ⟨rfl, h6⟩ | ⟨b', off', rfl, h6⟩ <;> cases h6 <;> simp only [VR] at hx hy
        · subst hx; subst hy; simp [Op.equalIn, ru]
        · subst hx; obtain ⟨e1, rfl, _⟩ := hy; simp [Op.equalIn, ru]
      · rcases onIN_some h5 with ⟨rfl, h6⟩ | ⟨b', off', rfl, h6⟩ <;> cases h6
        simp only [VR] at hx hy
        obtain ⟨e1, rfl, _⟩ := hx; subst hy; simp [Op.equalIn, ru]
  | slice e =>
    cases h2
    obtain ⟨a, h3, h4⟩ := bd_some (show bd (isNl x) _ = some r from h)
    obtain ⟨b, h5, h6⟩ := bd_some h4
    obtain ⟨p, l, c, rfl, ha1, ha2⟩ := isNl_some h3 hx
    obtain ⟨p', l', c', rfl, hb1, hb2⟩ := isNl_some h5 hy
    cases a <;> cases b <;> cases h6
    · obtain ⟨ad, rfl⟩ := ha2 rfl
      obtain ⟨rfl, rfl, rfl⟩ := hb1 rfl
      simp [Op.equalIn, ru]
    · obtain ⟨ad, rfl⟩ := hb2 rfl
      obtain ⟨rfl, rfl, rfl⟩ := ha1 rfl
      simp [Op.equalIn, ru]
    · obtain ⟨rfl, rfl, rfl⟩ := ha1 rfl
      obtain ⟨rfl, rfl, rfl⟩ := hb1 rfl
      simp [Op.equalIn, ru]
  | map k e =>
    cases h2
    rcases onMp_some (show onMp _ _ x = some r from h) with ⟨rfl, h5⟩ | ⟨b, rfl, h5⟩
    · rcases onMp_some h5 with ⟨rfl, h6⟩ | ⟨b', rfl, h6⟩ <;> cases h6 <;> simp only [VR] at hx hy
      · subst hx; subst hy; simp [Op.equalIn, ru]
      · subst hx; obtain ⟨e1, _, rfl⟩ := hy; simp [Op.equalIn, ru]
    · rcases onMp_some h5 with ⟨rfl, h6⟩ | ⟨b', rfl, h6⟩ <;> cases h6
      simp only [VR] at hx hy
      obtain ⟨e1, _, rfl⟩ := hx; subst hy; simp [Op.equalIn, ru]
  | func ps rs vv =>
    cases h2
    rcases onFN_some (show onFN _ _ x = some r from h) with ⟨rfl, h5⟩ | ⟨g, f, c, rfl, h5⟩
    · rcases onFN_some h5 with ⟨rfl, h6⟩ | ⟨g', f', c', rfl, h6⟩ <;> cases h6 <;> simp only [VR] at hx hy
      · subst hx; subst hy; simp [Op.equalIn, ru]
      · subst hx; obtain ⟨f', c', rfl, _⟩ := hy; simp [Op.equalIn, ru]
    · rcases onFN_some h5 with ⟨rfl, h6⟩ | ⟨g', f', c', rfl, h6⟩ <;> cases h6
      simp only [VR] at hx hy
      obtain ⟨f', c', rfl, _⟩ := hx; subst hy; simp [Op.equalIn, ru]
  | struct fs =>
    cases hs : P.stoodInHeld t <;> cases hg : teq.Op.eqGuardType' P t <;> simp only [hs, hg] at h2 <;> first | cases h2 | skip
    obtain ⟨l, h3, h4⟩ := bd_some h2
    cases h4
    obtain ⟨lx, rfl, h5⟩ := onAgg_some (show onAgg _ x = some r from h)
    obtain ⟨ly, rfl, h6⟩ := onAgg_some h5
    simp only [VR] at hx hy
    obtain ⟨vs, rfl, g1, _⟩ := hx
    obtain ⟨vs', rfl, g2, _⟩ := hy
    have hf : P.fieldsOf t = fs := by simp [Program.fieldsOf, h1]
    rw [run_equalIn_struct w (d + 1) t vs vs' (by rw [hf]; exact h1) hs, hf]
    exact aeqs_ok h3 h6 g1 g2 w
  | _ => cases h2
end
end Go.Ev

namespace Go.Ev
open Go
section
variable {P : Program} {ifts : List TypeId} {F : Facts} {ρ : Nat → Value} {m : Emb} {T : Tr AV} {H : AH} {a : Act} {w : World} {o : Oper}

theorem r_cvi {s d : TypeId} {k k' : IntKind} {q : IntKind} {n : Int} (hs : P.underlying s = some (.int k)) (hd : P.underlying d = some (.int k')) :
    (convert s d (.int q n)).run P w = .ok (.int k' (k'.wrap n)) w := by
  simp [convert, r_und hs, r_und hd, Conv.intToInt]

theorem bytesOf_cons {x : AV} {l : List AV} {r : List Nat} (h : bytesOf (x :: l) = some r) : ∃ n r', r = n :: r' ∧ x = .i .u8 (Int.ofNat n) ∧ n < 256 ∧ bytesOf l = some r' := by
  obtain ⟨n, h1, h2⟩ := bd_some (show bd (onI byteI x) (fun n => bd (bytesOf l) fun r => some (n :: r)) = some r from h)
  obtain ⟨r', h3, h4⟩ := bd_some h2
  cases h4
  obtain ⟨k, q, rfl, h5⟩ := onI_some h1
  obtain ⟨h6, h7⟩ := orN_some h5
  cases kbeq_eq h6
  cases q with
  | negSucc _ => exact absurd (show (none : Option Nat) = some n from h7) (by simp)
  | ofNat q =>
    obtain ⟨h8, h9⟩ := orN_some (show orN (Nat.blt q 256) (some q) = some n from h7)
    cases h9
    exact ⟨_, _, rfl, rfl, by simpa using h8, h3⟩

theorem bytesOf_ok : ∀ {l : List AV} {r : List Nat} {vs : List Value}, bytesOf l = some r → VRs ρ m l vs → vs = r.map (fun n : Nat => Value.int .u8 (n : Int)) ∧ ∀ n ∈ r, n < 256
  | [], r, vs, h, hv => by cases (show some [] = some r from h); rw [hv.nil_inv]; exact ⟨rfl, by simp⟩
  | x :: l, r, vs, h, hv => by
    obtain ⟨n, r', rfl, rfl, h1, h2⟩ := bytesOf_cons h
    obtain ⟨v, vs', rfl, h3, h4⟩ := hv.cons_inv
    simp only [VR] at h3
    obtain ⟨h5, h6⟩ := bytesOf_ok h2 h4
    rw [h5, h3]
    refine ⟨rfl, fun k hk => ?_⟩
    rcases List.mem_cons.1 hk with rfl | hk
    · exact h1
    · exact h6 k hk

theorem foldl_bytes : ∀ (ns : List Nat) (s : ByteArray), (ns.map (fun n : Nat => (n : Int))).foldl (fun r n => r.push (UInt8.ofNat n.toNat)) s = ⟨s.data ++ (ns.map fun n => UInt8.ofNat n).toArray⟩
  | [], s => by simp
  | n :: ns, s => by
    rw [List.map_cons, List.foldl_cons, foldl_bytes ns]
    simp [ByteArray.push]

theorem r_bounds {isSl : Bool} {len cap : Nat} {lo hi mx : Option Value} {l h mm : Nat}
    (hm : (mx = none ∧ mm = cap) ∨ ∃ k, mx = some (.int k (mm : Int)) ∧ mm ≤ cap)
    (hh : (hi = none ∧ mx = none ∧ h = len) ∨ ∃ k, hi = some (.int k (h : Int)) ∧ h ≤ mm)
    (hl : (lo = none ∧ l = 0) ∨ ∃ k, lo = some (.int k (l : Int)) ∧ l ≤ h) :
    (Instr.sliceBounds isSl len cap lo hi mx).run P w = .ok (l, h, mm) w := by
  have sb : ∀ (k : IntKind) (n top : Nat) (code : BoundsCode), n ≤ top → (Instr.sliceBound (.int k (n : Int)) top code).run P w = .ok n w := by
    intro k n top code hn
    have h1 : (0 : Int) ≤ (n : Int) ∧ (n : Int) ≤ (top : Int) := ⟨by simp, by omega⟩
    simp only [Instr.sliceBound, asIntOf, Sem.run_bind, Sem.run_pure, Result.andThen_ok, h1, and_self, if_true]
    simp
  rcases hm with ⟨rfl, rfl⟩ | ⟨k, rfl, hm⟩
  · rcases hh with ⟨rfl, _, rfl⟩ | ⟨k, rfl, hh⟩
    · rcases hl with ⟨rfl, rfl⟩ | ⟨k, rfl, hl⟩
      · simp only [Instr.sliceBounds, Sem.run_bind, Sem.run_pure, Result.andThen_ok]
      · simp only [Instr.sliceBounds, Sem.run_bind, Sem.run_pure, Result.andThen_ok]
        rw [sb k l _ _ hl]; rfl
    · rcases hl with ⟨rfl, rfl⟩ | ⟨k', rfl, hl⟩
      · simp only [Instr.sliceBounds, Sem.run_bind, Sem.run_pure, Result.andThen_ok]
        rw [sb k h _ _ hh]; rfl
      · simp only [Instr.sliceBounds, Sem.run_bind, Sem.run_pure, Result.andThen_ok]
        rw [sb k h _ _ hh]; simp only [Result.andThen_ok]
        rw [sb k' l _ _ hl]; rfl
  · rcases hh with ⟨_, h0, _⟩ | ⟨k', rfl, hh⟩
    · cases h0
    · rcases hl with ⟨rfl, rfl⟩ | ⟨k'', rfl, hl⟩
      · simp only [Instr.sliceBounds, Sem.run_bind, Sem.run_pure, Result.andThen_ok]
        rw [sb k mm _ _ hm]; simp only [Result.andThen_ok]
        rw [sb k' h _ _ hh]; rfl
      · simp only [Instr.sliceBounds, Sem.run_bind, Sem.run_pure]
        rw [sb k mm _ _ hm]; simp only [Result.andThen_ok]
        rw [sb k' h _ _ hh]; simp only [Result.andThen_ok]
        rw [sb k'' l _ _ hl]; rfl

theorem bnd_ok {tmps : Array Value} {defers : List Deferred} (hT : TR ρ m T tmps) {ox : Option Operand} {x : Option AOpd} {dflt top k : Nat} (hx : copdo ox = some x) (h : bnd x dflt top T = some k) :
    (ox = none ∧ x = none ∧ k = dflt) ∨ ∃ q, x ≠ none ∧ ox.map (Act.eval { tmps, defers }) = some (.int q (k : Int)) ∧ k ≤ top := by
  cases ox with
  | none => cases hx; cases h; exact .inl ⟨rfl, rfl, rfl⟩
  | some y =>
    obtain ⟨ay, h1, h2⟩ := bd_some hx
    cases h2
    obtain ⟨v, h3, h4⟩ := bd_some h
    obtain ⟨q, rfl, h5⟩ := natv_some h4
    have := opd_ok (a := { tmps, defers }) hT h1 h3
    simp only [VR] at this
    exact .inr ⟨q, by simp, by simp [this], h5⟩

theorem teq_ifc {t : TypeId} {nc : Bool} (h : teq P t nc = some .ifc) : nc = true := by
  obtain ⟨ut, _, h2⟩ := bd_some h
  cases ut <;> first
    | (cases h2; done)
    | skip
  · obtain ⟨n, _, h3⟩ := bd_some h2
    cases n <;> cases h3
  · cases hs : P.stoodInHeld t <;> cases hg : teq.Op.eqGuardType' P t <;> simp only [hs, hg] at h2 <;> first
      | (cases h2; done)
      | skip
    obtain ⟨l, _, h3⟩ := bd_some h2
    cases h3
  · cases nc with
    | true => rfl
    | false => cases h2

theorem teq_st {t : TypeId} {nc : Bool} {l : List (Nat × Nat × Bool × EqT)} (h : teq P t nc = some (.st l)) : P.eqGuardType P.depth t = false := by
  obtain ⟨ut, _, h2⟩ := bd_some h
  cases ut <;> first
    | (cases h2; done)
    | skip
  · obtain ⟨n, _, h3⟩ := bd_some h2
    cases n <;> cases h3
  · cases hs : P.stoodInHeld t <;> cases hg : teq.Op.eqGuardType' P t <;> simp only [hs, hg] at h2 <;> first
      | (cases h2; done)
      | exact hg
  · cases nc <;> cases h2

/-- the values that are compared at a type -/
inductive Fit (ρ : Nat → Value) (m : Emb) : EqT → Value → Value → Prop
  | bool (x y : Bool) : Fit ρ m .bool (.bool x) (.bool y)
  | int (k k' : IntKind) (x y : Int) : Fit ρ m .int (.int k x) (.int k' y)
  | str (x y : ByteArray) : Fit ρ m .str (.string x) (.string y)
  | ptr (x y : Option Addr) : Fit ρ m .ptr (.pointer x) (.pointer y)
  | ni : Fit ρ m .ifc .nilIface .nilIface
  | nif (t : TypeId) (v : Value) : Fit ρ m .ifc .nilIface (.iface t v)
  | ifn (t : TypeId) (v : Value) : Fit ρ m .ifc (.iface t v) .nilIface
  | slc (x y : Option Addr) (l c l' c' : Nat) : Fit ρ m .slc (.slice x l c) (.slice y l' c')
  | mp (x y : Option Nat) : Fit ρ m .mp (.map x) (.map y)
  | fn0 : Fit ρ m .fnc .nilFunc .nilFunc
  | fn1 (f : Fn) (x y : Array Value) : Fit ρ m .fnc .nilFunc (.func f x y)
  | fn2 (f : Fn) (x y : Array Value) : Fit ρ m .fnc (.func f x y) .nilFunc
  | st (l : List (Nat × Nat × Bool × EqT)) (x y : Array Value) : Fit ρ m (.st l) (.agg x) (.agg y)

theorem fit_of {q : EqT} {x y : AV} {r : Bool} {vx vy : Value} (h : aeq q x y H = some r) (hx : VR ρ m x vx) (hy : VR ρ m y vy) : Fit ρ m q vx vy := by
  cases q with
  | bool =>
    obtain ⟨i, rfl, h3⟩ := onB_some (show onB _ x = some r from h)
    obtain ⟨i', rfl, h4⟩ := onB_some h3
    simp only [VR] at hx hy; subst hx; subst hy; exact .bool _ _
  | int =>
    obtain ⟨k, i, rfl, h3⟩ := onI_some (show onI _ x = some r from h)
    obtain ⟨k', i', rfl, h4⟩ := onI_some h3
    simp only [VR] at hx hy; subst hx; subst hy; exact .int _ _ _ _
  | str =>
    obtain ⟨l, rfl, h3⟩ := onS_some (show onS _ x = some r from h)
    obtain ⟨l', rfl, h4⟩ := onS_some h3
    simp only [VR] at hx hy; rw [hx.1, hy.1]; exact .str _ _
  | ptr =>
    rcases onPN_some (show onPN _ _ x = some r from h) with ⟨rfl, h5⟩ | ⟨b, off, rfl, h5⟩ <;> rcases onPN_some h5 with ⟨rfl, h6⟩ | ⟨b', off', rfl, h6⟩ <;> simp only [VR] at hx hy
    · subst hx; subst hy; exact .ptr _ _
    · subst hx; obtain ⟨_, _, rfl⟩ := hy; exact .ptr _ _
    · obtain ⟨_, _, rfl⟩ := hx; subst hy; exact .ptr _ _
    · obtain ⟨_, _, rfl⟩ := hx; obtain ⟨_, _, rfl⟩ := hy; exact .ptr _ _
  | ifc =>
    rcases onIN_some (show onIN _ _ x = some r from h) with ⟨rfl, h5⟩ | ⟨b, off, rfl, h5⟩ <;> rcases onIN_some h5 with ⟨rfl, h6⟩ | ⟨b', off', rfl, h6⟩ <;> simp only [VR] at hx hy
    · subst hx; subst hy; exact .ni
    · subst hx; obtain ⟨_, rfl, _⟩ := hy; exact .nif _ _
    · obtain ⟨_, rfl, _⟩ := hx; subst hy; exact .ifn _ _
    · cases h6
  | slc =>
    obtain ⟨a, h3, h4⟩ := bd_some (show bd (isNl x) _ = some r from h)
    obtain ⟨b, h5, _⟩ := bd_some h4
    obtain ⟨p, l, c, rfl, _⟩ := isNl_some h3 hx
    obtain ⟨p', l', c', rfl, _⟩ := isNl_some h5 hy
    exact .slc _ _ _ _ _ _
  | mp =>
    rcases onMp_some (show onMp _ _ x = some r from h) with ⟨rfl, h5⟩ | ⟨b, rfl, h5⟩ <;> rcases onMp_some h5 with ⟨rfl, h6⟩ | ⟨b', rfl, h6⟩ <;> simp only [VR] at hx hy
    · subst hx; subst hy; exact .mp _ _
    · subst hx; obtain ⟨_, _, rfl⟩ := hy; exact .mp _ _
    · obtain ⟨_, _, rfl⟩ := hx; subst hy; exact .mp _ _
    · cases h6
  | fnc =>
    rcases onFN_some (show onFN _ _ x = some r from h) with ⟨rfl, h5⟩ | ⟨g, f, c, rfl, h5⟩ <;> rcases onFN_some h5 with ⟨rfl, h6⟩ | ⟨g', f', c', rfl, h6⟩ <;> simp only [VR] at hx hy
    · subst hx; subst hy; exact .fn0
    · subst hx; obtain ⟨_, _, rfl, _⟩ := hy; exact .fn1 _ _ _
    · obtain ⟨_, _, rfl, _⟩ := hx; subst hy; exact .fn2 _ _ _
    · cases h6
  | st fs =>
    obtain ⟨lx, rfl, h5⟩ := onAgg_some (show onAgg _ x = some r from h)
    obtain ⟨ly, rfl, h6⟩ := onAgg_some h5
    simp only [VR] at hx hy
    obtain ⟨_, rfl, _⟩ := hx
    obtain ⟨_, rfl, _⟩ := hy
    exact .st _ _ _

theorem binOp_eql_fit {q : EqT} {t : TypeId} {vx vy : Value} (h : Fit ρ m q vx vy) (h1 : q ≠ .int) (h2 : q ≠ .str) :
    binOp .eql t vx vy = (do pure (.bool (← Op.equal t vx vy))) ∧ binOp .neq t vx vy = (do pure (.bool (!(← Op.equal t vx vy)))) := by
  cases h <;> first
    | exact absurd rfl h1
    | exact absurd rfl h2
    | (constructor <;> simp only [binOp])

theorem ok_eq (c : Ctx P ifts F ρ m T H a.tmps w.heap) {op : BinOp} {neg : Bool} {t yt : TypeId} {q : EqT} {x y : Operand} {ax ay : AOpd} {v : AV} (hop : o.op = .binOp op t x y yt) (hn : (op = .eql ∧ neg = false) ∨ (op = .neq ∧ neg = true))
    (hx : copd x = some ax) (hy : copd y = some ay) (hq : teq P t (isNilConst x || isNilConst y) = some q) (hq1 : q ≠ .int) (hq2 : q ≠ .str)
    (h : (bd (ax.ev T) fun a => bd (ay.ev T) fun b => bd (aeq q a b H) fun r => some (AV.b (iff neg (iff r false true) r))) = some v) : PGoal P ρ m a w o v := by
  obtain ⟨u, h1, h2⟩ := bd_some h
  obtain ⟨u', h3, h4⟩ := bd_some h2
  obtain ⟨r, h5, h6⟩ := bd_some h4
  cases h6
  have hu1 := opd_ok c.t hx h1
  have hu2 := opd_ok c.t hy h3
  have he := aeq_ok (d := 9998) c.w hq h5 hu1 hu2
  have hf := fit_of h5 hu1 hu2
  obtain ⟨b1, b2⟩ := binOp_eql_fit (t := t) hf hq1 hq2
  have hg : (eqGuard op t x y (a.eval x) (a.eval y)).run P w = .ok () w := by
    by_cases h0 : a.eval x = .nilIface ∧ a.eval y = .nilIface
    · rw [h0.1, h0.2] at hf
      cases hf
      have hc := teq_ifc hq
      rw [h0.1, h0.2]
      have hc' : (∃ v, x = .const v) ∨ ∃ v, y = .const v := by
        rcases (Bool.or_eq_true _ _).mp hc with hc | hc
        · left; unfold isNilConst at hc; split at hc <;> first | exact ⟨_, rfl⟩ | cases hc
        · right; unfold isNilConst at hc; split at hc <;> first | exact ⟨_, rfl⟩ | cases hc
      rcases hn with ⟨rfl, _⟩ | ⟨rfl, _⟩ <;> rcases hc' with ⟨v', rfl⟩ | ⟨v', rfl⟩ <;> simp [eqGuard]
    · by_cases h7 : ∃ xs ys, a.eval x = .agg xs ∧ a.eval y = .agg ys
      · obtain ⟨xs, ys, e1, e2⟩ := h7
        rw [e1, e2] at hf ⊢
        cases hf
        exact run_eqGuard_agg w op t x y xs ys (teq_st hq)
      · exact r_eqGuard h0 (fun xs ys hh => h7 ⟨xs, ys, hh.1, hh.2⟩)
  have he' : (Op.equal t (a.eval x) (a.eval y)).run P w = .ok r w := he
  rcases hn with ⟨rfl, rfl⟩ | ⟨rfl, rfl⟩
  · refine PGoal.mk (s := do eqGuard .eql t x y (a.eval x) (a.eval y); binOp .eql t (a.eval x) (a.eval y)) (v' := .bool r) (by simp [execOp, hop]) (by simp [VR]) ?_
    rw [b1]; simp [hg, he']
  · refine PGoal.mk (s := do eqGuard .neq t x y (a.eval x) (a.eval y); binOp .neq t (a.eval x) (a.eval y)) (v' := .bool (!r)) (by simp [execOp, hop]) (by cases r <;> simp [VR]) ?_
    rw [b2]; simp [hg, he']
end
end Go.Ev

namespace Go.Ev
open Go
section
variable {P : Program} {ifts : List TypeId} {F : Facts} {ρ : Nat → Value} {m : Emb} {T : Tr AV} {H : AH} {a : Act} {w : World} {o : Oper}

theorem cells_one {v : Value} (h : v.oneCell' = true) : v.cells = #[v] := by cases v <;> first | rfl | cases h

theorem cells_ok (hρ : One ρ) {x : AV} {v : Value} {l : List AV} (h : x.cells = some l) (hv : VR ρ m x v) : VRs ρ m l v.cells.toList ∧ allSingle l = true := by
  have key : single x = true → l = [x] → VRs ρ m l v.cells.toList ∧ allSingle l = true := fun h1 h2 => by
    rw [cells_one (hv.one hρ h1), h2]
    exact ⟨.cons hv .nil, by simp [allSingle, h1]⟩
  cases x with
  | agg l' => cases h; simp only [VR] at hv; obtain ⟨vs, rfl, h1, h2⟩ := hv; exact ⟨h1, h2⟩
  | tup l' => cases h
  | _ => cases h; exact key rfl rfl

theorem foldl_lay : ∀ (vs : List Value) (k off : Nat) (cs : Array Value), off + k + vs.length ≤ cs.size →
    ((vs.zipIdx k).foldl (fun cs (c, j) => cs.setIfInBounds (off + j) c) cs).size = cs.size ∧
    ∀ i, ((vs.zipIdx k).foldl (fun cs (c, j) => cs.setIfInBounds (off + j) c) cs)[i]? = if off + k ≤ i ∧ i < off + k + vs.length then vs[i - (off + k)]? else cs[i]?
  | [], k, off, cs, _ => ⟨rfl, fun i => by simp; intro h1 h2; omega⟩
  | v :: vs, k, off, cs, h => by
    have h' : off + (k + 1) + vs.length ≤ (cs.setIfInBounds (off + k) v).size := by simp at h ⊢; omega
    obtain ⟨e1, e2⟩ := foldl_lay vs (k + 1) off (cs.setIfInBounds (off + k) v) h'
    simp only [List.zipIdx_cons, List.foldl_cons]
    refine ⟨by rw [e1]; simp, fun i => ?_⟩
    rw [e2 i]
    simp only [List.length_cons] at h ⊢
    by_cases h1 : off + (k + 1) ≤ i ∧ i < off + (k + 1) + vs.length
    · rw [if_pos h1, if_pos (by omega), show i - (off + k) = (i - (off + (k + 1))) + 1 from by omega, List.getElem?_cons_succ]
    · rw [if_neg h1]
      by_cases h2 : i = off + k
      · subst h2
        rw [if_pos (by omega), Array.getElem?_setIfInBounds_self]
        simp; omega
      · rw [if_neg (by omega), Array.getElem?_setIfInBounds_ne (by omega)]

theorem VRs_lay {l vs r : List AV} {o : Nat} {L V R : List Value} (h : lay l vs o = some r) (hl : VRs ρ m l L) (hv : VRs ρ m vs V) (hR : R.length = L.length)
    (hR' : ∀ i, R[i]? = if o ≤ i ∧ i < o + V.length then V[i - o]? else L[i]?) : VRs ρ m r R := by
  obtain ⟨e1, e2, e3⟩ := lay_some h
  refine VRs.of_get (by rw [e1, hR, hl.length]) fun i a hi => ?_
  rw [e3 i] at hi
  rw [hR' i, ← hv.length]
  split at hi
  · rename_i hc; rw [if_pos hc]; exact hv.get hi
  · rename_i hc; rw [if_neg hc]; exact hl.get hi

theorem allSingle_lay {l vs r : List AV} {o : Nat} (h : lay l vs o = some r) (hl : allSingle l = true) (hv : allSingle vs = true) : allSingle r = true := by
  obtain ⟨e1, e2, e3⟩ := lay_some h
  refine allSingle_of fun i a hi => ?_
  rw [e3 i] at hi
  split at hi
  · exact allSingle_get hv hi
  · exact allSingle_get hl hi

theorem fills_ok (c : Ctx P ifts F ρ m T H a.tmps w.heap) {place : Nat → Option (Nat × Nat)} : ∀ {ps : List (Nat × Operand)} {aps : List (Nat × Nat × AOpd)} {z l : List AV} {zs : Array Value},
    cparts place ps = some aps → fills T aps z = some l → VRs ρ m z zs.toList → allSingle z = true →
    ∃ vs, Instr.fill place zs (ps.map fun p => (p.1, a.eval p.2)) = some vs ∧ VRs ρ m l vs.toList ∧ allSingle l = true
  | [], aps, z, l, zs, hp, h, hz, hs => by
    cases hp; cases (show some z = some l from by rw [← h]; rfl)
    exact ⟨zs, by simp [Instr.fill], hz, hs⟩
  | (i, x) :: ps, aps, z, l, zs, hp, h, hz, hs => by
    obtain ⟨⟨off, n⟩, h1, h2⟩ := bd_some (show bd (place i) _ = some aps from hp)
    obtain ⟨ax, h3, h4⟩ := bd_some h2
    obtain ⟨aps', h5, h6⟩ := bd_some h4
    cases h6
    obtain ⟨u, h7, h8⟩ := bd_some (show bd (ax.ev T) _ = some l by simpa only [fills] using h)
    obtain ⟨cl, h9, h10⟩ := bd_some h8
    obtain ⟨h11, h12⟩ := orN_some h10
    obtain ⟨z', h13, h14⟩ := bd_some h12
    have hu := opd_ok c.t h3 h7
    obtain ⟨g1, g2⟩ := cells_ok c.one h9 hu
    obtain ⟨e1, e2, e3⟩ := lay_some h13
    have hn : cl.length = n := by simpa using h11
    have hl1 : (a.eval x).cells.size = n := by rw [← hn, g1.length]; simp
    have hl2 : zs.size = z.length := by rw [hz.length]; simp
    obtain ⟨f1, f2⟩ := foldl_lay (a.eval x).cells.toList 0 off zs (by simp [hl1, hl2]; omega)
    have hf : (a.eval x).cells.zipIdx.foldl (fun cs (c, j) => cs.setIfInBounds (off + j) c) zs = ((a.eval x).cells.toList.zipIdx 0).foldl (fun cs (c, j) => cs.setIfInBounds (off + j) c) zs := by
      rw [← Array.foldl_toList, Array.toList_zipIdx]
    obtain ⟨vs, i1, i2, i3⟩ := fills_ok c (zs := ((a.eval x).cells.toList.zipIdx 0).foldl (fun cs (c, j) => cs.setIfInBounds (off + j) c) zs) h5 h14
      (VRs_lay h13 hz g1 (by simpa using f1) fun i => by simpa using f2 i) (allSingle_lay h13 hs g2)
    refine ⟨vs, ?_, i2, i3⟩
    simp only [List.map_cons, Instr.fill, h1, hl1, ne_eq, not_true_eq_false, decide_false, Bool.false_or]
    rw [if_neg (by simp [hl2]; omega), hf]
    exact i1

theorem tzc_some (hρ : One ρ) {t : TypeId} {z : List AV} (h : tzc P t = some z) : ∃ i v, P.info? t = some i ∧ i.zero = some v ∧ (∀ m, VRs ρ m z v.cells.toList) ∧ allSingle z = true := by
  obtain ⟨z0, h1, h2⟩ := bd_some h
  obtain ⟨i, h3, h4⟩ := bd_some h1
  obtain ⟨v, h5, h6⟩ := bd_some h4
  exact ⟨i, v, h3, h5, fun m => (cells_ok (m := m) hρ h2 (cval_ok _ h6)).1, (cells_ok (m := fun _ => none) hρ h2 (cval_ok _ h6)).2⟩

theorem tplaces_ok : ∀ {fs : List Field} {pl : List (Nat × Nat)}, tplaces P fs = some pl → fs.mapM (fun f => (P.info? f.type).map fun i => (f.offset, i.size)) = some pl
  | [], pl, h => by cases h; rfl
  | f :: fs, pl, h => by
    obtain ⟨n, h1, h2⟩ := bd_some (show bd (tsize P f.type) _ = some pl from h)
    obtain ⟨r, h3, h4⟩ := bd_some h2
    obtain ⟨i, h5, h6⟩ := bd_some h1
    cases h6; cases h4
    simp [List.mapM_cons, h5, tplaces_ok h3]

theorem tsize_some {t : TypeId} {n : Nat} (h : tsize P t = some n) : ∃ i, P.info? t = some i ∧ i.size = n := by
  obtain ⟨i, h5, h6⟩ := bd_some h
  cases h6; exact ⟨i, h5, rfl⟩

theorem ok_bl (c : Ctx P ifts F ρ m T H a.tmps w.heap) {t : TypeId} {ps : Array (Nat × Operand)} {z : List AV} {r : List (Nat × Nat × AOpd)} {v : AV} (hop : o.op = .build t ps) (hz : tzc P t = some z)
    (hp : (∃ fs pl, P.underlying t = some (.struct fs) ∧ tplaces P fs.toList = some pl ∧ cparts (fun i => pl[i]?) ps.toList = some r) ∨
      (∃ k e n, P.underlying t = some (.array k e) ∧ tsize P e = some n ∧ cparts (fun i => some (i * n, n)) ps.toList = some r))
    (h : (bd (fills T r z) fun l => some (AV.agg l)) = some v) : PGoal P ρ m a w o v := by
  obtain ⟨l, h1, h2⟩ := bd_some h
  cases h2
  obtain ⟨i, vz, h3, h4, h5, h6⟩ := tzc_some c.one hz
  rcases hp with ⟨fs, pl, hu, hpl, hc⟩ | ⟨k, e, n, hu, hn, hc⟩
  · obtain ⟨vs, g1, g2, g3⟩ := fills_ok c hc h1 (h5 m) h6
    refine PGoal.mk (s := Instr.build t (ps.map fun (i, x) => (i, a.eval x))) (v' := .agg vs) (by simp [execOp, hop]) (by simp only [VR]; exact ⟨vs, rfl, g2, g3⟩) ?_
    refine run_build _ _ _ _ ?_
    simp only [Program.built, h3, hu, h4, tplaces_ok hpl]
    simpa using g1
  · obtain ⟨vs, g1, g2, g3⟩ := fills_ok c hc h1 (h5 m) h6
    obtain ⟨ie, h7, h8⟩ := tsize_some hn
    refine PGoal.mk (s := Instr.build t (ps.map fun (i, x) => (i, a.eval x))) (v' := .agg vs) (by simp [execOp, hop]) (by simp only [VR]; exact ⟨vs, rfl, g2, g3⟩) ?_
    refine run_build _ _ _ _ ?_
    simp only [Program.built, h3, hu, h4, h7, h8]
    simpa using g1

theorem ok_un (c : Ctx P ifts F ρ m T H a.tmps w.heap) {op : UnOp} {t : TypeId} {x : Operand} {ax : AOpd} {v : AV} (hop : o.op = .unOp op t x) (hx : copd x = some ax) (h : bd (ax.ev T) (unV op) = some v) : PGoal P ρ m a w o v := by
  obtain ⟨u, h1, h2⟩ := bd_some h
  have hu := opd_ok c.t hx h1
  cases op with
  | neg =>
    obtain ⟨k, n, rfl, h3⟩ := onI_some (show onI _ u = some v from h2)
    cases h3
    simp only [VR] at hu
    refine PGoal.mk (s := Op.unary .neg (a.eval x)) (v' := .int k (k.wrap (0 - n))) (by simp [execOp, hop]) (by simp only [VR]; rw [wr_eq]; rfl) ?_
    simp [hu, Op.unary, Op.intArith]
  | not =>
    obtain ⟨r, rfl, h3⟩ := onB_some (show onB _ u = some v from h2)
    cases h3
    simp only [VR] at hu
    refine PGoal.mk (s := Op.unary .not (a.eval x)) (v' := .bool (!r)) (by simp [execOp, hop]) (by cases r <;> simp [VR]) ?_
    simp [hu, Op.unary]
  | xor => cases h2
  | plus => cases h2

theorem ok_cvi (c : Ctx P ifts F ρ m T H a.tmps w.heap) {s d : TypeId} {k k' : IntKind} {x : Operand} {ax : AOpd} {v : AV} (hop : o.op = .convert s d x) (hx : copd x = some ax)
    (hs : P.underlying s = some (.int k)) (hd : P.underlying d = some (.int k')) (h : bd (ax.ev T) (cviV k') = some v) : PGoal P ρ m a w o v := by
  obtain ⟨u, h1, h2⟩ := bd_some h
  obtain ⟨q, n, rfl, h3⟩ := onI_some h2
  cases h3
  have hu := opd_ok c.t hx h1
  simp only [VR] at hu
  refine PGoal.mk (s := convert s d (a.eval x)) (v' := .int k' (k'.wrap n)) (by simp [execOp, hop]) (by simp only [VR]; rw [wr_eq]) ?_
  rw [hu, r_cvi hs hd]

theorem ok_cvs (c : Ctx P ifts F ρ m T H a.tmps w.heap) {s d : TypeId} {x : Operand} {ax : AOpd} {v : AV} (hop : o.op = .convert s d x) (hx : copd x = some ax)
    (hs : P.underlying s = some .string) (hd : P.underlying d = some .string) (h : bd (ax.ev T) cvsV = some v) : PGoal P ρ m a w o v := by
  obtain ⟨u, h1, h2⟩ := bd_some h
  obtain ⟨l, rfl, h3⟩ := onS_some h2
  cases h3
  have hu := opd_ok c.t hx h1
  have hu' := hu
  simp only [VR] at hu
  refine PGoal.mk (s := convert s d (a.eval x)) (by simp [execOp, hop]) hu' ?_
  rw [hu.1]
  simp [convert, r_und hs, r_und hd]

theorem ok_cbs (c : Ctx P ifts F ρ m T H a.tmps w.heap) {s d e' : TypeId} {x : Operand} {ax : AOpd} {v : AV} (hop : o.op = .convert s d x) (hx : copd x = some ax)
    (hs : P.underlying s = some (.slice e')) (he : P.underlying e' = some (.int .u8)) (hd : P.underlying d = some .string) (h : bd (ax.ev T) (cbsV H) = some v) : PGoal P ρ m a w o v := by
  obtain ⟨u, h1, h2⟩ := bd_some h
  have hu := opd_ok c.t hx h1
  rcases onSl_some h2 with ⟨rfl, h3⟩ | ⟨b, off, len, cap, ex, rfl, h3⟩
  · cases h3
    simp only [VR] at hu
    refine PGoal.mk (s := convert s d (a.eval x)) (v' := .string .empty) (by simp [execOp, hop]) (by simp only [VR]; exact ⟨rfl, by simp⟩) ?_
    rw [hu, run_convert_bytes_string w s d e' _ _ _ hs he hd]
    simp [Conv.bytesToString]
  · obtain ⟨l, h4, h5⟩ := bd_some (show bd (row H b) _ = some v from h3)
    obtain ⟨r, h6, h7⟩ := bd_some h5
    obtain ⟨r', h8, h9⟩ := bd_some h7
    cases h9
    simp only [VR] at hu
    obtain ⟨e, o', c', hm, hu, hlc, hcap, hoff⟩ := hu
    obtain ⟨es, fl, hb⟩ := row_some h4
    obtain ⟨C, el, fr, vs, g1, g2, g3, g4, g5⟩ := cut_cells c.w hb hm h6
    obtain ⟨j1, j2⟩ := bytesOf_ok h8 g4
    refine PGoal.mk (s := convert s d (a.eval x)) (v' := .string (bytesArr r')) (by simp [execOp, hop]) (by simp only [VR]; exact ⟨trivial, j2⟩) ?_
    have hld : (loadCells ⟨e.b, o', none⟩ len).run P w = .ok ((r'.map (fun n : Nat => (n : Int))).map (Value.int .u8)).toArray w := by
      have hvs : (r'.map (fun n : Nat => (n : Int))).map (Value.int .u8) = vs := by rw [j1, List.map_map]; rfl
      rw [hvs]
      rcases hoff with h0 | h0
      · have : len = 0 := by cases ex <;> simp at hcap <;> omega
        subst this
        have : vs = [] := List.length_eq_zero_iff.1 g2
        subst this
        simp [loadCells, loadCellsFrom]
      · rw [h0]; exact r_loadCells g1 (e.o + off) len g2 g3
    rw [hu, run_convert_bytes_string w s d e' _ _ _ hs he hd, run_bytesToString w _ _ _ _ hld, foldl_bytes]
    simp [bytesArr]

theorem ok_mki (c : Ctx P ifts F ρ m T H a.tmps w.heap) {t : TypeId} {d : TypeDesc} {x : Operand} {ax : AOpd} {v : AV} (hop : o.op = .makeInterface t x) (hx : copd x = some ax)
    (ht : P.underlying t = some d) (hd : ∀ ms, d ≠ .interface ms) (h : (bd (ax.ev T) fun v => some (AV.ifc t v)) = some v) : PGoal P ρ m a w o v := by
  obtain ⟨u, h1, h2⟩ := bd_some h
  cases h2
  have hu := opd_ok c.t hx h1
  refine PGoal.mk (s := Instr.makeInterface t (a.eval x)) (v' := .iface t (a.eval x)) (by simp [execOp, hop]) (by simp only [VR]; exact ⟨_, rfl, hu⟩) ?_
  refine run_makeInterface w t _ ?_
  simp only [Program.concrete, ht]
  cases d <;> first | rfl | exact absurd rfl (hd _)

theorem ok_mkf (c : Ctx P ifts F ρ m T H a.tmps w.heap) {g : FuncId} {f k : Array Operand} {af ak : List AOpd} {v : AV} (hop : o.op = .makeFunc (.func g) f k) (hf : copds f.toList = some af) (hk : copds k.toList = some ak)
    (h : (bd (evs af T) fun f' => bd (evs ak T) fun c' => some (AV.fn g f' c')) = some v) : PGoal P ρ m a w o v := by
  obtain ⟨f', h1, h2⟩ := bd_some h
  obtain ⟨k', h3, h4⟩ := bd_some h2
  cases h4
  refine PGoal.mk (s := Instr.makeFunc (.func g) (f.map a.eval) (k.map a.eval)) (by simp [execOp, hop]) (v' := .func (.func g) (f.map a.eval) (k.map a.eval)) ?_ (by simp [Instr.makeFunc])
  simp only [VR]
  exact ⟨_, _, rfl, by simpa using opds_ok c.t hf h1, by simpa using opds_ok c.t hk h3⟩
end
end Go.Ev

namespace Go.Ev
open Go
section
variable {P : Program} {ifts : List TypeId} {F : Facts} {ρ : Nat → Value} {m : Emb} {T : Tr AV} {H : AH} {a : Act} {w : World} {o : Oper}

theorem bnd_lo {tmps : Array Value} {defers : List Deferred} (hT : TR ρ m T tmps) {ox : Option Operand} {x : Option AOpd} {top k : Nat} (hx : copdo ox = some x) (h : bnd x 0 top T = some k) :
    ((ox.map (Act.eval { tmps, defers }) = none ∧ k = 0) ∨ ∃ q, ox.map (Act.eval { tmps, defers }) = some (.int q (k : Int)) ∧ k ≤ top) ∧ k ≤ top := by
  rcases bnd_ok (defers := defers) hT hx h with ⟨rfl, rfl, rfl⟩ | ⟨q, _, h1, h2⟩
  · exact ⟨.inl ⟨rfl, rfl⟩, Nat.zero_le _⟩
  · exact ⟨.inr ⟨q, h1, h2⟩, h2⟩

theorem addrAdd (b o i : Nat) : (⟨b, o, none⟩ : Addr).add i = ⟨b, o + i, none⟩ := by
  unfold Addr.add; split
  · rename_i hi; subst hi; rfl
  · rfl

theorem ok_sls (c : Ctx P ifts F ρ m T H a.tmps w.heap) {t : TypeId} {x : Operand} {lo hi : Option Operand} {ax : AOpd} {alo ahi : Option AOpd} {v : AV} (hop : o.op = .slice t x lo hi none) (hx : copd x = some ax)
    (hlo : copdo lo = some alo) (hhi : copdo hi = some ahi) (ht : P.underlying t = some .string) (h : bd (ax.ev T) (slsV alo ahi T) = some v) : PGoal P ρ m a w o v := by
  obtain ⟨u, h1, h2⟩ := bd_some h
  obtain ⟨l, rfl, h3⟩ := onS_some h2
  obtain ⟨hh, h4, h5⟩ := bd_some (show bd (bnd ahi l.length l.length T) _ = some v from h3)
  obtain ⟨ll, h6, h7⟩ := bd_some h5
  cases h7
  have hu := opd_ok c.t hx h1
  simp only [VR] at hu
  obtain ⟨b1, _⟩ := bnd_lo (defers := a.defers) c.t hlo h6
  have b2 := bnd_ok (defers := a.defers) c.t hhi h4
  refine PGoal.mk (s := Instr.sliceAt t (a.eval x) (lo.map a.eval) (hi.map a.eval) none) (v' := .string (bytesArr ((l.drop ll).take (hh - ll)))) (by simp [execOp, hop]) ?_ ?_
  · simp only [VR]; exact ⟨rfl, fun n hn => hu.2 n (List.mem_of_mem_drop (List.mem_of_mem_take hn))⟩
  · have hb := r_bounds (P := P) (w := w) (isSl := false) (len := l.length) (cap := l.length) (lo := lo.map a.eval) (hi := hi.map a.eval) (mx := none) (l := ll) (h := hh) (mm := l.length) (.inl ⟨rfl, rfl⟩)
      (by rcases b2 with ⟨rfl, _, rfl⟩ | ⟨q, _, e1, e2⟩
          · exact .inl ⟨rfl, rfl, rfl⟩
          · exact .inr ⟨q, e1, e2⟩) b1
    simp only [Instr.sliceAt, Instr.slice, Sem.run_bind, r_und ht, Result.andThen_ok, hu.1, bytesArr_size]
    simp [hb, bytesArr, ByteArray.extract_mk]

theorem ok_sll (c : Ctx P ifts F ρ m T H a.tmps w.heap) {t e' : TypeId} {n : Nat} {x : Operand} {lo hi mx : Option Operand} {ax : AOpd} {alo ahi amx : Option AOpd} {v : AV} (hop : o.op = .slice t x lo hi mx) (hx : copd x = some ax)
    (hlo : copdo lo = some alo) (hhi : copdo hi = some ahi) (hmx : copdo mx = some amx) (hok : mxOk ahi amx = some ()) (ht : P.underlying t = some (.slice e')) (hn : tsize P e' = some n)
    (h : bd (ax.ev T) (sllV n alo ahi amx T) = some v) : PGoal P ρ m a w o v := by
  obtain ⟨u, h1, h2⟩ := bd_some h
  have hu := opd_ok c.t hx h1
  rcases onSx_some h2 with ⟨b, k, rfl, h3⟩ | ⟨_, h2⟩
  case inl =>
    obtain ⟨i1, h3⟩ := orN_some (show orN (isS amx) _ = some v from h3)
    obtain ⟨mm, h4, h5⟩ := bd_some h3
    obtain ⟨hh, h6, h7⟩ := bd_some h5
    obtain ⟨ll, h8, h9⟩ := bd_some h7
    obtain ⟨i2, h9⟩ := orN_some h9
    cases h9
    simp only [VR] at hu
    obtain ⟨e, n', c', hm, hk, hu, hnc, _⟩ := hu
    obtain ⟨b1, c1⟩ := bnd_lo (defers := a.defers) c.t hlo h8
    obtain ⟨_, c2⟩ := bnd_lo (defers := a.defers) c.t hhi h6
    obtain ⟨_, c3⟩ := bnd_lo (defers := a.defers) c.t hmx h4
    have b2 := bnd_ok (defers := a.defers) c.t hhi h6
    have b3 := bnd_ok (defers := a.defers) c.t hmx h4
    have e3 : mm = 0 := by omega
    subst e3
    have e2 : hh = 0 := by omega
    subst e2
    have e1 : ll = 0 := by omega
    subst e1
    have hb := r_bounds (P := P) (w := w) (isSl := true) (len := n') (cap := c') (lo := lo.map a.eval) (hi := hi.map a.eval) (mx := mx.map a.eval) (l := 0) (h := 0) (mm := 0)
      (by rcases b3 with ⟨_, e0, _⟩ | ⟨q, _, e1, e2⟩
          · rw [e0] at i1; cases i1
          · exact .inr ⟨q, e1, by omega⟩)
      (by rcases b2 with ⟨_, e0, _⟩ | ⟨q, _, e1, e2⟩
          · rw [e0] at i2; cases i2
          · exact .inr ⟨q, e1, e2⟩) b1
    refine PGoal.mk (s := Instr.sliceAt t (a.eval x) (lo.map a.eval) (hi.map a.eval) (mx.map a.eval)) (v' := .slice (some ⟨e.b, e.o, none⟩) 0 0) (by simp [execOp, hop]) ?_ ?_
    · simp only [VR]
      exact ⟨e, e.o, 0, hm, rfl, Nat.le_refl _, by simp, .inl rfl⟩
    · simp only [Instr.sliceAt, Instr.slice, Sem.run_bind, r_und ht, Result.andThen_ok, hu]
      simp [hb, r_size hn]
  rcases onSl_some h2 with ⟨rfl, h3⟩ | ⟨b, off, len, cap, ex, rfl, h3⟩
  · obtain ⟨mm, h4, h5⟩ := bd_some (show bd (bnd amx 0 0 T) _ = some v from h3)
    obtain ⟨hh, h6, h7⟩ := bd_some h5
    obtain ⟨ll, h8, h9⟩ := bd_some h7
    cases h9
    simp only [VR] at hu
    obtain ⟨b1, c1⟩ := bnd_lo (defers := a.defers) c.t hlo h8
    obtain ⟨_, c2⟩ := bnd_lo (defers := a.defers) c.t hhi h6
    obtain ⟨_, c3⟩ := bnd_lo (defers := a.defers) c.t hmx h4
    have b2 := bnd_ok (defers := a.defers) c.t hhi h6
    have b3 := bnd_ok (defers := a.defers) c.t hmx h4
    have e3 : mm = 0 := by omega
    subst e3
    have e2 : hh = 0 := by omega
    subst e2
    have e1 : ll = 0 := by omega
    subst e1
    have hb := r_bounds (P := P) (w := w) (isSl := true) (len := 0) (cap := 0) (lo := lo.map a.eval) (hi := hi.map a.eval) (mx := mx.map a.eval) (l := 0) (h := 0) (mm := 0)
      (by rcases b3 with ⟨rfl, _, _⟩ | ⟨q, _, e1, e2⟩
          · exact .inl ⟨rfl, rfl⟩
          · exact .inr ⟨q, e1, e2⟩)
      (by rcases b2 with ⟨rfl, rfl, _⟩ | ⟨q, _, e1, e2⟩
          · rcases b3 with ⟨rfl, _, _⟩ | ⟨q', hq, _, _⟩
            · exact .inl ⟨rfl, rfl, rfl⟩
            · cases amx with
              | none => exact absurd rfl hq
              | some _ => cases hok
          · exact .inr ⟨q, e1, e2⟩) b1
    refine PGoal.mk (s := Instr.sliceAt t (a.eval x) (lo.map a.eval) (hi.map a.eval) (mx.map a.eval)) (v' := .slice none 0 0) (by simp [execOp, hop]) (by simp only [VR]) ?_
    simp only [Instr.sliceAt, Instr.slice, Sem.run_bind, r_und ht, Result.andThen_ok, hu]
    simp [hb, r_size hn]
  · obtain ⟨mm, h4, h5⟩ := bd_some (show bd (bnd amx cap cap T) _ = some v from h3)
    obtain ⟨hh, h6, h7⟩ := bd_some h5
    obtain ⟨ll, h8, h9⟩ := bd_some h7
    cases h9
    simp only [VR] at hu
    obtain ⟨e, o', c', hm, hu, hlc, hcap, hoff⟩ := hu
    obtain ⟨b1, c1⟩ := bnd_lo (defers := a.defers) c.t hlo h8
    have b2 := bnd_ok (defers := a.defers) c.t hhi h6
    have b3 := bnd_ok (defers := a.defers) c.t hmx h4
    have hcc : cap ≤ c' := by cases ex <;> simp at hcap <;> omega
    -- the third bound, as the model has it
    have b3' : ∃ M, ((mx.map a.eval = none ∧ M = c' ∧ mm = cap ∧ amx = none) ∨ ∃ k, mx.map a.eval = some (.int k (M : Int)) ∧ M ≤ c' ∧ M = mm ∧ mm ≤ cap ∧ amx ≠ none) := by
      rcases b3 with ⟨rfl, h0, h0'⟩ | ⟨q, hq, e1, e2⟩
      · exact ⟨c', .inl ⟨rfl, rfl, h0', h0⟩⟩
      · exact ⟨mm, .inr ⟨q, e1, by omega, rfl, e2, hq⟩⟩
    obtain ⟨M, hM⟩ := b3'
    have hMm : mm ≤ M := by rcases hM with ⟨_, h0, h0', _⟩ | ⟨_, _, _, h0, _⟩ <;> omega
    have hhm : hh ≤ mm := by
      rcases b2 with ⟨_, ha, hb⟩ | ⟨q, _, e1, e2⟩
      · rcases hM with ⟨_, _, h0, _⟩ | ⟨_, _, _, _, _, hq⟩
        · omega
        · subst ha
          cases amx with
          | none => exact absurd rfl hq
          | some _ => cases hok
      · exact e2
    have hb := r_bounds (P := P) (w := w) (isSl := true) (len := len) (cap := c') (lo := lo.map a.eval) (hi := hi.map a.eval) (mx := mx.map a.eval) (l := ll) (h := hh) (mm := M)
      (by rcases hM with ⟨h0, h0', _⟩ | ⟨q, e1, e2, _⟩
          · exact .inl ⟨h0, h0'⟩
          · exact .inr ⟨q, e1, e2⟩)
      (by rcases b2 with ⟨rfl, ha, hb⟩ | ⟨q, _, e1, e2⟩
          · rcases hM with ⟨h0, _⟩ | ⟨_, _, _, _, _, hq⟩
            · exact .inl ⟨rfl, h0, hb⟩
            · subst ha
              cases amx with
              | none => exact absurd rfl hq
              | some _ => cases hok
          · exact .inr ⟨q, e1, by omega⟩) b1
    refine PGoal.mk (s := Instr.sliceAt t (a.eval x) (lo.map a.eval) (hi.map a.eval) (mx.map a.eval)) (v' := .slice (some ⟨e.b, if M = ll then o' else o' + ll * n, none⟩) (hh - ll) (M - ll)) (by simp [execOp, hop]) ?_ ?_
    · simp only [VR]
      refine ⟨e, _, _, hm, rfl, ?_, ?_, ?_⟩
      · show hh - ll ≤ mm - ll; omega
      · rcases hM with ⟨_, h0, h0', h0''⟩ | ⟨_, _, _, h0, _, hq⟩
        · subst h0 h0' h0''
          cases ex <;> simp [isS, iff] at hcap ⊢ <;> omega
        · have : isS amx = true := by
            cases amx with
            | none => exact absurd rfl hq
            | some _ => rfl
          subst h0
          cases ex <;> simp [this, iff]
      · by_cases hz : M = ll
        · left; omega
        · right
          rw [if_neg hz]
          have : c' ≠ 0 := by
            rcases hM with ⟨_, h0, _⟩ | ⟨_, _, h0, _⟩ <;> omega
          rw [hoff.resolve_left this]
          show e.o + off + ll * n = e.o + (off + ll * n)
          omega
    · simp only [Instr.sliceAt, Instr.slice, Sem.run_bind, r_und ht, Result.andThen_ok, hu]
      simp only [hb, Result.andThen_ok, r_size hn, Sem.run_pure]
      by_cases hz : M = ll
      · simp [hz]
      · simp [hz, addrAdd]

theorem ok_sla (c : Ctx P ifts F ρ m T H a.tmps w.heap) {t : TypeId} {k n : Nat} {x : Operand} {lo hi mx : Option Operand} {ax : AOpd} {alo ahi amx : Option AOpd} {v : AV} (hop : o.op = .slice t x lo hi mx) (hx : copd x = some ax)
    (hlo : copdo lo = some alo) (hhi : copdo hi = some ahi) (hmx : copdo mx = some amx) (hok : mxOk ahi amx = some ())
    (ht : (∃ e', P.underlying t = some (.array k e') ∧ tsize P e' = some n) ∨ (∃ r e', P.underlying t = some (.pointer r) ∧ P.underlying r = some (.array k e') ∧ tsize P e' = some n))
    (h : bd (ax.ev T) (slaV k n alo ahi amx T) = some v) : PGoal P ρ m a w o v := by
  obtain ⟨u, h1, h2⟩ := bd_some h
  have hu := opd_ok c.t hx h1
  obtain ⟨b, off, rfl, h3⟩ := onP_some h2
  obtain ⟨mm, h4, h5⟩ := bd_some (show bd (bnd amx k k T) _ = some v from h3)
  obtain ⟨hh, h6, h7⟩ := bd_some h5
  obtain ⟨ll, h8, h9⟩ := bd_some h7
  cases h9
  simp only [VR] at hu
  obtain ⟨e, hm, hu⟩ := hu
  obtain ⟨b1, c1⟩ := bnd_lo (defers := a.defers) c.t hlo h8
  have b2 := bnd_ok (defers := a.defers) c.t hhi h6
  have b3 := bnd_ok (defers := a.defers) c.t hmx h4
  have hhm : hh ≤ mm := by
    rcases b2 with ⟨_, ha, hb⟩ | ⟨q, _, e1, e2⟩
    · rcases b3 with ⟨_, _, h0⟩ | ⟨_, hq, _⟩
      · omega
      · subst ha
        cases amx with
        | none => exact absurd rfl hq
        | some _ => cases hok
    · exact e2
  have hb := r_bounds (P := P) (w := w) (isSl := false) (len := k) (cap := k) (lo := lo.map a.eval) (hi := hi.map a.eval) (mx := mx.map a.eval) (l := ll) (h := hh) (mm := mm)
    (by rcases b3 with ⟨rfl, _, h0⟩ | ⟨q, _, e1, e2⟩
        · exact .inl ⟨rfl, h0⟩
        · exact .inr ⟨q, e1, e2⟩)
    (by rcases b2 with ⟨rfl, ha, hb⟩ | ⟨q, _, e1, e2⟩
        · rcases b3 with ⟨rfl, _⟩ | ⟨_, hq, _⟩
          · exact .inl ⟨rfl, rfl, hb⟩
          · subst ha
            cases amx with
            | none => exact absurd rfl hq
            | some _ => cases hok
        · exact .inr ⟨q, e1, e2⟩) b1
  refine PGoal.mk (s := Instr.sliceAt t (a.eval x) (lo.map a.eval) (hi.map a.eval) (mx.map a.eval)) (v' := .slice (some ⟨e.b, if mm = ll then e.o + off else e.o + off + ll * n, none⟩) (hh - ll) (mm - ll)) (by simp [execOp, hop]) ?_ ?_
  · simp only [VR]
    refine ⟨e, _, _, hm, rfl, ?_, ?_, ?_⟩
    · show hh - ll ≤ mm - ll; omega
    · simp
    · by_cases hz : mm = ll
      · left; omega
      · right
        rw [if_neg hz]
        show e.o + off + ll * n = e.o + (off + ll * n)
        omega
  · have hadr : (if mm = ll then (⟨e.b, e.o + off, none⟩ : Addr) else (⟨e.b, e.o + off, none⟩ : Addr).add (ll * n)) = ⟨e.b, if mm = ll then e.o + off else e.o + off + ll * n, none⟩ := by
      by_cases hz : mm = ll
      · simp [hz]
      · simp [hz, addrAdd]
    rcases ht with ⟨e', ht, hn⟩ | ⟨r, e', ht, hr, hn⟩
    · simp only [Instr.sliceAt, Instr.sureAddr, Sem.run_bind, r_und ht, Result.andThen_ok, hu, Sem.run_pure]
      simp only [hb, Result.andThen_ok, r_size hn, hadr]
    · simp only [Instr.sliceAt, Instr.slice, asAddr, Sem.run_bind, r_und ht, r_und hr, Result.andThen_ok, hu, Sem.run_pure]
      simp only [hb, Result.andThen_ok, r_size hn, hadr]

/-- a part of a struct or an array -/
theorem ag_ok {t : TypeId} {g : Bool} {n off : Nat} {l : List AV} {v : AV} {vs : Array Value} (hg : tagg P t = some g) (hn : tsize P t = some n) (h : ag g l off n = some v) (hl : VRs ρ m l vs.toList) (hs : allSingle l = true) :
    ∃ v', VR ρ m v v' ∧ (part t vs off).run P w = .ok v' w := by
  cases g with
  | false =>
    rw [show ag false l off n = lget l off from rfl, lget_eq] at h
    obtain ⟨v', h1, h2⟩ := hl.get h
    exact ⟨v', h2, r_part_scalar hg (by simpa using h1)⟩
  | true =>
    obtain ⟨r, h1, h2⟩ := bd_some (show bd (cut l off n) _ = some v from h)
    cases h2
    obtain ⟨e1, e2⟩ := cut_some h1
    have hle : n = 0 ∨ off + n ≤ vs.size := by
      cases n with
      | zero => exact .inl rfl
      | succ n =>
        right
        have h3 := e2 n (by omega)
        have h4 : r[n]? = some (r[n]'(by omega)) := List.getElem?_eq_getElem (by omega)
        rw [h4] at h3
        have := (List.getElem?_eq_some_iff.1 h3.symm).1
        have := hl.length
        simp at this; omega
    refine ⟨.agg (vs.extract off (off + n)), ?_, by simp [part, r_agg hg, r_size hn]⟩
    simp only [VR]
    refine ⟨_, rfl, VRs.of_get (by simp [e1]; omega) fun i a hi => ?_, allSingle_of fun i a hi => ?_⟩
    · have hin : i < n := by rw [← e1]; exact (List.getElem?_eq_some_iff.1 hi).1
      obtain ⟨v', g1, g2⟩ := hl.get ((e2 i hin).symm.trans hi)
      refine ⟨v', ?_, g2⟩
      have g1' : vs[off + i]? = some v' := by simpa using g1
      rw [Array.getElem?_toList, Array.getElem?_extract]
      rw [if_pos (by rw [Nat.min_eq_left (hle.resolve_left (by omega))]; omega)]
      exact g1'
    · have hin : i < n := by rw [← e1]; exact (List.getElem?_eq_some_iff.1 hi).1
      exact allSingle_get hs ((e2 i hin).symm.trans hi)

theorem ok_fld (c : Ctx P ifts F ρ m T H a.tmps w.heap) {t : TypeId} {fs : Array Field} {f : Nat} {fd : Field} {n : Nat} {g : Bool} {x : Operand} {ax : AOpd} {v : AV} (hop : o.op = .field t x f) (hx : copd x = some ax)
    (ht : P.underlying t = some (.struct fs)) (hf : fs[f]? = some fd) (hn : tsize P fd.type = some n) (hg : tagg P fd.type = some g) (h : bd (ax.ev T) (fldV fd.offset n g) = some v) : PGoal P ρ m a w o v := by
  obtain ⟨u, h1, h2⟩ := bd_some h
  obtain ⟨l, rfl, h3⟩ := onAgg_some h2
  have hu := opd_ok c.t hx h1
  simp only [VR] at hu
  obtain ⟨vs, hu, hl, hs⟩ := hu
  obtain ⟨v', g1, g2⟩ := ag_ok (w := w) hg hn h3 hl hs
  refine PGoal.mk (s := Instr.field t (a.eval x) f) (by simp [execOp, hop]) g1 ?_
  simp only [Instr.field, Sem.run_bind, r_und ht, Result.andThen_ok, hf, hu, asAgg, Sem.run_pure]
  exact g2

theorem ok_ixs (c : Ctx P ifts F ρ m T H a.tmps w.heap) {t : TypeId} {x i : Operand} {ax ai : AOpd} {v : AV} (hop : o.op = .index t x i) (hx : copd x = some ax) (hi : copd i = some ai)
    (ht : P.underlying t = some .string) (h : (bd (ax.ev T) fun a => bd (ai.ev T) fun j => ixsV j a) = some v) : PGoal P ρ m a w o v := by
  obtain ⟨u, h1, h2⟩ := bd_some h
  obtain ⟨j, h3, h4⟩ := bd_some h2
  obtain ⟨l, rfl, h5⟩ := onS_some h4
  obtain ⟨q, h6, h7⟩ := bd_some (show bd (inn l.length j) _ = some v from h5)
  obtain ⟨ch, h8, h9⟩ := bd_some h7
  cases h9
  obtain ⟨kd, rfl, hlt⟩ := inn_some h6
  have hu := opd_ok c.t hx h1
  have hj := opd_ok c.t hi h3
  simp only [VR] at hu hj
  rw [nget_eq] at h8
  have hch : ch < 256 := hu.2 ch (List.mem_of_getElem? h8)
  refine PGoal.mk (s := Instr.index t (a.eval x) (a.eval i)) (v' := .int .u8 (ch : Int)) (by simp [execOp, hop]) (by simp only [VR]; rfl) ?_
  rw [hu.1, hj, run_index_string w t _ _ _ ht, dif_pos ⟨by simp, by simpa [bytesArr_size] using hlt⟩]
  have : ((bytesArr l)[(Int.ofNat q).toNat]'(by simpa [bytesArr_size] using hlt)) = UInt8.ofNat ch := by
    have e : l[q] = ch := (List.getElem?_eq_some_iff.1 h8).2
    show ((bytesArr l).data[q]'_) = _
    simp [bytesArr, e]
  rw [this]
  simp [Nat.mod_eq_of_lt hch]

theorem ok_ixa (c : Ctx P ifts F ρ m T H a.tmps w.heap) {t e' : TypeId} {k n : Nat} {g : Bool} {x i : Operand} {ax ai : AOpd} {v : AV} (hop : o.op = .index t x i) (hx : copd x = some ax) (hi : copd i = some ai)
    (ht : P.underlying t = some (.array k e')) (hn : tsize P e' = some n) (hg : tagg P e' = some g) (h : (bd (ax.ev T) fun a => bd (ai.ev T) fun j => ixaV k n g j a) = some v) : PGoal P ρ m a w o v := by
  obtain ⟨u, h1, h2⟩ := bd_some h
  obtain ⟨j, h3, h4⟩ := bd_some h2
  obtain ⟨l, rfl, h5⟩ := onAgg_some h4
  obtain ⟨q, h6, h7⟩ := bd_some (show bd (inn k j) _ = some v from h5)
  obtain ⟨kd, rfl, hlt⟩ := inn_some h6
  have hu := opd_ok c.t hx h1
  have hj := opd_ok c.t hi h3
  simp only [VR] at hu hj
  obtain ⟨vs, hu, hl, hs⟩ := hu
  obtain ⟨v', g1, g2⟩ := ag_ok (w := w) hg hn h7 hl hs
  refine PGoal.mk (s := Instr.index t (a.eval x) (a.eval i)) (by simp [execOp, hop]) g1 ?_
  simp only [Instr.index, Sem.run_bind, hj, asIntOf, Sem.run_pure, Result.andThen_ok, r_und ht, hu]
  have : (0 : Int) ≤ Int.ofNat q ∧ Int.ofNat q < (k : Int) := ⟨by simp, by simp; omega⟩
  simp only [this, and_self, if_true, Sem.run_bind, r_size hn, Result.andThen_ok]
  exact g2
end
end Go.Ev

namespace Go.Ev
open Go
section
variable {P : Program} {ifts : List TypeId} {F : Facts} {ρ : Nat → Value} {m : Emb} {T : Tr AV} {H : AH} {a : Act} {w : World} {o : Oper}

theorem tkq_und {t : TypeId} {q : EqT} (h : tkq P t = some q) : teq P t false = some q ∧ ∃ d, P.underlying t = some d ∧
    ((q = .bool ∧ d = .bool) ∨ (q = .int ∧ ∃ k, d = .int k) ∨ (q = .str ∧ d = .string) ∨ (q = .ptr ∧ ∃ e, d = .pointer e) ∨ (∃ l fs, q = .st l ∧ d = .struct fs ∧ teqFields P fs.toList = some l)) := by
  obtain ⟨q', h1, h2⟩ := bd_some h
  obtain ⟨d, h3, h4⟩ := bd_some h1
  have hq : q' = q := by cases q' <;> cases h2 <;> rfl
  subst hq
  refine ⟨h1, d, h3, ?_⟩
  cases d <;> first
    | (cases h4; done)
    | (cases h4; cases h2; done)
    | (cases h4; exact .inl ⟨rfl, rfl⟩)
    | (cases h4; exact .inr (.inl ⟨rfl, _, rfl⟩))
    | (cases h4; exact .inr (.inr (.inl ⟨rfl, rfl⟩)))
    | skip
  · obtain ⟨n, _, h5⟩ := bd_some h4
    cases n with
    | zero => cases h5
    | succ n => cases h5; exact .inr (.inr (.inr (.inl ⟨rfl, _, rfl⟩)))
  · rename_i fs
    revert h4
    cases P.stoodInHeld t <;> cases teq.Op.eqGuardType' P t <;> intro h4 <;> first
      | (cases h4; done)
      | (obtain ⟨l, h6, h5⟩ := bd_some h4; cases h5; exact .inr (.inr (.inr (.inr ⟨_, _, rfl, rfl, h6⟩))))

/-- types that are no parts of others ask nothing -/
theorem run_checkKey_flat {t : TypeId} {d : TypeDesc} (h : P.underlying t = some d) (hd : (∃ k, d = .int k) ∨ d = .bool ∨ d = .string ∨ ∃ e, d = .pointer e) (v : Value) (em : Bool) (n : Nat) : (Instr.checkKey em (n + 1) t v).run P w = .ok () w := by
  unfold Instr.checkKey
  simp only [Sem.run_bind, r_und h, Result.andThen_ok]
  rcases hd with ⟨k, rfl⟩ | rfl | rfl | ⟨e, rfl⟩ <;> simp

theorem run_checkFields (em : Bool) (n : Nat) (cs : Array Value) : ∀ (fs : List Field) (l : List (Nat × Nat × Bool × EqT)), teqFields P fs = some l → (∀ f ∈ l, f.1 < cs.size) →
    (forIn fs PUnit.unit fun f _ => if f.name ≠ "_" then (do
      let x ← part f.type cs f.offset
      Instr.checkKey em (n + 1) f.type x
      pure (ForInStep.yield PUnit.unit)) else pure (ForInStep.yield PUnit.unit) : Sem PUnit).run P w = .ok () w
  | [], _, _, _ => by simp
  | f :: fs, l, h, hb => by
    simp only [teqFields] at h
    cases hn : (f.name == "_") with
    | true => rw [hn] at h; cases h
    | false =>
      rw [hn] at h
      obtain ⟨ut, h1, h2⟩ := bd_some h
      obtain ⟨sz, h3, h4⟩ := bd_some h2
      obtain ⟨l', h5, h6⟩ := bd_some h4
      have hne : f.name ≠ "_" := by simpa using hn
      have step : ∀ q, l = (f.offset, sz, false, q) :: l' → ((∃ k, ut = .int k) ∨ ut = .bool ∨ ut = .string) → tagg P f.type = some false → (forIn (f :: fs) PUnit.unit fun f _ => if f.name ≠ "_" then (do
          let x ← part f.type cs f.offset
          Instr.checkKey em (n + 1) f.type x
          pure (ForInStep.yield PUnit.unit)) else pure (ForInStep.yield PUnit.unit) : Sem PUnit).run P w = .ok () w := by
        intro q hl hu hg
        subst hl
        have hlt : f.offset < cs.size := hb (f.offset, sz, false, q) (by simp)
        have ih := run_checkFields em n cs fs l' h5 fun f hf => hb f (by simp [hf])
        have hp : (part f.type cs f.offset).run P w = .ok cs[f.offset] w := r_part_scalar hg (by simp [hlt])
        have hc : (Instr.checkKey em (n + 1) f.type cs[f.offset]).run P w = .ok () w := run_checkKey_flat h1 (by rcases hu with hu | hu | hu; exact .inl hu; exact .inr (.inl hu); exact .inr (.inr (.inl hu))) _ em n
        simp only [List.forIn_cons, hne, ne_eq, not_false_eq_true, if_true, Sem.run_bind, hp, Result.andThen_ok, hc, Sem.run_pure]
        exact ih
      cases ut <;> first
        | (cases h6; done)
        | (cases h6; exact step _ rfl (.inl ⟨_, rfl⟩) (tagg_of_und h1 (by simp) (by simp)))
        | (cases h6; exact step _ rfl (.inr (.inl rfl)) (tagg_of_und h1 (by simp) (by simp)))
        | (cases h6; exact step _ rfl (.inr (.inr rfl)) (tagg_of_und h1 (by simp) (by simp)))

theorem run_checkKey' {t : TypeId} {q : EqT} (h : tkq P t = some q) {k : AV} {v : Value} (hf : kfit q k = true) (hk : VR ρ m k v) (em : Bool) : (Instr.checkKey em 10000 t v).run P w = .ok () w := by
  obtain ⟨_, d, h1, h2⟩ := tkq_und h
  rcases h2 with ⟨_, rfl⟩ | ⟨_, k, rfl⟩ | ⟨_, rfl⟩ | ⟨_, e, rfl⟩ | ⟨l, fs, rfl, rfl, h3⟩
  · exact run_checkKey_flat h1 (by simp) v em 9999
  · exact run_checkKey_flat h1 (by simp) v em 9999
  · exact run_checkKey_flat h1 (by simp) v em 9999
  · exact run_checkKey_flat h1 (by simp) v em 9999
  · cases k with
    | agg cs =>
      simp only [VR] at hk
      obtain ⟨vs, rfl, hv, _⟩ := hk
      show (Instr.checkKey em (9999 + 1) t (.agg vs)).run P w = _
      unfold Instr.checkKey
      simp only [Sem.run_bind, r_und h1, Result.andThen_ok, ← Array.forIn_toList]
      refine (congrArg (fun r => Result.andThen r _) (run_checkFields (P := P) (w := w) em 9998 vs fs.toList l h3 fun f hf' => ?_)).trans rfl
      have : (l.all fun f => Nat.blt f.1 cs.length) = true := hf
      have h4 := List.all_eq_true.1 this f hf'
      have h5 := hv.length
      simp at h4 h5; omega
    | _ => cases hf

theorem bytesArr_inj {l l' : List Nat} (h : ∀ n ∈ l, n < 256) (h' : ∀ n ∈ l', n < 256) (e : bytesArr l = bytesArr l') : l = l' := by
  have := bytesArr_beq h h'
  rw [e] at this
  have h1 : (((bytesArr l').toList) == ((bytesArr l').toList)) = true := beq_self_eq_true _
  rw [h1] at this
  exact eq_of_beq this.symm

/-- what a comparison of keys says -/
theorem key_same (hw : WR P ifts ρ m H w.heap) {t : TypeId} {q : EqT} {x y : AV} {vx vy : Value} {r : Bool} (hq : tkq P t = some q) (h : aeq q x y H = some r) (hx : VR ρ m x vx) (hy : VR ρ m y vy) :
    (Op.equal t vx vy).run P w = .ok r w ∧ (∀ d r', P.underlying t = some d → Instr.sameNow d vx vy = some r' → r' = r) := by
  obtain ⟨h1, d, h2, h3⟩ := tkq_und hq
  refine ⟨aeq_ok (d := 9998) hw h1 h hx hy, ?_⟩
  intro d' r' hd hr
  rw [h2] at hd; cases hd
  rcases h3 with ⟨rfl, rfl⟩ | ⟨rfl, k0, rfl⟩ | ⟨rfl, rfl⟩ | ⟨rfl, e, rfl⟩ | ⟨l, fs, rfl, rfl, _⟩
  · obtain ⟨i, rfl, h4⟩ := onB_some (show onB _ x = some r from h)
    obtain ⟨i', rfl, h5⟩ := onB_some h4
    cases h5
    simp only [VR] at hx hy; subst hx; subst hy
    simpa [Instr.sameNow] using hr.symm
  · obtain ⟨k, i, rfl, h4⟩ := onI_some (show onI _ x = some r from h)
    obtain ⟨k', i', rfl, h5⟩ := onI_some h4
    obtain ⟨h6, h7⟩ := orN_some h5
    cases h7
    cases kbeq_eq h6
    simp only [VR] at hx hy; subst hx; subst hy
    simpa [Instr.sameNow, ieq_eq] using hr.symm
  · obtain ⟨l, rfl, h4⟩ := onS_some (show onS _ x = some r from h)
    obtain ⟨l', rfl, h5⟩ := onS_some h4
    cases h5
    simp only [VR] at hx hy
    obtain ⟨rfl, hl⟩ := hx
    obtain ⟨rfl, hl'⟩ := hy
    simp only [Instr.sameNow, Option.some.injEq] at hr
    rw [← hr, Bool.eq_iff_iff, MapKept.bytes_beq, beq_iff_eq]
    exact ⟨bytesArr_inj hl hl', fun h => by rw [h]⟩
  · cases hr
  · cases hr

theorem plain1_same {x : AV} (h : plain1 x = true) {v v' : Value} (hv : VR ρ m x v) (hv' : VR ρ m x v') (n : Nat) : v = v' ∧ Instr.sameBits n v v = true := by
  cases x <;> first
    | (cases h; done)
    | skip
  · simp only [VR] at hv hv'; subst hv; subst hv'; simp [Instr.sameBits]
  · simp only [VR] at hv hv'; subst hv; subst hv'; simp [Instr.sameBits]
  · simp only [VR] at hv hv'
    rw [hv.1, hv'.1]
    exact ⟨rfl, by simp only [Instr.sameBits]; exact (MapKept.bytes_beq _ _).2 rfl⟩

theorem plains_same (n : Nat) : ∀ {l : List AV} (_ : l.all plain1 = true) {vs vs' : List Value}, VRs ρ m l vs → VRs ρ m l vs' → vs = vs' ∧ ((vs.zip vs).all fun (x, y) => Instr.sameBits n x y) = true
  | [], _, vs, vs', h, h' => by rw [h.nil_inv, h'.nil_inv]; exact ⟨rfl, rfl⟩
  | x :: l, hp, vs, vs', h, h' => by
    obtain ⟨v, r, rfl, h1, h2⟩ := h.cons_inv
    obtain ⟨v', r', rfl, h3, h4⟩ := h'.cons_inv
    simp only [List.all_cons, Bool.and_eq_true] at hp
    obtain ⟨e1, e2⟩ := plain1_same hp.1 h1 h3 n
    obtain ⟨e3, e4⟩ := plains_same n hp.2 h2 h4
    subst e1; subst e3
    exact ⟨rfl, by simp only [List.zip_cons_cons, List.all_cons, e2, e4, Bool.and_self]⟩

/-- a plain key is one value -/
theorem plain_same {x : AV} (h : plain x = true) {v v' : Value} (hv : VR ρ m x v) (hv' : VR ρ m x v') : Instr.sameBits 10000 v v' = true := by
  cases x with
  | b y => obtain ⟨e, g⟩ := plain1_same (x := .b y) rfl hv hv' 10000; rw [← e]; exact g
  | i k y => obtain ⟨e, g⟩ := plain1_same (x := .i k y) rfl hv hv' 10000; rw [← e]; exact g
  | s y => obtain ⟨e, g⟩ := plain1_same (x := .s y) rfl hv hv' 10000; rw [← e]; exact g
  | np => simp only [VR] at hv hv'; subst hv; subst hv'; simp [Instr.sameBits]
  | p b off =>
    simp only [VR] at hv hv'
    obtain ⟨e, h1, rfl⟩ := hv
    obtain ⟨e', h2, rfl⟩ := hv'
    rw [h1] at h2; cases h2
    simp [Instr.sameBits]
  | agg l =>
    simp only [VR] at hv hv'
    obtain ⟨vs, rfl, h1, _⟩ := hv
    obtain ⟨vs', rfl, h2, _⟩ := hv'
    obtain ⟨e, g⟩ := plains_same 9999 (show l.all plain1 = true from h) h1 h2
    have e' : vs = vs' := Array.toList_inj.1 e
    subst e'
    show Instr.sameBits (9999 + 1) _ _ = true
    simp only [Instr.sameBits, beq_self_eq_true, Bool.true_and]
    exact g
  | _ => cases h

theorem findE_ok (hw : WR P ifts ρ m H w.heap) {t : TypeId} {q : EqT} (hq : tkq P t = some q) {d : TypeDesc} (hd : P.underlying t = some d) {k : AV} {vk : Value} (hk : VR ρ m k vk) :
    ∀ {es : List (AV × AV × Nat)} {es' : List MapEntry} {n : Nat} {r : Option (Nat × AV)}, findE q k H es n = some r → ER ρ m es es' →
      (r = none ∧ (Instr.findAsking t vk es' n).run P w = .ok none w ∧ ∀ r', Instr.findNow d vk es' n = some r' → r' = none) ∨
      ∃ j e' e, r = some (n + j, e.2.1) ∧ es[j]? = some e ∧ es'[j]? = some e' ∧ VR ρ m e.1 e'.key ∧ VR ρ m e.2.1 e'.val ∧ e'.born = e.2.2 ∧
        (Instr.findAsking t vk es' n).run P w = .ok (some (n + j, e'.val)) w ∧ ∀ r', Instr.findNow d vk es' n = some r' → r' = some (n + j, e'.val)
  | [], es', n, r, h, he => by
    cases h
    cases he
    exact .inl ⟨rfl, by simp [Instr.findAsking], fun r' hr => by simpa [Instr.findNow] using hr.symm⟩
  | (k', v, st) :: es, es', n, r, h, he => by
    obtain ⟨e0, es'', rfl, h1, h2, h3, h4⟩ := he
    obtain ⟨b, h5, h6⟩ := bd_some (show bd (aeq q k k' H) _ = some r by simpa only [findE] using h)
    obtain ⟨g1, g2⟩ := key_same hw hq h5 hk h1
    cases b with
    | true =>
      cases h6
      refine .inr ⟨0, e0, (k', v, st), rfl, rfl, rfl, h1, h2, h3, ?_, ?_⟩
      · simp [Instr.findAsking, g1]
      · intro r' hr
        simp only [Instr.findNow] at hr
        split at hr
        · cases hr; rfl
        · rename_i hs; exact absurd (g2 d _ hd hs) (by simp)
        · cases hr
    | false =>
      have hfa : (Instr.findAsking t vk (e0 :: es'') n).run P w = (Instr.findAsking t vk es'' (n + 1)).run P w := by simp [Instr.findAsking, g1]
      have hfn : ∀ r', Instr.findNow d vk (e0 :: es'') n = some r' → Instr.findNow d vk es'' (n + 1) = some r' := by
        intro r' hr
        simp only [Instr.findNow] at hr
        split at hr
        · rename_i hs; exact absurd (g2 d _ hd hs) (by simp)
        · exact hr
        · cases hr
      rcases findE_ok hw hq hd hk (show findE q k H es (n + 1) = some r from h6) h4 with ⟨i1, i2, i3⟩ | ⟨j, e', e, i1, i2, i3, i4, i5, i6, i8, i9⟩
      · exact .inl ⟨i1, by rw [hfa]; exact i2, fun r' hr => i3 r' (hfn r' hr)⟩
      · refine .inr ⟨j + 1, e', e, by rw [i1]; congr 2; omega, by simpa using i2, by simpa using i3, i4, i5, i6, ?_, ?_⟩
        · rw [hfa, i8]; congr 3; omega
        · intro r' hr; rw [i9 r' (hfn r' hr)]; congr 2; omega

/-- 'findKey', as the evaluator finds -/
theorem findKey_ok (hw : WR P ifts ρ m H w.heap) {t : TypeId} {q : EqT} (hq : tkq P t = some q) {k : AV} {vk : Value} (hk : VR ρ m k vk) {es : List (AV × AV × Nat)} {es' : List MapEntry} {r : Option (Nat × AV)}
    (h : findE q k H es 0 = some r) (he : ER ρ m es es') :
      (r = none ∧ (Instr.findKey t vk es').run P w = .ok none w) ∨
      ∃ j e' e, r = some (j, e.2.1) ∧ es[j]? = some e ∧ es'[j]? = some e' ∧ VR ρ m e.1 e'.key ∧ VR ρ m e.2.1 e'.val ∧ e'.born = e.2.2 ∧
        (Instr.findKey t vk es').run P w = .ok (some (j, e'.val)) w := by
  obtain ⟨_, d, hd, _⟩ := tkq_und hq
  have key : ∀ x : Option (Nat × Value), (Instr.findAsking t vk es' 0).run P w = .ok x w → (∀ r', Instr.findNow d vk es' 0 = some r' → r' = x) → (Instr.findKey t vk es').run P w = .ok x w := by
    intro x h1 h2
    simp only [Instr.findKey, Sem.run_bind, r_und hd, Result.andThen_ok]
    split
    · rename_i r' hr; rw [h2 r' hr]; rfl
    · exact h1
  rcases findE_ok hw hq hd hk h he with ⟨i1, i2, i3⟩ | ⟨j, e', e, i1, i2, i3, i4, i5, i6, i8, i9⟩
  · exact .inl ⟨i1, key _ i2 i3⟩
  · rw [Nat.zero_add] at i1 i8
    exact .inr ⟨j, e', e, i1, i2, i3, i4, i5, i6, key _ i8 fun r' hr => by rw [i9 r' hr]; simp⟩

theorem ER.length : ∀ {es : List (AV × AV × Nat)} {l : List MapEntry}, ER ρ m es l → es.length = l.length
  | [], _, h => by cases h; rfl
  | (_, _, _) :: es, _, h => by obtain ⟨e0, es'', rfl, _, _, _, h4⟩ := h; simp [ER.length h4]

/-- the entries behind a map's value -/
theorem ents_ok (hw : WR P ifts ρ m H w.heap) {u : AV} {v : Value} {es : List (AV × AV × Nat)} (h : ents H u = some es) (hv : VR ρ m u v) :
    (v = .map none ∧ es = []) ∨ ∃ r es' clock, v = .map (some r) ∧ w.heap[r]? = some (.map es' clock) ∧ ER ρ m es es'.toList := by
  rcases onMp_some h with ⟨rfl, h1⟩ | ⟨b, rfl, h1⟩
  · cases h1; simp only [VR] at hv; exact .inl ⟨hv, rfl⟩
  · obtain ⟨ob, h2, h3⟩ := bd_some h1
    simp only [VR] at hv
    obtain ⟨e, hm, hv⟩ := hv
    cases ob with
    | map es0 clock =>
      cases h3
      obtain ⟨_, es', h4, h5⟩ := hw.ob b _ e h2 hm
      exact .inr ⟨e.b, es', clock, hv, h4, h5⟩
    | _ => cases h3

theorem ok_lk (c : Ctx P ifts F ρ m T H a.tmps w.heap) {t k e' : TypeId} {q : EqT} {z : AV} {x i : Operand} {ax ai : AOpd} {ok : Bool} {v : AV} (hop : o.op = .lookup t x i ok) (hx : copd x = some ax) (hi : copd i = some ai)
    (ht : P.underlying t = some (.map k e')) (hq : tkq P k = some q) (hz : tzero P e' = some z)
    (h : (bd (ax.ev T) fun a => bd (ai.ev T) fun k => orN (kfit q k) (bd (ents H a) fun es => bd (findE q k H es 0) (lkR z ok))) = some v) : PGoal P ρ m a w o v := by
  obtain ⟨u, h1, h2⟩ := bd_some h
  obtain ⟨j, h3, h4⟩ := bd_some h2
  obtain ⟨hf, h4⟩ := orN_some h4
  obtain ⟨es, h5, h6⟩ := bd_some h4
  obtain ⟨r, h7, h8⟩ := bd_some h6
  have hu := opd_ok c.t hx h1
  have hj := opd_ok c.t hi h3
  obtain ⟨vz, z1, z2⟩ := r_zero hz
  have fin : ∀ es' : Array MapEntry, ER ρ m es es'.toList → ∃ v', VR ρ m v v' ∧ ((r = none ∧ (Instr.findKey k (a.eval i) es'.toList).run P w = .ok none w ∧ v' = if ok then .tuple #[vz, .bool false] else vz) ∨
      ∃ n x, (Instr.findKey k (a.eval i) es'.toList).run P w = .ok (some (n, x)) w ∧ v' = if ok then .tuple #[x, .bool true] else x) := by
    intro es' he
    rcases findKey_ok c.w hq hj h7 he with ⟨rfl, g1⟩ | ⟨n, e0, e, rfl, _, _, _, g5, _, g1⟩
    · cases h8
      refine ⟨if ok then .tuple #[vz, .bool false] else vz, ?_, .inl ⟨rfl, g1, rfl⟩⟩
      cases ok with
      | true => simp only [iff_true, if_true, VR]; exact ⟨_, rfl, .cons (z1 ρ m) (.cons (by simp only [VR]) .nil)⟩
      | false => exact z1 ρ m
    · cases h8
      refine ⟨if ok then .tuple #[e0.val, .bool true] else e0.val, ?_, .inr ⟨n, e0.val, g1, rfl⟩⟩
      cases ok with
      | true => simp only [iff_true, if_true, VR]; exact ⟨_, rfl, .cons g5 (.cons (by simp only [VR]) .nil)⟩
      | false => exact g5
  rcases ents_ok c.w h5 hu with ⟨e1, rfl⟩ | ⟨r', es', clock, e1, e2, e3⟩
  · obtain ⟨v', g1, g2⟩ := fin #[] (by simp [ER])
    refine PGoal.mk (s := Instr.lookup t (a.eval x) (a.eval i) ok) (by simp [execOp, hop]) g1 ?_
    simp only [Instr.lookup, Sem.run_bind, r_und ht, Result.andThen_ok, e1, Sem.run_pure, run_checkKey' hq hf hj]
    rcases g2 with ⟨_, g3, rfl⟩ | ⟨n, y, g3, rfl⟩
    · simp only [g3, Result.andThen_ok]; simp [z2]
    · simp only [g3, Result.andThen_ok]; simp
  · obtain ⟨v', g1, g2⟩ := fin es' e3
    refine PGoal.mk (s := Instr.lookup t (a.eval x) (a.eval i) ok) (by simp [execOp, hop]) g1 ?_
    simp only [Instr.lookup, Sem.run_bind, r_und ht, Result.andThen_ok, e1, Sem.run_pure, run_checkKey' hq hf hj, MapKept.run_getObj_map e2]
    rcases g2 with ⟨_, g3, rfl⟩ | ⟨n, y, g3, rfl⟩
    · simp only [g3, Result.andThen_ok]; simp [z2]
    · simp only [g3, Result.andThen_ok]; simp
end
end Go.Ev

namespace Go.Ev
open Go
section
variable {P : Program} {ifts : List TypeId} {F : Facts} {ρ : Nat → Value} {m : Emb} {T : Tr AV} {H : AH} {a : Act} {w : World} {o : Oper}

theorem exec_builtin {b : Builtin} {k : Call} (hop : o.op = .call k) (hb : k.callee = .builtin b) :
    ∃ cs, (execOp a.eval o).run P w = (builtin b k.argTypes o.type cs (k.args.map a.eval)).run P w := by
  refine ⟨k.args.map fun | .const _ => true | _ => false, ?_⟩
  simp only [execOp, hop, Sem.run_bind, resolve, hb, Sem.run_pure, Result.andThen_ok, invoke]
  rfl

theorem copds_one {l : List Operand} {ax : AOpd} (h : copds l = some [ax]) : ∃ x, l = [x] ∧ copd x = some ax := by
  cases l with
  | nil => cases h
  | cons x l =>
    obtain ⟨y, h1, h2⟩ := bd_some (show bd (copd x) _ = some [ax] from h)
    obtain ⟨ys, h3, h4⟩ := bd_some h2
    cases h4
    cases l with
    | nil => exact ⟨x, rfl, h1⟩
    | cons x' l =>
      obtain ⟨y', _, h6⟩ := bd_some (show bd (copd x') _ = some [] from h3)
      obtain ⟨ys', _, h8⟩ := bd_some h6
      cases h8

theorem copds_two {l : List Operand} {ax ay : AOpd} (h : copds l = some [ax, ay]) : ∃ x y, l = [x, y] ∧ copd x = some ax ∧ copd y = some ay := by
  cases l with
  | nil => cases h
  | cons x l =>
    obtain ⟨y, h1, h2⟩ := bd_some (show bd (copd x) _ = some [ax, ay] from h)
    obtain ⟨ys, h3, h4⟩ := bd_some h2
    cases h4
    obtain ⟨y', rfl, h6⟩ := copds_one h3
    exact ⟨x, y', rfl, h1, h6⟩

theorem args_one {A : Array Operand} {x : Operand} (h : A.toList = [x]) (f : Operand → Value) : A.map f = #[f x] := by
  rw [show A = #[x] from Array.toList_inj.1 h]; simp
theorem args_two {A : Array Operand} {x y : Operand} (h : A.toList = [x, y]) (f : Operand → Value) : A.map f = #[f x, f y] := by
  rw [show A = #[x, y] from Array.toList_inj.1 h]; simp

/-- a builtin's goal -/
theorem PGoal.bi {v : AV} {b : Builtin} {k : Call} {s : TypeId → Sem Value} {v' : Value} (hop : o.op = .call k) (hb : k.callee = .builtin b)
    (h : ∀ cs, builtin b k.argTypes o.type cs (k.args.map a.eval) = (do pure (.value (← s o.type)))) (hv : VR ρ m v v') (hs : (s o.type).run P w = .ok v' w) : PGoal P ρ m a w o v := by
  obtain ⟨cs, h1⟩ := exec_builtin (P := P) (w := w) (a := a) hop hb
  exact ⟨v', hv, by rw [h1, h]; simp [hs]⟩

theorem ok_lns (c : Ctx P ifts F ρ m T H a.tmps w.heap) {k : Call} {t : TypeId} {str : Bool} {ax : AOpd} {v : AV} (hop : o.op = .call k) (hb : k.callee = .builtin .len) (hargs : copds k.args.toList = some [ax])
    (ht : k.argTypes[0]? = some t) (hu : (str = true ∧ P.underlying t = some .string) ∨ (str = false ∧ ∃ e, P.underlying t = some (.slice e))) (h : bd (ax.ev T) (lnsV str F) = some v) : PGoal P ρ m a w o v := by
  obtain ⟨x, hl, hx⟩ := copds_one hargs
  obtain ⟨u, h1, h2⟩ := bd_some h
  have hv := opd_ok c.t hx h1
  have go : ∀ n : Nat, v = .i .i64 (Int.ofNat n) → (Builtin.len_ k.argTypes o.type #[a.eval x]).run P w = .ok (goInt n) w → PGoal P ρ m a w o v := by
    intro n e1 e2
    refine PGoal.bi (s := fun ty => Builtin.len_ k.argTypes ty #[a.eval x]) hop hb (fun cs => by rw [args_one hl]; rfl) (v' := goInt n) (by rw [e1]; simp only [VR]; rfl) e2
  rcases onSx_some h2 with ⟨b, j, rfl, h3⟩ | ⟨_, h2⟩
  case inl =>
    rcases hu with ⟨rfl, _⟩ | ⟨rfl, e, hu⟩
    · cases h3
    · cases h3
      simp only [VR] at hv
      obtain ⟨e', n, c', hm, hk, hv, _⟩ := hv
      refine PGoal.bi (s := fun ty => Builtin.len_ k.argTypes ty #[a.eval x]) hop hb (fun cs => by rw [args_one hl]; rfl) (v' := goInt n) (by simp only [VR]; rw [hk]; rfl) ?_
      rw [hv]
      simp [Builtin.len_, ht, r_und hu]
  rcases onLen_some h2 with ⟨rfl, h3⟩ | ⟨b, off, len, cap, ex, rfl, h3⟩ | ⟨l, rfl, h3⟩ | ⟨j, rfl, h3⟩
  · rcases hu with ⟨rfl, _⟩ | ⟨rfl, e, hu⟩
    · cases h3
    · cases h3
      simp only [VR] at hv
      exact go 0 rfl (by simp [Builtin.len_, ht, r_und hu, hv])
  · rcases hu with ⟨rfl, _⟩ | ⟨rfl, e, hu⟩
    · cases h3
    · cases h3
      simp only [VR] at hv
      obtain ⟨_, _, _, _, hv, _⟩ := hv
      exact go len rfl (by simp [Builtin.len_, ht, r_und hu, hv])
  · rcases hu with ⟨rfl, hu⟩ | ⟨rfl, e, _⟩
    · cases h3
      simp only [VR] at hv
      exact go l.length rfl (by simp [Builtin.len_, ht, r_und hu, hv.1, bytesArr_size])
    · cases h3
  · rcases hu with ⟨rfl, _⟩ | ⟨rfl, e, hu⟩
    · cases h3
    · obtain ⟨a', n, k', e1, e2⟩ := c.f.len _ _ (findLen_mem (show findLen j F.len = some v from h3))
      simp only [VR] at hv
      refine PGoal.bi (s := fun ty => Builtin.len_ k.argTypes ty #[a.eval x]) hop hb (fun cs => by rw [args_one hl]; rfl) (v' := goInt n) (e2 m) ?_
      rw [hv, e1]
      simp [Builtin.len_, ht, r_und hu]

theorem ok_lnc {k : Call} {t : TypeId} {n : Nat} {ax : AOpd} (hop : o.op = .call k) (hb : k.callee = .builtin .len) (hargs : copds k.args.toList = some [ax]) (ht : k.argTypes[0]? = some t)
    (hu : (∃ e, P.underlying t = some (.array n e)) ∨ ∃ r e, P.underlying t = some (.pointer r) ∧ P.underlying r = some (.array n e)) : PGoal P ρ m a w o (.i .i64 (.ofNat n)) := by
  obtain ⟨x, hl, hx⟩ := copds_one hargs
  refine PGoal.bi (s := fun ty => Builtin.len_ k.argTypes ty #[a.eval x]) hop hb (fun cs => by rw [args_one hl]; rfl) (v' := goInt n) (by simp only [VR]; rfl) ?_
  rcases hu with ⟨e, hu⟩ | ⟨r, e, hu, hr⟩
  · simp [Builtin.len_, ht, r_und hu]
  · simp [Builtin.len_, ht, r_und hu, r_und hr]

theorem ok_lnm (c : Ctx P ifts F ρ m T H a.tmps w.heap) {k : Call} {t kt et : TypeId} {ax : AOpd} {v : AV} (hop : o.op = .call k) (hb : k.callee = .builtin .len) (hargs : copds k.args.toList = some [ax])
    (ht : k.argTypes[0]? = some t) (hu : P.underlying t = some (.map kt et)) (h : (bd (ax.ev T) fun a => bd (ents H a) fun es => some (AV.i .i64 (.ofNat es.length))) = some v) : PGoal P ρ m a w o v := by
  obtain ⟨x, hl, hx⟩ := copds_one hargs
  obtain ⟨u, h1, h2⟩ := bd_some h
  obtain ⟨es, h3, h4⟩ := bd_some h2
  cases h4
  have hv := opd_ok c.t hx h1
  refine PGoal.bi (s := fun ty => Builtin.len_ k.argTypes ty #[a.eval x]) hop hb (fun cs => by rw [args_one hl]; rfl) (v' := goInt es.length) (by simp only [VR]; rfl) ?_
  rcases ents_ok c.w h3 hv with ⟨e1, rfl⟩ | ⟨r, es', clock, e1, e2, e3⟩
  · simp [Builtin.len_, ht, r_und hu, e1]
  · have := e3.length
    simp [Builtin.len_, ht, r_und hu, e1, MapKept.run_getObj_map e2, this]

theorem cpV_some {u v : AV} (h : cpV u = some v) : (u = .nsl ∧ v = .i .i64 0) ∨ ∃ b off len cap, u = .sl b off len cap true ∧ v = .i .i64 (.ofNat cap) := by
  unfold cpV at h
  split at h
  · cases h; exact .inl ⟨rfl, rfl⟩
  · cases h; exact .inr ⟨_, _, _, _, rfl, rfl⟩
  · cases h

theorem ok_cp (c : Ctx P ifts F ρ m T H a.tmps w.heap) {k : Call} {t e : TypeId} {ax : AOpd} {v : AV} (hop : o.op = .call k) (hb : k.callee = .builtin .cap) (hargs : copds k.args.toList = some [ax])
    (ht : k.argTypes[0]? = some t) (hu : P.underlying t = some (.slice e)) (h : bd (ax.ev T) cpV = some v) : PGoal P ρ m a w o v := by
  obtain ⟨x, hl, hx⟩ := copds_one hargs
  obtain ⟨u, h1, h2⟩ := bd_some h
  have hv := opd_ok c.t hx h1
  rcases cpV_some h2 with ⟨rfl, rfl⟩ | ⟨b, off, len, cap, rfl, rfl⟩ <;> simp only [VR] at hv
  · refine PGoal.bi (s := fun ty => Builtin.cap_ k.argTypes ty #[a.eval x]) hop hb (fun cs => by rw [args_one hl]; rfl) (v' := goInt 0) (by simp only [VR]; rfl) ?_
    simp [Builtin.cap_, ht, r_und hu, hv]
  · obtain ⟨_, _, c', _, hv, _, hc, _⟩ := hv
    refine PGoal.bi (s := fun ty => Builtin.cap_ k.argTypes ty #[a.eval x]) hop hb (fun cs => by rw [args_one hl]; rfl) (v' := goInt cap) (by simp only [VR]; rfl) ?_
    simp at hc
    simp [Builtin.cap_, ht, r_und hu, hv, hc]

theorem mxs_ok : ∀ {l : List AV} {x v : AV} {vs : List Value} {vx : Value}, mxs l x = some v → VRs ρ m l vs → VR ρ m x vx → ∃ v', VR ρ m v v' ∧ (vs.foldlM Builtin.max2 vx).run P w = .ok v' w
  | [], x, v, vs, vx, h, hl, hx => by cases h; rw [hl.nil_inv]; exact ⟨vx, hx, by simp⟩
  | y :: l, x, v, vs, vx, h, hl, hx => by
    obtain ⟨vy, vs', rfl, h1, h2⟩ := hl.cons_inv
    cases y <;> first
      | (cases h; done)
      | skip
    cases x <;> first
      | (cases h; done)
      | skip
    rename_i k' y k x
    simp only [VR] at h1 hx
    subst h1; subst hx
    obtain ⟨v', g1, g2⟩ := mxs_ok (show mxs l (.i k (iff (ilt x y) y x)) = some v from h) h2 (vx := .int k (if y > x then y else x)) (by
      simp only [VR, ilt_eq]
      by_cases hlt : x < y
      · simp [hlt]
      · simp [hlt])
    exact ⟨v', g1, by simp only [List.foldlM_cons, Sem.run_bind, Builtin.max2, Sem.run_pure, Result.andThen_ok]; exact g2⟩

theorem mns_ok : ∀ {l : List AV} {x v : AV} {vs : List Value} {vx : Value}, mns l x = some v → VRs ρ m l vs → VR ρ m x vx → ∃ v', VR ρ m v v' ∧ (vs.foldlM Builtin.min2 vx).run P w = .ok v' w
  | [], x, v, vs, vx, h, hl, hx => by cases h; rw [hl.nil_inv]; exact ⟨vx, hx, by simp⟩
  | y :: l, x, v, vs, vx, h, hl, hx => by
    obtain ⟨vy, vs', rfl, h1, h2⟩ := hl.cons_inv
    cases y <;> first
      | (cases h; done)
      | skip
    cases x <;> first
      | (cases h; done)
      | skip
    rename_i k' y k x
    simp only [VR] at h1 hx
    subst h1; subst hx
    obtain ⟨v', g1, g2⟩ := mns_ok (show mns l (.i k (iff (ilt y x) y x)) = some v from h) h2 (vx := .int k (if y < x then y else x)) (by
      simp only [VR, ilt_eq]
      by_cases hlt : y < x
      · simp [hlt]
      · simp [hlt])
    exact ⟨v', g1, by simp only [List.foldlM_cons, Sem.run_bind, Builtin.min2, Sem.run_pure, Result.andThen_ok]; exact g2⟩

theorem ok_mx (c : Ctx P ifts F ρ m T H a.tmps w.heap) {k : Call} {al : List AOpd} {v : AV} (hop : o.op = .call k) (hb : k.callee = .builtin .max) (hargs : copds k.args.toList = some al) (h : bd (evs al T) mxV = some v) : PGoal P ρ m a w o v := by
  obtain ⟨vs, h1, h2⟩ := bd_some h
  have hv := opds_ok c.t hargs h1
  cases vs with
  | nil => cases h2
  | cons x l =>
    obtain ⟨vx, vs', e1, e2, e3⟩ := hv.cons_inv
    obtain ⟨v', g1, g2⟩ := mxs_ok (P := P) (w := w) (show mxs l x = some v from h2) e3 e2
    refine PGoal.bi (s := fun ty => Builtin.max_ k.argTypes ty (k.args.map a.eval)) hop hb (fun cs => rfl) g1 ?_
    simp only [Builtin.max_, Array.toList_map, e1]
    exact g2

theorem ok_mn (c : Ctx P ifts F ρ m T H a.tmps w.heap) {k : Call} {al : List AOpd} {v : AV} (hop : o.op = .call k) (hb : k.callee = .builtin .min) (hargs : copds k.args.toList = some al) (h : bd (evs al T) mnV = some v) : PGoal P ρ m a w o v := by
  obtain ⟨vs, h1, h2⟩ := bd_some h
  have hv := opds_ok c.t hargs h1
  cases vs with
  | nil => cases h2
  | cons x l =>
    obtain ⟨vx, vs', e1, e2, e3⟩ := hv.cons_inv
    obtain ⟨v', g1, g2⟩ := mns_ok (P := P) (w := w) (show mns l x = some v from h2) e3 e2
    refine PGoal.bi (s := fun ty => Builtin.min_ k.argTypes ty (k.args.map a.eval)) hop hb (fun cs => rfl) g1 ?_
    simp only [Builtin.min_, Array.toList_map, e1]
    exact g2

theorem ER_find {st : Nat} : ∀ {es : List (AV × AV × Nat)} {l : List MapEntry} {e : AV × AV × Nat}, ER ρ m es l → es.find? (fun e => Nat.beq e.2.2 st) = some e →
    ∃ e', l.find? (fun x => x.born == st) = some e' ∧ VR ρ m e.1 e'.key ∧ VR ρ m e.2.1 e'.val
  | [], _, _, _, h => by cases h
  | (k, v, n) :: es, l, e, he, h => by
    obtain ⟨e0, l', rfl, h1, h2, h3, h4⟩ := he
    cases hb : Nat.beq n st with
    | true =>
      simp only [List.find?_cons, hb] at h
      cases h
      exact ⟨e0, by simp [h3, Nat.eq_of_beq_eq_true hb], h1, h2⟩
    | false =>
      simp only [List.find?_cons, hb] at h
      obtain ⟨e', g1, g2⟩ := ER_find h4 h
      refine ⟨e', ?_, g2⟩
      have : (e0.born == st) = false := by rw [h3]; simpa using Nat.ne_of_beq_eq_false hb
      rw [List.find?_cons, this]; exact g1

theorem enV_some {u v : AV} (h : enV H u = some v) : ∃ b mb since seen last st es clock e, u = .p b 0 ∧ H.get b = some (.mi (some mb) since seen last) ∧ seen.getLast? = some st ∧ H.get mb = some (.map es clock) ∧ clock = last ∧
    es.find? (fun e => Nat.beq e.2.2 st) = some e ∧ v = .tup [e.1, e.2.1] := by
  unfold enV at h
  split at h
  · rename_i b
    split at h
    · rename_i mb since seen last hb
      obtain ⟨st, h1, h2⟩ := bd_some h
      unfold enM at h2
      split at h2
      · rename_i es clock hm
        obtain ⟨h3, h4⟩ := orN_some h2
        split at h4
        · rename_i e he
          cases h4
          exact ⟨b, mb, since, seen, last, st, es, clock, e, rfl, hb, h1, hm, Nat.eq_of_beq_eq_true h3, he, rfl⟩
        · cases h4
      · cases h2
    · cases h
  · cases h

theorem r_getObj_mi {r : Nat} {mb : Option Nat} {since last : Nat} {seen : Array Nat} (h : w.heap[r]? = some (.mapIter mb since seen last)) : (getObj r).run P w = .ok (.mapIter mb since seen last) w := by
  simp [getObj, Sem.run, h]

theorem ok_en (c : Ctx P ifts F ρ m T H a.tmps w.heap) {x : Operand} {ax : AOpd} {v : AV} (hop : o.op = .entry x) (hx : copd x = some ax) (h : bd (ax.ev T) (enV H) = some v) : PGoal P ρ m a w o v := by
  obtain ⟨u, h1, h2⟩ := bd_some h
  have hv := opd_ok c.t hx h1
  obtain ⟨b, mb, since, seen, last, st, es, clock, e, rfl, h3, h4, h5, rfl, h6, rfl⟩ := enV_some h2
  simp only [VR] at hv
  obtain ⟨eb, hm, hv⟩ := hv
  obtain ⟨o1, e', hm', g1⟩ := c.w.ob b _ eb h3 hm
  obtain ⟨_, es', g2, g3⟩ := c.w.ob mb _ e' h5 hm'
  obtain ⟨e'', g4, g5, g6⟩ := ER_find g3 h6
  refine PGoal.mk (s := Instr.entry (a.eval x)) (v' := .tuple #[e''.key, e''.val]) (by simp [execOp, hop]) (by simp only [VR]; exact ⟨_, rfl, .cons g5 (.cons g6 .nil)⟩) ?_
  have hb : seen.toArray.back? = some st := by simpa [List.getLast?_eq_getElem?, Array.back?] using h4
  have hf : es'.find? (fun x => x.born == st) = some e'' := by rw [← Array.find?_toList]; exact g4
  simp [Instr.entry, hv, o1, r_getObj_mi g1, hb, MapKept.run_getObj_map g2, hf]
end
end Go.Ev

namespace Go.Ev
open Go
section
variable {P : Program} {ifts : List TypeId} {F : Facts} {ρ : Nat → Value} {m : Emb} {T : Tr AV} {H : AH} {a : Act} {w : World} {o : Oper}

theorem no_ {α : Type} {v : α} (h : (none : Option α) = some v) : False := by cases h

theorem teq_ne {t : TypeId} {nc : Bool} {q : EqT} {u : TypeDesc} (h : teq P t nc = some q) (hu : P.underlying t = some u) (h1 : ∀ k, u ≠ .int k) (h2 : u ≠ .string) : q ≠ .int ∧ q ≠ .str := by
  obtain ⟨u', e1, e2⟩ := bd_some h
  rw [hu] at e1; cases e1
  cases u <;> first
    | exact absurd rfl (h1 _)
    | exact absurd rfl h2
    | (cases e2; done)
    | (cases e2; exact ⟨by simp, by simp⟩)
    | skip
  · obtain ⟨n, _, h5⟩ := bd_some e2
    cases n <;> cases h5
    exact ⟨by simp, by simp⟩
  · cases hs : P.stoodInHeld t <;> cases hg : teq.Op.eqGuardType' P t <;> simp only [hs, hg] at e2 <;> first
      | (cases e2; done)
      | skip
    obtain ⟨l, _, h5⟩ := bd_some e2
    cases h5
    exact ⟨by simp, by simp⟩
  · cases nc <;> cases e2
    exact ⟨by simp, by simp⟩

theorem pure_ok (c : Ctx P ifts F ρ m T H a.tmps w.heap) {op : AOp} {v : AV} (h : cop P ifts o = some op) (hp : pureOp op F T H = some v) : PGoal P ρ m a w o v := by
  unfold cop at h
  split at h
  case h_1 x heq => obtain ⟨ax, h1, h2⟩ := bd_some h; cases h2; exact ok_move c (.inl heq) h1 hp
  case h_2 x heq => obtain ⟨ax, h1, h2⟩ := bd_some h; cases h2; exact ok_move c (.inr heq) h1 hp
  case h_3 x y z heq =>
    obtain ⟨ax, h1, h2⟩ := bd_some h
    obtain ⟨ay, h3, h4⟩ := bd_some h2
    obtain ⟨az, h5, h6⟩ := bd_some h4
    cases h6
    exact ok_pick c heq h1 h3 h5 hp
  case h_4 => obtain ⟨ax, h1, h2⟩ := bd_some h; cases h2; exact (no_ hp).elim
  case h_5 => obtain ⟨ax, h1, h2⟩ := bd_some h; cases h2; exact (no_ hp).elim
  case h_6 t ps heq =>
    obtain ⟨d, h1, h2⟩ := bd_some h
    split at h2
    · rename_i fs
      obtain ⟨z, h3, h4⟩ := bd_some h2
      obtain ⟨pl, h5, h6⟩ := bd_some h4
      obtain ⟨r, h7, h8⟩ := bd_some h6
      cases h8
      exact ok_bl c heq h3 (.inl ⟨_, _, h1, h5, h7⟩) hp
    · obtain ⟨z, h3, h4⟩ := bd_some h2
      obtain ⟨n, h5, h6⟩ := bd_some h4
      obtain ⟨r, h7, h8⟩ := bd_some h6
      cases h8
      exact ok_bl c heq h3 (.inr ⟨_, _, _, h1, h5, h7⟩) hp
    · cases h2
  case h_7 =>
    obtain ⟨d, h1, h2⟩ := bd_some h
    split at h2
    · obtain ⟨z, h3, h4⟩ := bd_some h2
      obtain ⟨n, h5, h6⟩ := bd_some h4
      obtain ⟨r, h7, h8⟩ := bd_some h6
      split at h8
      · cases h8; exact (no_ hp).elim
      · cases h8
    · cases h2
  case h_8 t x heq =>
    obtain ⟨ax, h1, h2⟩ := bd_some h
    obtain ⟨g, h3, h4⟩ := bd_some h2
    obtain ⟨n, h5, h6⟩ := bd_some h4
    cases g with
    | true => cases h6; exact ok_ldn c heq h1 h3 h5 hp
    | false => cases h6; exact ok_ld c heq h1 h3 hp
  case h_9 =>
    obtain ⟨ax, h1, h2⟩ := bd_some h
    obtain ⟨ay, h3, h4⟩ := bd_some h2
    obtain ⟨n, h5, h6⟩ := bd_some h4
    cases h6; exact (no_ hp).elim
  case h_10 x heq => obtain ⟨ax, h1, h2⟩ := bd_some h; cases h2; exact ok_nc c heq h1 hp
  case h_11 op t x y yt heq =>
    obtain ⟨ax, h1, h2⟩ := bd_some h
    obtain ⟨ay, h3, h4⟩ := bd_some h2
    obtain ⟨u, h5, h6⟩ := bd_some h4
    split at h6
    · cases h6; exact ok_sb c heq h1 h3 hp
    · cases h6; exact ok_bi c heq h1 h3 hp
    · rename_i n1 n2
      obtain ⟨q, h7, h8⟩ := bd_some h6
      cases h8
      have hne := teq_ne h7 h5 (fun k e => n2 k e) (fun e => n1 e)
      exact ok_eq c heq (.inl ⟨rfl, rfl⟩) h1 h3 h7 hne.1 hne.2 hp
    · rename_i n1 n2
      obtain ⟨q, h7, h8⟩ := bd_some h6
      cases h8
      have hne := teq_ne h7 h5 (fun k e => n2 k e) (fun e => n1 e)
      exact ok_eq c heq (.inr ⟨rfl, rfl⟩) h1 h3 h7 hne.1 hne.2 hp
    · cases h6
  case h_12 op t x heq => obtain ⟨ax, h1, h2⟩ := bd_some h; cases h2; exact ok_un c heq h1 hp
  case h_13 s d x heq =>
    obtain ⟨ax, h1, h2⟩ := bd_some h
    obtain ⟨us, h3, h4⟩ := bd_some h2
    obtain ⟨ud, h5, h6⟩ := bd_some h4
    split at h6
    · cases h6; exact ok_cvi c heq h1 h3 h5 hp
    · cases h6; exact ok_cvs c heq h1 h3 h5 hp
    · obtain ⟨ue, h7, h8⟩ := bd_some h6
      split at h8
      · cases h8; exact ok_cbs c heq h1 h3 h7 h5 hp
      · cases h8
    · obtain ⟨ue, h7, h8⟩ := bd_some h6
      split at h8
      · cases h8; exact (no_ hp).elim
      · cases h8
    · cases h6
  case h_14 t x heq =>
    obtain ⟨ax, h1, h2⟩ := bd_some h
    obtain ⟨d, h3, h4⟩ := bd_some h2
    split at h4
    · cases h4
    · rename_i hne; cases h4; exact ok_mki c heq h1 h3 (fun ms e => hne ms e) hp
  case h_15 g f k heq =>
    obtain ⟨af, h1, h2⟩ := bd_some h
    obtain ⟨ak, h3, h4⟩ := bd_some h2
    cases h4; exact ok_mkf c heq h1 h3 hp
  case h_16 => cases h; exact (no_ hp).elim
  case h_17 =>
    obtain ⟨d, h1, h2⟩ := bd_some h
    split at h2
    · cases h2; exact (no_ hp).elim
    · cases h2
  case h_18 =>
    obtain ⟨ax, h1, h2⟩ := bd_some h
    obtain ⟨ay, h3, h4⟩ := bd_some h2
    obtain ⟨u, h5, h6⟩ := bd_some h4
    split at h6
    · obtain ⟨z, h7, h8⟩ := bd_some h6
      obtain ⟨n, h9, h10⟩ := bd_some h8
      obtain ⟨b, h11, h12⟩ := bd_some h10
      split at h12
      · cases h12; exact (no_ hp).elim
      · cases h12
    · cases h6
  case h_19 t x lo hi mx heq =>
    obtain ⟨ax, h1, h2⟩ := bd_some h
    obtain ⟨alo, h3, h4⟩ := bd_some h2
    obtain ⟨ahi, h5, h6⟩ := bd_some h4
    obtain ⟨amx, h7, h8⟩ := bd_some h6
    obtain ⟨_, h9, h10⟩ := bd_some h8
    obtain ⟨u, h11, h12⟩ := bd_some h10
    split at h12
    · obtain ⟨k, h13, h14⟩ := bd_some h12
      cases h14
      exact ok_sla c heq h1 h3 h5 h7 h9 (.inl ⟨_, h11, h13⟩) hp
    · obtain ⟨k, h13, h14⟩ := bd_some h12
      cases h14
      exact ok_sll c heq h1 h3 h5 h7 h9 h11 h13 hp
    · split at h12
      · cases h12
        cases mx with
        | none => exact ok_sls c heq h1 h3 h5 h11 hp
        | some y => obtain ⟨_, _, e⟩ := bd_some (show bd (copd y) _ = some none from h7); cases e
      · cases h12
    · obtain ⟨r, h13, h14⟩ := bd_some h12
      split at h14
      · obtain ⟨k, h15, h16⟩ := bd_some h14
        cases h16
        exact ok_sla c heq h1 h3 h5 h7 h9 (.inr ⟨_, _, h11, h13, h15⟩) hp
      · cases h14
    · cases h12
  case h_20 s x f heq =>
    obtain ⟨ax, h1, h2⟩ := bd_some h
    obtain ⟨u, h3, h4⟩ := bd_some h2
    split at h4
    · obtain ⟨fd, h5, h6⟩ := bd_some h4
      obtain ⟨n, h7, h8⟩ := bd_some h6
      cases n with
      | zero => cases h8
      | succ n => cases h8; exact ok_fa c heq h1 h3 h5 h7 hp
    · cases h4
  case h_21 t x f heq =>
    obtain ⟨ax, h1, h2⟩ := bd_some h
    obtain ⟨u, h3, h4⟩ := bd_some h2
    split at h4
    · obtain ⟨fd, h5, h6⟩ := bd_some h4
      obtain ⟨n, h7, h8⟩ := bd_some h6
      obtain ⟨g, h9, h10⟩ := bd_some h8
      cases h10; exact ok_fld c heq h1 h3 h5 h7 h9 hp
    · cases h4
  case h_22 t x i heq =>
    obtain ⟨ax, h1, h2⟩ := bd_some h
    obtain ⟨ai, h3, h4⟩ := bd_some h2
    obtain ⟨u, h5, h6⟩ := bd_some h4
    split at h6
    · obtain ⟨k, h7, h8⟩ := bd_some h6
      cases h8; exact ok_iaa c heq h1 h3 h5 h7 hp
    · obtain ⟨k, h7, h8⟩ := bd_some h6
      cases h8; exact ok_ias c heq h1 h3 h5 h7 hp
    · cases h6
  case h_23 t x i heq =>
    obtain ⟨ax, h1, h2⟩ := bd_some h
    obtain ⟨ai, h3, h4⟩ := bd_some h2
    obtain ⟨u, h5, h6⟩ := bd_some h4
    split at h6
    · obtain ⟨k, h7, h8⟩ := bd_some h6
      obtain ⟨g, h9, h10⟩ := bd_some h8
      cases h10; exact ok_ixa c heq h1 h3 h5 h7 h9 hp
    · cases h6; exact ok_ixs c heq h1 h3 h5 hp
    · cases h6
  case h_24 t x i ok heq =>
    obtain ⟨ax, h1, h2⟩ := bd_some h
    obtain ⟨ai, h3, h4⟩ := bd_some h2
    obtain ⟨u, h5, h6⟩ := bd_some h4
    split at h6
    · obtain ⟨q, h7, h8⟩ := bd_some h6
      obtain ⟨z, h9, h10⟩ := bd_some h8
      cases h10; exact ok_lk c heq h1 h3 h5 h7 h9 hp
    · cases h6
  case h_25 =>
    obtain ⟨am, h1, h2⟩ := bd_some h
    obtain ⟨ak, h3, h4⟩ := bd_some h2
    obtain ⟨av, h5, h6⟩ := bd_some h4
    obtain ⟨u, h7, h8⟩ := bd_some h6
    split at h8
    · obtain ⟨q, h9, h10⟩ := bd_some h8
      cases h10; exact (no_ hp).elim
    · cases h8
  case h_26 =>
    obtain ⟨am, h1, h2⟩ := bd_some h
    obtain ⟨ak, h3, h4⟩ := bd_some h2
    obtain ⟨av, h5, h6⟩ := bd_some h4
    obtain ⟨u, h7, h8⟩ := bd_some h6
    split at h8
    · obtain ⟨q, h9, h10⟩ := bd_some h8
      cases h10; exact (no_ hp).elim
    · cases h8
  case h_27 =>
    obtain ⟨am, h1, h2⟩ := bd_some h
    obtain ⟨ak, h3, h4⟩ := bd_some h2
    obtain ⟨u, h7, h8⟩ := bd_some h4
    split at h8
    · obtain ⟨q, h9, h10⟩ := bd_some h8
      obtain ⟨z, h11, h12⟩ := bd_some h10
      cases h12; exact (no_ hp).elim
    · cases h8
  case h_28 =>
    obtain ⟨am, h1, h2⟩ := bd_some h
    obtain ⟨ak, h3, h4⟩ := bd_some h2
    obtain ⟨av, h5, h6⟩ := bd_some h4
    cases h6; exact (no_ hp).elim
  case h_29 =>
    obtain ⟨ax, h1, h2⟩ := bd_some h
    obtain ⟨u, h3, h4⟩ := bd_some h2
    split at h4
    · cases h4; exact (no_ hp).elim
    · cases h4; exact (no_ hp).elim
    · cases h4
  case h_30 =>
    obtain ⟨ax, h1, h2⟩ := bd_some h
    split at h2 <;> cases h2 <;> exact (no_ hp).elim
  case h_31 x heq => obtain ⟨ax, h1, h2⟩ := bd_some h; cases h2; exact ok_en c heq h1 hp
  case h_32 x i heq => obtain ⟨ax, h1, h2⟩ := bd_some h; cases h2; exact ok_ex c heq h1 hp
  case h_33 k heq =>
    obtain ⟨args, h1, h2⟩ := bd_some h
    split at h2
    · cases h2; exact (no_ hp).elim
    · obtain ⟨f, h3, h4⟩ := bd_some h2
      cases h4; exact (no_ hp).elim
    · obtain ⟨r, h3, h4⟩ := bd_some h2
      obtain ⟨ms, h5, h6⟩ := bd_some h4
      cases h6; exact (no_ hp).elim
    · rename_i b hb
      unfold cop.cbuiltin at h2
      split at h2
      · obtain ⟨t, h3, h4⟩ := bd_some h2
        obtain ⟨u, h5, h6⟩ := bd_some h4
        split at h6
        · cases h6; exact ok_lns c heq hb h1 h3 (.inl ⟨rfl, h5⟩) hp
        · cases h6; exact ok_lns c heq hb h1 h3 (.inr ⟨rfl, _, h5⟩) hp
        · cases h6; cases hp; exact ok_lnc heq hb h1 h3 (.inl ⟨_, h5⟩)
        · obtain ⟨r, h7, h8⟩ := bd_some h6
          split at h8
          · cases h8; cases hp; exact ok_lnc heq hb h1 h3 (.inr ⟨_, _, h5, h7⟩)
          · cases h8
        · cases h6; exact ok_lnm c heq hb h1 h3 h5 hp
        · cases h6
      · obtain ⟨t, h3, h4⟩ := bd_some h2
        obtain ⟨u, h5, h6⟩ := bd_some h4
        split at h6
        · cases h6; exact ok_cp c heq hb h1 h3 h5 hp
        · cases h6
      · cases h2; exact ok_mn c heq hb h1 hp
      · cases h2; exact ok_mx c heq hb h1 hp
      · obtain ⟨t, h3, h4⟩ := bd_some h2
        obtain ⟨u, h5, h6⟩ := bd_some h4
        split at h6
        · obtain ⟨z, h7, h8⟩ := bd_some h6
          obtain ⟨n, h9, h10⟩ := bd_some h8
          obtain ⟨by', h11, h12⟩ := bd_some h10
          split at h12
          · obtain ⟨tt, h15, h16⟩ := bd_some h12
            obtain ⟨uu, h13, h14⟩ := bd_some h16
            split at h14 <;> first
              | (cases h14; exact (no_ hp).elim)
              | cases h14
          · cases h12
        · cases h6
      · obtain ⟨t, h3, h4⟩ := bd_some h2
        obtain ⟨u, h5, h6⟩ := bd_some h4
        split at h6
        · obtain ⟨n, h9, h10⟩ := bd_some h6
          cases h10; exact (no_ hp).elim
        · cases h6
      · obtain ⟨t, h3, h4⟩ := bd_some h2
        obtain ⟨u, h5, h6⟩ := bd_some h4
        split at h6
        · obtain ⟨z, h7, h8⟩ := bd_some h6
          obtain ⟨n, h9, h10⟩ := bd_some h8
          split at h10
          · cases h10; exact (no_ hp).elim
          · cases h10
        · cases h6; exact (no_ hp).elim
        · cases h6
      · obtain ⟨t, h3, h4⟩ := bd_some h2
        obtain ⟨u, h5, h6⟩ := bd_some h4
        split at h6
        · obtain ⟨q, h9, h10⟩ := bd_some h6
          cases h10; exact (no_ hp).elim
        · cases h6
      · cases h2
  case h_34 => cases h
end
end Go.Ev

