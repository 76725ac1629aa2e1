/-
  The facts of a round of the loop of the law XpassStrange. Conditions: those that each theorem names.
-/
import Derived.Test.YtnkfegnbddmebaaGreatXsL
import Derived.Test.YtnkfegnbddmebaaGreatRows
namespace Go.Ev.Q
open Go Go.Ev Go.Proofs Go.RowKit

theorem mixed : Tryz.prog.follows .mixedOrders = true := by kernel_rfl

/-- a frame's fields -/
structure Fr where
  k : Int
  s : Int
  d : Int
  p : Int
  msg : Int
  off : Int
  len : Int
  tot : Int
  num : Int
  da : Option Addr
  dl : Nat
  dc : Nat

def Fr.cells (f : Fr) : List Value := [.int .i64 f.k, .int .i64 f.s, .int .i64 f.d, .int .i64 f.p, .int .u64 f.msg, .int .i64 f.off, .int .i64 f.len, .int .i64 f.tot, .int .i64 f.num, .slice f.da f.dl f.dc]

/-- what the names stand for, in a round -/
noncomputable def rho (v : Value) (n i B o : Nat) (f : Fr) : Nat → Value
  | 0 => v
  | 1 => .int .i64 n
  | 2 => .int .i64 i
  | 3 => .pointer (some ⟨B, o + 10 * i, none⟩)
  | 4 => .pointer (some ⟨B, o + 10 * i + 9, none⟩)
  | 5 => .pointer (some ⟨B, o + 10 * i + 2, none⟩)
  | 6 => .pointer (some ⟨B, o + 10 * i + 1, none⟩)
  | 10 => .int .i64 f.k
  | 11 => .int .i64 f.s
  | 12 => .int .i64 f.d
  | 13 => .int .i64 f.p
  | 14 => .int .u64 f.msg
  | 15 => .int .i64 f.off
  | 16 => .int .i64 f.len
  | 17 => .int .i64 f.tot
  | 18 => .int .i64 f.num
  | 19 => .slice f.da f.dl f.dc
  | 20 => .int .i64 f.dl
  | 21 => .int .i64 (wr .i64 (f.off + f.len))
  | 22 => .int .i64 ((i : Int) + 1)
  | _ => .bool true

/-- and outside of it -/
def rho0 (v : Value) (n i : Nat) : Nat → Value
  | 0 => v
  | 1 => .int .i64 n
  | 2 => .int .i64 i
  | _ => .bool true

theorem rho_one (a : Option Addr) (l c n i B o : Nat) (f : Fr) : One (rho (.slice a l c) n i B o f) := by
  intro k
  unfold rho
  split <;> rfl

theorem rho0_one (a : Option Addr) (l c n i : Nat) : One (rho0 (.slice a l c) n i) := by
  intro k
  unfold rho0
  split <;> rfl

section
variable {P : Program} {ρ : Nat → Value}
theorem h_lss (k : IntKind) (x y : Int) : intop .lss k x k y = some (.b (ilt x y)) := by cases k <;> rfl
theorem h_gtr (k : IntKind) (x y : Int) : intop .gtr k x k y = some (.b (ilt y x)) := by cases k <;> rfl
theorem ile_not (x y : Int) : ile y x = !(ilt x y) := by
  rw [ile_eq, ilt_eq, Bool.eq_iff_iff]
  simp
theorem h_geq (k : IntKind) (x y : Int) : intop .geq k x k y = some (.b (!(ilt x y))) := by
  have : intop .geq k x k y = some (.b (ile y x)) := by cases k <;> rfl
  rw [this, ile_not]
theorem h_leq (k : IntKind) (x y : Int) : intop .leq k x k y = some (.b (!(ilt y x))) := by
  have : intop .leq k x k y = some (.b (ile x y)) := by cases k <;> rfl
  rw [this, ile_not]
theorem h_eql (k : IntKind) (x y : Int) : intop .eql k x k y = some (.b (ieq x y)) := by cases k <;> rfl
theorem h_neq (k : IntKind) (x y : Int) : intop .neq k x k y = some (.b (!(ieq x y))) := by
  have : intop .neq k x k y = some (.b (iff (ieq x y) false true)) := by cases k <;> rfl
  rw [this]
  cases ieq x y <;> rfl
theorem h_add (k : IntKind) (x y : Int) : intop .add k x k y = some (.i k (wr k (x + y))) := by cases k <;> rfl

/-- a fact on a name and a number -/
theorem bf {op : BinOp} {i : Nat} {k : IntKind} {x y : Int} {b : Bool} (hx : ρ i = .int k x) (h : intop op k x k y = some (.b b)) :
    ∀ m va vb, VR ρ m (.x i) va → VR ρ m (.i k y) vb → (∃ k n k' n', va = .int k n ∧ vb = .int k' n') ∧ ∃ vr, VR ρ m (.b b) vr ∧ ∀ t (w : World), (binOp op t va vb).run P w = .ok vr w :=
  bin_fact (fun m va hv => by simp only [VR] at hv; rw [hv, hx]) (fun m vb hv => by simpa only [VR] using hv) h (fun m u hu => hu)
/-- on two names -/
theorem bf2 {op : BinOp} {i j : Nat} {k : IntKind} {x y : Int} {b : Bool} (hx : ρ i = .int k x) (hy : ρ j = .int k y) (h : intop op k x k y = some (.b b)) :
    ∀ m va vb, VR ρ m (.x i) va → VR ρ m (.x j) vb → (∃ k n k' n', va = .int k n ∧ vb = .int k' n') ∧ ∃ vr, VR ρ m (.b b) vr ∧ ∀ t (w : World), (binOp op t va vb).run P w = .ok vr w :=
  bin_fact (fun m va hv => by simp only [VR] at hv; rw [hv, hx]) (fun m vb hv => by simp only [VR] at hv; rw [hv, hy]) h (fun m u hu => hu)
end

theorem len_z (n : Nat) : (!(ieq (n : Int) 0)) = ilt 0 n := by
  rw [ieq_eq, ilt_eq, Bool.eq_iff_iff]
  simp
  omega

/-- the tests on a frame -/
theorem frame_ok (P : Program) (v : Value) (n i B o : Nat) (f : Fr) :
    FOk P (frameFacts (ilt f.k 1) (ilt 12 f.k) (ilt f.s 0) (ilt 7 f.s) (ilt f.d 0) (ilt 7 f.d) (ilt f.p 0) (ilt 7 f.p) (ilt 1152921504606846976 f.msg) (ilt f.off 0) (ilt 1073741824 f.off) (ilt f.tot 0) (ilt 1073741824 f.tot)
      (ilt f.len 0) (ilt 1500 f.len) (ilt f.num 0) (ilt 1073741824 f.num) (ieq f.k 1) (ieq f.k 7) (ilt f.tot (wr .i64 (f.off + f.len))) (!(ieq f.dl f.len)) (ilt 0 f.dl)) (rho v n i B o f) := by
  refine ⟨fun op a b r h => ?_, fun k r h => ?_, fun _ _ _ _ h => (by cases h), fun _ _ _ h => (by cases h)⟩
  · simp only [frameFacts, List.mem_cons, List.not_mem_nil, or_false, Prod.mk.injEq] at h
    rcases h with ⟨rfl, rfl, rfl, rfl⟩ | ⟨rfl, rfl, rfl, rfl⟩ | ⟨rfl, rfl, rfl, rfl⟩ | ⟨rfl, rfl, rfl, rfl⟩ | ⟨rfl, rfl, rfl, rfl⟩ | ⟨rfl, rfl, rfl, rfl⟩ | ⟨rfl, rfl, rfl, rfl⟩ | ⟨rfl, rfl, rfl, rfl⟩ | ⟨rfl, rfl, rfl, rfl⟩ | ⟨rfl, rfl, rfl, rfl⟩ | ⟨rfl, rfl, rfl, rfl⟩ | ⟨rfl, rfl, rfl, rfl⟩ | ⟨rfl, rfl, rfl, rfl⟩ | ⟨rfl, rfl, rfl, rfl⟩ | ⟨rfl, rfl, rfl, rfl⟩ | ⟨rfl, rfl, rfl, rfl⟩ | ⟨rfl, rfl, rfl, rfl⟩ | ⟨rfl, rfl, rfl, rfl⟩ | ⟨rfl, rfl, rfl, rfl⟩ | ⟨rfl, rfl, rfl, rfl⟩ | ⟨rfl, rfl, rfl, rfl⟩ | ⟨rfl, rfl, rfl, rfl⟩ | ⟨rfl, rfl, rfl, rfl⟩ | ⟨rfl, rfl, rfl, rfl⟩ | ⟨rfl, rfl, rfl, rfl⟩ | ⟨rfl, rfl, rfl, rfl⟩ | ⟨rfl, rfl, rfl, rfl⟩ | ⟨rfl, rfl, rfl, rfl⟩ | ⟨rfl, rfl, rfl, rfl⟩ | ⟨rfl, rfl, rfl, rfl⟩ | ⟨rfl, rfl, rfl, rfl⟩ | ⟨rfl, rfl, rfl, rfl⟩ | ⟨rfl, rfl, rfl, rfl⟩ | ⟨rfl, rfl, rfl, rfl⟩ | ⟨rfl, rfl, rfl, rfl⟩ | ⟨rfl, rfl, rfl, rfl⟩ | ⟨rfl, rfl, rfl, rfl⟩ | ⟨rfl, rfl, rfl, rfl⟩ | ⟨rfl, rfl, rfl, rfl⟩ | ⟨rfl, rfl, rfl, rfl⟩ | ⟨rfl, rfl, rfl, rfl⟩ | ⟨rfl, rfl, rfl, rfl⟩ | ⟨rfl, rfl, rfl, rfl⟩ | ⟨rfl, rfl, rfl, rfl⟩
    all_goals first
      | exact bf rfl (h_lss _ _ _)
      | exact bf rfl (h_geq _ _ _)
      | exact bf rfl (h_gtr _ _ _)
      | exact bf rfl (h_leq _ _ _)
      | exact bf rfl (h_eql _ _ _)
      | exact bf2 rfl rfl (h_gtr _ _ _)
      | exact bf2 rfl rfl (h_leq _ _ _)
      | exact bf2 rfl rfl (h_neq _ _ _)
      | exact bf rfl (h_neq _ _ _)
      | exact bin_fact (k := .i64) (x := f.off) (k' := .i64) (y := f.len) (fun m va hv => by simp only [VR] at hv; exact hv) (fun m va hv => by simp only [VR] at hv; exact hv) (h_add _ _ _) (fun m u hu => by simp only [VR] at hu ⊢; exact hu)
      | (rw [← len_z]; exact bf rfl (h_neq _ _ _))
  · simp only [frameFacts, List.mem_cons, List.not_mem_nil, or_false, Prod.mk.injEq] at h
    obtain ⟨rfl, rfl⟩ := h
    exact ⟨f.da, f.dl, f.dc, rfl, fun m => by simp only [VR]; rfl⟩
/-- what is known of a call does not hang on facts that name no place -/
theorem CallG.facts {P : Program} {ifts : List TypeId} {F F' : Facts} {ρ : Nat → Value} {g : Nat} {args : List AV} {H H' : AH} {v : AV} (h : CallG P ifts F' ρ g args H v H') (hl : F'.ld = []) : CallG P ifts F ρ g args H v H' :=
  fun m w vs hw _ hvs => h m w vs hw (Fz.nil hl) hvs

theorem isC_some {b : Bool} {r : Option (AV × AH)} (h : isC b r = true) : ∃ H, r = some (.i .i64 (Bool.rec 1 0 b), H) := by
  cases r with
  | none => cases h
  | some p =>
    obtain ⟨v, H⟩ := p
    exact ⟨H, by rw [show v = .i .i64 (Bool.rec 1 0 b) from veq_eq h]⟩

/-- what the tests come to -/
noncomputable def okB (f : Fr) : Bool := okF (ilt f.k 1) (ilt 12 f.k) (ilt f.s 0) (ilt 7 f.s) (ilt f.d 0) (ilt 7 f.d) (ilt f.p 0) (ilt 7 f.p) (ilt 1152921504606846976 f.msg) (ilt f.off 0) (ilt 1073741824 f.off) (ilt f.tot 0) (ilt 1073741824 f.tot)
      (ilt f.len 0) (ilt 1500 f.len) (ilt f.num 0) (ilt 1073741824 f.num) (ieq f.k 1) (ieq f.k 7) (ilt f.tot (wr .i64 (f.off + f.len))) (!(ieq f.dl f.len)) (ilt 0 f.dl)

theorem plain_ok {F : Facts} {ρ : Nat → Value} : FTOk Tryz.prog ifts F ρ ft.get := FTOk.plain ft_ok

/-- the rounds' table of known calls -/
theorem fk_ok {F : Facts} (a : Option Addr) (l c n i B o : Nat) (f : Fr) : FTOk Tryz.prog ifts F (rho (.slice a l c) n i B o f) (fk (Bool.rec 1 0 (okB f))) := by
  refine plain_ok.withKn fun g args v hm H => ?_
  simp only [List.mem_cons, List.not_mem_nil, or_false, Prod.mk.injEq] at hm
  rcases hm with ⟨rfl, rfl, rfl⟩ | ⟨rfl, rfl, rfl⟩ | ⟨rfl, rfl, rfl⟩
  · exact CallG.facts (F' := {}) (known_true mixed (FOk.nil _ _) (rho_one a l c n i B o f) plain_ok awake6 H) rfl
  · obtain ⟨H', h⟩ := isC_some (ref_run _ _ _ _ _ _ _ _ _ _ _ _ _ _ _ _ _ _ _ _ _ _)
    exact CallG.facts (known_ok mixed (frame_ok Tryz.prog (.slice a l c) n i B o f) (rho_one a l c n i B o f) plain_ok h rfl (fun m m' u hu => by simp only [VR] at hu ⊢; exact hu) H) rfl
  · obtain ⟨H', h⟩ := isC_some (wire_run _ _ _ _ _ _ _ _ _ _ _ _ _ _ _ _ _ _ _ _ _ _)
    exact CallG.facts (known_ok mixed (frame_ok Tryz.prog (.slice a l c) n i B o f) (rho_one a l c n i B o f) plain_ok h rfl (fun m m' u hu => by simp only [VR] at hu ⊢; exact hu) H) rfl

theorem fa_ok {F : Facts} {ρ : Nat → Value} (h1 : One ρ) : FTOk Tryz.prog ifts F ρ fa := by
  refine plain_ok.withKn fun g args v hm H => ?_
  simp only [List.mem_cons, List.not_mem_nil, or_false, Prod.mk.injEq] at hm
  obtain ⟨rfl, rfl, rfl⟩ := hm
  exact CallG.facts (F' := {}) (known_true mixed (FOk.nil _ _) h1 plain_ok awake6 H) rfl

theorem lenFacts_ok (P : Program) (a : Option Addr) (l c : Nat) (b : Bool) (hb : ilt 40 (l : Int) = b) (i : Nat) : FOk P (lenFacts b) (rho0 (.slice a l c) l i) := by
  refine ⟨fun op x y r h => ?_, fun k r h => ?_, fun _ _ _ _ h => (by cases h), fun _ _ _ h => (by cases h)⟩
  · simp only [lenFacts, List.mem_cons, List.not_mem_nil, or_false, Prod.mk.injEq] at h
    obtain ⟨rfl, rfl, rfl, rfl⟩ := h
    subst hb
    exact bf rfl (h_gtr _ _ _)
  · simp only [lenFacts, List.mem_cons, List.not_mem_nil, or_false, Prod.mk.injEq] at h
    obtain ⟨rfl, rfl⟩ := h
    exact ⟨a, l, c, rfl, fun m => by simp only [VR]; rfl⟩

theorem endFacts_ok (P : Program) (a : Option Addr) (l c : Nat) : FOk P endFacts (rho0 (.slice a l c) l l) := by
  refine ⟨fun op x y r h => ?_, fun k r h => ?_, fun _ _ _ _ h => (by cases h), fun _ _ _ h => (by cases h)⟩
  · simp only [endFacts, List.mem_cons, List.not_mem_nil, or_false, Prod.mk.injEq] at h
    obtain ⟨rfl, rfl, rfl, rfl⟩ := h
    exact bf2 rfl rfl ((h_lss _ _ _).trans (by rw [ilt_eq]; simp))
  · simp only [endFacts, List.mem_cons, List.not_mem_nil, or_false, Prod.mk.injEq] at h
    obtain ⟨rfl, rfl⟩ := h
    exact ⟨a, l, c, rfl, fun m => by simp only [VR]; rfl⟩

theorem wrap_small {i : Nat} (h : i ≤ 40) : wr .i64 ((i : Int) + 1) = (i : Int) + 1 := by
  rw [wr_eq]
  refine fits64_wrap ?_
  have : (i : Int) + 1 = Int.ofNat (i + 1) := rfl
  rw [this]
  show Nat.ble (i + 1) 9223372036854775807 = true
  exact Nat.ble_eq_true_of_le (by omega)

/-- a round's facts -/
theorem loopFacts_ok (B o l c i : Nat) (f : Fr) (hi : i < l) (hl : l ≤ 40) :
    FOk Tryz.prog (loopFacts true (ilt 2000 f.dl) (ieq f.d 1) (ieq f.s 0) (ieq f.s 1) (!(ilt f.s 2))) (rho (.slice (some ⟨B, o, none⟩) l c) l i B o f) := by
  refine ⟨fun op x y r h => ?_, fun k r h => ?_, fun e s j r h => ?_, fun k off r h => ?_⟩
  · simp only [loopFacts, List.mem_cons, List.not_mem_nil, or_false, Prod.mk.injEq] at h
    rcases h with ⟨rfl, rfl, rfl, rfl⟩ | ⟨rfl, rfl, rfl, rfl⟩ | ⟨rfl, rfl, rfl, rfl⟩ | ⟨rfl, rfl, rfl, rfl⟩ | ⟨rfl, rfl, rfl, rfl⟩ | ⟨rfl, rfl, rfl, rfl⟩ | ⟨rfl, rfl, rfl, rfl⟩ | ⟨rfl, rfl, rfl, rfl⟩
    · exact bf2 rfl rfl ((h_lss _ _ _).trans (by rw [ilt_eq]; simp; omega))
    · exact bin_fact (k := .i64) (x := i) (k' := .i64) (y := 1) (fun m va hv => by simp only [VR] at hv; exact hv) (fun m va hv => by simp only [VR] at hv; exact hv) (h_add _ _ _)
        (fun m u hu => by simp only [VR] at hu ⊢; rw [wrap_small (by omega)] at hu; exact hu)
    · exact bf rfl (h_gtr _ _ _)
    · exact bf rfl (h_eql _ _ _)
    · exact bf rfl (h_neq _ _ _)
    · exact bf rfl (h_eql _ _ _)
    · exact bf rfl (h_eql _ _ _)
    · exact bf rfl (h_geq _ _ _)
  · simp only [loopFacts, List.mem_cons, List.not_mem_nil, or_false, Prod.mk.injEq] at h
    rcases h with ⟨rfl, rfl⟩ | ⟨rfl, rfl⟩
    · exact ⟨_, l, c, rfl, fun m => by simp only [VR]; rfl⟩
    · exact ⟨f.da, f.dl, f.dc, rfl, fun m => by simp only [VR]; rfl⟩
  · simp only [loopFacts, List.mem_cons, List.not_mem_nil, or_false, Prod.mk.injEq] at h
    obtain ⟨rfl, rfl, rfl, rfl⟩ := h
    intro m vs vi h1 h2
    simp only [VR] at h1 h2
    refine ⟨.pointer (some ⟨B, o + 10 * i, none⟩), by simp only [VR]; rfl, fun t e' w ht hn => ?_⟩
    rw [show vs = .slice (some ⟨B, o, none⟩) l c from h1, show vi = .int .i64 (Int.ofNat i) from h2]
    simp only [Instr.indexAt, Sem.run_bind, asIntOf, Sem.run_pure, Result.andThen_ok, r_und ht]
    have : (0 : Int) ≤ Int.ofNat i ∧ Int.ofNat i < (l : Int) := ⟨by simp, by simp; omega⟩
    simp only [this, and_self, if_true, Sem.run_bind, r_size hn, Result.andThen_ok, Sem.run_pure]
    simp [Addr.add, Nat.mul_comm]
    try (intro h0; simp [h0])
  · simp only [loopFacts, List.mem_cons, List.not_mem_nil, or_false, Prod.mk.injEq] at h
    rcases h with ⟨rfl, rfl, rfl⟩ | ⟨rfl, rfl, rfl⟩ | ⟨rfl, rfl, rfl⟩
    · exact ⟨B, o + 10 * i, rfl, rfl⟩
    · exact ⟨B, o + 10 * i, rfl, rfl⟩
    · exact ⟨B, o + 10 * i, rfl, rfl⟩

/-- the frame's cells lie there -/
theorem loop_fz (w0 : World) (v : Value) (n i B o : Nat) (f : Fr) (h : ∀ j v, f.cells[j]? = some v → w0.cell? ⟨B, o + (10 * i + j), none⟩ = some v) (g d s q u : Bool) : Fz0 (loopFacts true g d s q u) (rho v n i B o f) w0 := by
  have hc : ∃ C el fr, w0.heap[B]? = some (.cells C el fr) ∧ ∀ j v, f.cells[j]? = some v → C[o + 10 * i + j]? = some v := by
    have h0 := h 0 (.int .i64 f.k) rfl
    unfold World.cell? at h0
    split at h0
    · rename_i C el fr hb
      refine ⟨C, el, fr, hb, fun j v hj => ?_⟩
      have h1 := h j v hj
      unfold World.cell? at h1
      rw [hb] at h1
      simpa [Nat.add_assoc] using h1
    · cases h0
  obtain ⟨C, el, fr, hb, hC⟩ := hc
  intro k x hk
  simp only [loopFacts, List.mem_cons, List.not_mem_nil, or_false, Prod.mk.injEq] at hk
  rcases hk with ⟨rfl, rfl⟩ | ⟨rfl, rfl⟩ | ⟨rfl, rfl⟩ | ⟨rfl, rfl⟩
  · refine ⟨B, o + 10 * i, C, el, fr, rfl, hb, rfl, f.cells, rfl, hC, fun m => ?_⟩
    refine VRs.cons (by simp only [VR]; rfl) (VRs.cons (by simp only [VR]; rfl) (VRs.cons (by simp only [VR]; rfl) (VRs.cons (by simp only [VR]; rfl) (VRs.cons (by simp only [VR]; rfl) (VRs.cons (by simp only [VR]; rfl)
      (VRs.cons (by simp only [VR]; rfl) (VRs.cons (by simp only [VR]; rfl) (VRs.cons (by simp only [VR]; rfl) (VRs.cons (by simp only [VR]; rfl) .nil)))))))))
  · exact ⟨B, o + 10 * i + 9, C, el, fr, rfl, hb, _, hC 9 _ rfl, fun m => by simp only [VR]; rfl⟩
  · exact ⟨B, o + 10 * i + 2, C, el, fr, rfl, hb, _, hC 2 _ rfl, fun m => by simp only [VR]; rfl⟩
  · exact ⟨B, o + 10 * i + 1, C, el, fr, rfl, hb, _, hC 1 _ rfl, fun m => by simp only [VR]; rfl⟩

/-- a round comes to its end, or the law's -/
theorem round_cases (f : Fr) : retT f4.res (lp (Bool.rec 1 0 (okB f)) true (ilt 2000 f.dl) (ieq f.d 1) (ieq f.s 0) (ieq f.s 1) (!(ilt f.s 2))) = true ∨ goesOn (lp (Bool.rec 1 0 (okB f)) true (ilt 2000 f.dl) (ieq f.d 1) (ieq f.s 0) (ieq f.s 1) (!(ilt f.s 2))) = true := by
  cases hg : ilt 2000 (f.dl : Int) with
  | true => exact .inl (lp_long _ _ _ _ _)
  | false =>
    refine .inr ?_
    cases hok : okB f with
    | false => exact lp_bad _ _ _ _
    | true =>
      cases hd : ieq f.d 1 with
      | false => exact lp_other _ _ _
      | true =>
        cases hs : ieq f.s 0 with
        | true => exact lp_own _ _
        | false =>
          cases hq : ieq f.s 1 with
          | true => exact lp_self _
          | false =>
            have hs0 : ilt f.s 0 = false := by
              cases h : ilt f.s 0 with
              | false => rfl
              | true =>
                exfalso
                have : okB f = false := by
                  unfold okB okF
                  rw [h]
                  simp
                rw [this] at hok; cases hok
            have hu : ilt f.s 2 = false := by
              rw [ilt_eq] at hs0 ⊢
              rw [ieq_eq] at hs hq
              simp at hs0 hs hq ⊢
              omega
            rw [hu]
            exact lp_far
end Go.Ev.Q
