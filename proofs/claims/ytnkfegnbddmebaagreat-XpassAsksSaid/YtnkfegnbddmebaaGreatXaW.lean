/-
  The law XpassAsks: how its pieces are joined. Conditions: those that each theorem names.
-/
import Derived.Test.YtnkfegnbddmebaaGreatXaL
namespace Go.Ev.Q
open Go Go.Ev Go.Proofs Go.RowKit

theorem mixed : Tryz.prog.follows .mixedOrders = true := by kernel_rfl

/-- what the names stand for -/
noncomputable def rho (d s i l : Int) : Nat → Value
  | 0 => .int .i64 d
  | 1 => .int .i64 s
  | 2 => .int .u64 i
  | 3 => .int .u64 l
  | _ => .bool true

theorem rho_one (d s i l : Int) : One (rho d s i l) := by
  intro k
  unfold rho
  split <;> rfl

section
variable {P : Program} {ρ : Nat → Value}
theorem h_lss (k : IntKind) (x y : Int) : intop .lss k x k y = some (.b (ilt x y)) := by cases k <;> rfl
theorem h_gtr (k : IntKind) (x y : Int) : intop .gtr k x k y = some (.b (ilt y x)) := by cases k <;> rfl
theorem ile_not (x y : Int) : ile y x = !(ilt x y) := by
  rw [ile_eq, ilt_eq, Bool.eq_iff_iff]
  simp
theorem h_geq (k : IntKind) (x y : Int) : intop .geq k x k y = some (.b (!(ilt x y))) := by
  have : intop .geq k x k y = some (.b (ile y x)) := by cases k <;> rfl
  rw [this, ile_not]
theorem h_leq (k : IntKind) (x y : Int) : intop .leq k x k y = some (.b (!(ilt y x))) := by
  have : intop .leq k x k y = some (.b (ile x y)) := by cases k <;> rfl
  rw [this, ile_not]
theorem h_eql (k : IntKind) (x y : Int) : intop .eql k x k y = some (.b (ieq x y)) := by cases k <;> rfl
theorem h_neq (k : IntKind) (x y : Int) : intop .neq k x k y = some (.b (!(ieq x y))) := by
  have : intop .neq k x k y = some (.b (iff (ieq x y) false true)) := by cases k <;> rfl
  rw [this]
  cases ieq x y <;> rfl

/-- a fact on a name and a number -/
theorem bf {op : BinOp} {i : Nat} {k : IntKind} {x y : Int} {b : Bool} (hx : ρ i = .int k x) (h : intop op k x k y = some (.b b)) :
    ∀ m va vb, VR ρ m (.x i) va → VR ρ m (.i k y) vb → (∃ k n k' n', va = .int k n ∧ vb = .int k' n') ∧ ∃ vr, VR ρ m (.b b) vr ∧ ∀ t (w : World), (binOp op t va vb).run P w = .ok vr w :=
  bin_fact (fun m va hv => by simp only [VR] at hv; rw [hv, hx]) (fun m vb hv => by simpa only [VR] using hv) h (fun m u hu => hu)
/-- on a number and a name -/
theorem bfr {op : BinOp} {i : Nat} {k : IntKind} {x y : Int} {b : Bool} (hx : ρ i = .int k x) (h : intop op k y k x = some (.b b)) :
    ∀ m va vb, VR ρ m (.i k y) va → VR ρ m (.x i) vb → (∃ k n k' n', va = .int k n ∧ vb = .int k' n') ∧ ∃ vr, VR ρ m (.b b) vr ∧ ∀ t (w : World), (binOp op t va vb).run P w = .ok vr w :=
  bin_fact (fun m vb hv => by simpa only [VR] using hv) (fun m va hv => by simp only [VR] at hv; rw [hv, hx]) h (fun m u hu => hu)
/-- on two names -/
theorem bf2 {op : BinOp} {i j : Nat} {k : IntKind} {x y : Int} {b : Bool} (hx : ρ i = .int k x) (hy : ρ j = .int k y) (h : intop op k x k y = some (.b b)) :
    ∀ m va vb, VR ρ m (.x i) va → VR ρ m (.x j) vb → (∃ k n k' n', va = .int k n ∧ vb = .int k' n') ∧ ∃ vr, VR ρ m (.b b) vr ∧ ∀ t (w : World), (binOp op t va vb).run P w = .ok vr w :=
  bin_fact (fun m va hv => by simp only [VR] at hv; rw [hv, hx]) (fun m vb hv => by simp only [VR] at hv; rw [hv, hy]) h (fun m u hu => hu)
end

theorem ilt_t {x y : Int} (h : x < y) : ilt x y = true := by rw [ilt_eq]; simpa using h
theorem ilt_f {x y : Int} (h : y ≤ x) : ilt x y = false := by rw [ilt_eq]; simpa using h
theorem ieq_f {x y : Int} (h : x ≠ y) : ieq x y = false := by rw [ieq_eq]; simpa using h
theorem ieq_t (x : Int) : ieq x x = true := by rw [ieq_eq]; simp

theorem dsF_ok (P : Program) {d s i l : Int} (h0 : 0 ≤ s) (h1 : s ≤ 30000) {sz : List Nat} (hsz : ∀ k, k ∈ sz → k = 1 ∧ 0 < s) : FOk P (dsF sz (ilt d 0) (!(ilt d 2)) (ieq d 1) (ilt 20000 s)) (rho d s i l) := by
  refine ⟨fun op a b r h => ?_, fun _ _ h => (by cases h), fun _ _ _ _ h => (by cases h), fun _ _ _ h => (by cases h), fun k hk => ?_⟩
  · simp only [dsF, List.mem_cons, List.not_mem_nil, or_false, Prod.mk.injEq] at h
    rcases h with ⟨rfl, rfl, rfl, rfl⟩ | ⟨rfl, rfl, rfl, rfl⟩ | ⟨rfl, rfl, rfl, rfl⟩ | ⟨rfl, rfl, rfl, rfl⟩ | ⟨rfl, rfl, rfl, rfl⟩ | ⟨rfl, rfl, rfl, rfl⟩
    · exact bf rfl ((h_lss _ _ _).trans (by rw [ilt_f h0]))
    · exact bf rfl ((h_gtr _ _ _).trans (by rw [ilt_f h1]))
    · exact bf rfl (h_gtr _ _ _)
    · exact bf rfl (h_lss _ _ _)
    · exact bf rfl (h_geq _ _ _)
    · exact bf rfl (h_neq _ _ _)
  · obtain ⟨rfl, hs⟩ := hsz k hk
    exact ⟨s.toNat, by show Value.int .i64 s = _; rw [Int.toNat_of_nonneg h0], by omega, by omega⟩

theorem idL_mem {v : Int} {op : BinOp} {a b r : AV} : ∀ {k : Nat}, (op, a, b, r) ∈ idL v k → ∃ j : Nat,
    (op = .lss ∧ a = .i .u64 (Int.ofNat (Nat.succ j)) ∧ b = .x 2 ∧ r = .b (ilt (Int.ofNat (Nat.succ j)) v)) ∨ (op = .gtr ∧ a = .i .u64 (Int.ofNat (Nat.succ j)) ∧ b = .x 2 ∧ r = .b (ilt v (Int.ofNat (Nat.succ j)))) ∨
    (op = .eql ∧ a = .i .u64 (Int.ofNat (Nat.succ j)) ∧ b = .x 2 ∧ r = .b (ieq (Int.ofNat (Nat.succ j)) v))
  | 0, h => by cases h
  | k + 1, h => by
    have h' : (op, a, b, r) ∈ _ :: _ :: _ :: idL v k := h
    simp only [List.mem_cons, Prod.mk.injEq] at h'
    rcases h' with h' | h' | h' | h'
    · exact ⟨k, .inl h'⟩
    · exact ⟨k, .inr (.inl h')⟩
    · exact ⟨k, .inr (.inr h')⟩
    · exact idL_mem h'

theorem idF_ok (P : Program) (d s i l : Int) (k : Nat) : FOk P (idF k i) (rho d s i l) := by
  refine ⟨fun op a b r h => ?_, fun _ _ h => (by cases h), fun _ _ _ _ h => (by cases h), fun _ _ _ h => (by cases h), fun k hk => (by cases hk)⟩
  simp only [idF, List.mem_cons, Prod.mk.injEq] at h
  rcases h with ⟨rfl, rfl, rfl, rfl⟩ | ⟨rfl, rfl, rfl, rfl⟩ | ⟨rfl, rfl, rfl, rfl⟩ | ⟨rfl, rfl, rfl, rfl⟩ | ⟨rfl, rfl, rfl, rfl⟩ | ⟨rfl, rfl, rfl, rfl⟩ | h
  · exact bf2 rfl rfl ((h_neq _ _ _).trans (by rw [ieq_t]; rfl))
  · exact bf rfl (h_eql _ _ _)
  · exact bf rfl (h_eql _ _ _)
  · exact bf rfl (h_geq _ _ _)
  · exact bf rfl (h_leq _ _ _)
  · exact bf rfl (h_gtr _ _ _)
  · obtain ⟨j, ⟨rfl, rfl, rfl, rfl⟩ | ⟨rfl, rfl, rfl, rfl⟩ | ⟨rfl, rfl, rfl, rfl⟩⟩ := idL_mem h
    · exact bfr rfl (h_lss _ _ _)
    · exact bfr rfl (h_gtr _ _ _)
    · exact bfr rfl (h_eql _ _ _)

/-- all numbers beyond answer alike -/
theorem idL_far {v u : Int} : ∀ {n : Nat}, (n : Int) < v → (n : Int) < u → idL v n = idL u n
  | 0, _, _ => rfl
  | n + 1, h, h' => by
    show _ :: _ :: _ :: idL v n = _ :: _ :: _ :: idL u n
    have e : Int.ofNat (Nat.succ n) = (n : Int) + 1 := rfl
    rw [e, idL_far (v := v) (u := u) (n := n) (by omega) (by omega), ilt_t (x := (n : Int) + 1) (y := v) (by omega), ilt_t (x := (n : Int) + 1) (y := u) (by omega), ilt_f (x := v) (y := (n : Int) + 1) (by omega),
      ilt_f (x := u) (y := (n : Int) + 1) (by omega), ieq_f (x := (n : Int) + 1) (y := v) (by omega), ieq_f (x := (n : Int) + 1) (y := u) (by omega)]

theorem idF_far {k : Nat} {v u : Int} (hk : 1 ≤ k) (h : (k : Int) < v) (h' : (k : Int) < u) : idF k v = idF k u := by
  unfold idF
  have e : Int.ofNat k = (k : Int) := rfl
  rw [e, idL_far h h', ieq_f (x := v) (y := 0) (by omega), ieq_f (x := u) (y := 0) (by omega), ieq_f (x := v) (y := 1) (by omega), ieq_f (x := u) (y := 1) (by omega), ilt_f (x := v) (y := 1) (by omega), ilt_f (x := u) (y := 1) (by omega),
    ilt_t h, ilt_t h']

theorem plain_ok {F : Facts} {ρ : Nat → Value} : FTOk Tryz.prog ifts F ρ ft.get := FTOk.plain ft_ok

/-- what is known of a call does not hang on facts that name no place -/
theorem CallG.facts {P : Program} {ifts : List TypeId} {F F' : Facts} {ρ : Nat → Value} {g : Nat} {args : List AV} {H H' : AH} {v : AV} (h : CallG P ifts F' ρ g args H v H') (hl : F'.ld = []) : CallG P ifts F ρ g args H v H' :=
  fun m w vs hw _ hvs => h m w vs hw (Fz.nil hl) hvs

theorem fa_ok {F : Facts} {ρ : Nat → Value} (h1 : One ρ) : FTOk Tryz.prog ifts F ρ fa := by
  refine plain_ok.withKn fun g args v hm H => ?_
  simp only [List.mem_cons, List.not_mem_nil, or_false, Prod.mk.injEq] at hm
  obtain ⟨rfl, rfl, rfl⟩ := hm
  exact CallG.facts (F' := {}) (known_true mixed (FOk.nil _ _) h1 plain_ok awake6 H) rfl

theorem noLd {F : Facts} {ρ : Nat → Value} {w0 : World} (h : F.ld = []) : Fz0 F ρ w0 := fun k v hk => by rw [h] at hk; cases hk

theorem At.runs {F : Facts} {ρ : Nat → Value} {w0 : World} {nt N : Nat} (hf : FOk Tryz.prog F ρ) (h1 : One ρ) (hld : F.ld = []) (hN : N ≤ nt) {Q : Exit → Act → World → Prop} {rest : ACode} :
    ∀ {l : List ACode} {T T' : Tr AV} {H H' : AH} {c : Code} {a : Act} {w : World}, runs F l T H = some (T', H') → ccode Tryz.prog ifts N c = some (nest l rest) → At Tryz.prog ifts ρ w0 nt T H a w →
      (∀ c' a' w', ccode Tryz.prog ifts N c' = some rest → At Tryz.prog ifts ρ w0 nt T' H' a' w' → c'.wpIn (FF none) 0 Tryz.prog Q a' w') → c.wpIn (FF none) 0 Tryz.prog Q a w
  | [], T, T', H, H', c, a, w, hr, hc, hA, k => by cases hr; exact k c a w hc hA
  | p :: l, T, T', H, H', c, a, w, hr, hc, hA, k => by
    obtain ⟨c1, c2, rfl, h2, h3⟩ := ccode_seq (show ccode Tryz.prog ifts N c = some (.seq p (nest l rest)) from hc)
    obtain ⟨⟨x, T1, H1⟩, g1, g2⟩ := bd_some (show bd (run F fa 100000 false p T H) _ = some (T', H') from hr)
    cases x with
    | nrm => exact wpIn_seq (hA.run mixed hf h1 (fa_ok h1) (noLd hld) g1 h2 hN fun a1 w1 hA1 => At.runs hf h1 hld hN g2 h3 hA1 k)
    | ext i => cases g2
    | ret => cases g2

theorem allN_get {p : Nat → Bool} : ∀ {n : Nat}, allN p n = true → ∀ j, j < n → p j = true
  | 0, _, j, h => by omega
  | n + 1, h, j, hj => by
    have h' : Bool.rec (motive := fun _ => Bool) false (allN p n) (p n) = true := h
    cases hp : p n with
    | false => rw [hp] at h'; cases h'
    | true =>
      rw [hp] at h'
      rcases Nat.lt_or_ge j n with hlt | hge
      · exact allN_get h' j hlt
      · rw [show j = n by omega]; exact hp

theorem retT_some {rs : List ARes} {r : Option (AX × Tr AV × AH)} (h : retT rs r = true) : ∃ T H, r = some (.ret, T, H) ∧ res T H rs = some (.b true) := by
  cases r with
  | none => cases h
  | some p =>
    obtain ⟨x, T, H⟩ := p
    cases x with
    | nrm => cases h
    | ext id => cases h
    | ret =>
      have h' : Option.rec (motive := fun _ => Bool) false (fun v => veq v (.b true)) (res T H rs) = true := h
      cases hv : res T H rs with
      | none => rw [hv] at h'; cases h'
      | some v =>
        rw [hv] at h'
        exact ⟨T, H, rfl, by rw [hv, veq_eq h']⟩

theorem fitO_some {T2 : Tr AV} {H2 : AH} {r : Option (Tr AV × AH)} (h : fitO T2 H2 r = true) : ∃ T H, r = some (T, H) ∧ H.n ≤ H2.n ∧ fits S2 T2 H2 T H = true := by
  cases r with
  | none => cases h
  | some p =>
    obtain ⟨T, H⟩ := p
    have h' : and (Nat.ble H.n H2.n) (fits S2 T2 H2 T H) = true := h
    rw [Bool.and_eq_true] at h'
    exact ⟨T, H, rfl, Nat.le_of_ble_eq_true h'.1, h'.2⟩

/-- what is left, where it fits -/
theorem At.fit {ρ : Nat → Value} {w0 : World} {nt : Nat} {T T2 : Tr AV} {H H2 : AH} {a : Act} {w : World} (hn : H.n ≤ H2.n) (h : fits S2 T2 H2 T H = true) (hA : At Tryz.prog ifts ρ w0 nt T H a w) : At Tryz.prog ifts ρ w0 nt T2 H2 a w := by
  refine hA.weaken (S := S2) (fun _ _ => rfl) (fun b o hb => ?_) h
  have h' := h
  simp only [fits, Bool.and_eq_true] at h'
  obtain ⟨o', g1, _⟩ := Tr.leB_get h'.1.1.2 b o hb
  exact Nat.lt_of_lt_of_le (hA.lt b o' g1) hn

theorem chk1_some {F : Facts} {T0 T2 : Tr AV} {H2 : AH} (h : chk1 F T0 T2 H2 = true) : ∃ T H, runs F first T0 nothing = some (T, H) ∧ fitO T2 H2 (runs (idF 1 0) [p12] T H) = true ∧ fitO T2 H2 (runs (idF 1 1) [p12] T H) = true ∧ fitO T2 H2 (runs (idF 1 2) [p12] T H) = true := by
  have h0 : Option.rec (motive := fun _ => Bool) false (fun r => and (fitO T2 H2 (runs (idF 1 0) [p12] r.1 r.2)) (and (fitO T2 H2 (runs (idF 1 1) [p12] r.1 r.2)) (fitO T2 H2 (runs (idF 1 2) [p12] r.1 r.2)))) (runs F first T0 nothing) = true := h
  cases hr : runs F first T0 nothing with
  | none => rw [hr] at h0; cases h0
  | some p =>
    rw [hr] at h0
    have h1 : and (fitO T2 H2 (runs (idF 1 0) [p12] p.1 p.2)) (and (fitO T2 H2 (runs (idF 1 1) [p12] p.1 p.2)) (fitO T2 H2 (runs (idF 1 2) [p12] p.1 p.2))) = true := h0
    rw [Bool.and_eq_true, Bool.and_eq_true] at h1
    exact ⟨p.1, p.2, rfl, h1⟩

theorem chk2_some {T2 : Tr AV} {H2 : AH} {k : Nat} (h : chk2 T2 H2 k = true) : ∃ T H, runs {} [p13, p14] T2 H2 = some (T, H) ∧ ∀ j, j < k + 2 → retT f3.res (run (idF k (Int.ofNat j)) fa 100000 false tl15 T H) = true := by
  have h0 : Option.rec (motive := fun _ => Bool) false (fun r => allN (fun j => retT f3.res (run (idF k (Int.ofNat j)) fa 100000 false tl15 r.1 r.2)) (k + 2)) (runs {} [p13, p14] T2 H2) = true := h
  cases hr : runs {} [p13, p14] T2 H2 with
  | none => rw [hr] at h0; cases h0
  | some p =>
    rw [hr] at h0
    exact ⟨p.1, p.2, rfl, allN_get h0⟩

theorem outF_ok (P : Program) (d s i l : Int) : FOk P (outF (ilt s 0) (ilt 30000 s) (ilt l 1) (ilt 20 l)) (rho d s i l) := by
  refine ⟨fun op a b r h => ?_, fun _ _ h => (by cases h), fun _ _ _ _ h => (by cases h), fun _ _ _ h => (by cases h), fun k hk => (by cases hk)⟩
  simp only [outF, List.mem_cons, List.not_mem_nil, or_false, Prod.mk.injEq] at h
  rcases h with ⟨rfl, rfl, rfl, rfl⟩ | ⟨rfl, rfl, rfl, rfl⟩ | ⟨rfl, rfl, rfl, rfl⟩ | ⟨rfl, rfl, rfl, rfl⟩
  · exact bf rfl (h_lss _ _ _)
  · exact bf rfl (h_gtr _ _ _)
  · exact bf rfl (h_lss _ _ _)
  · exact bf rfl (h_gtr _ _ _)

theorem chk0_some {F : Facts} (h : chk0 F = true) : ∃ T H, runs F [p0] (Tr.ofL [.x 0, .x 1, .x 2, .x 3] 0 .lf) nothing = some (T, H) ∧ retT f3.res (run F fa 100000 false p1 T H) = true := by
  have h0 : Option.rec (motive := fun _ => Bool) false (fun r => retT f3.res (run F fa 100000 false p1 r.1 r.2)) (runs F [p0] (Tr.ofL [.x 0, .x 1, .x 2, .x 3] 0 .lf) nothing) = true := h
  cases hr : runs F [p0] (Tr.ofL [.x 0, .x 1, .x 2, .x 3] 0 .lf) nothing with
  | none => rw [hr] at h0; cases h0
  | some p => rw [hr] at h0; exact ⟨p.1, p.2, rfl, h0⟩

/-- what a call of the law comes to -/
def Goal (d s i l : Int) (w0 : World) : Prop := Calls Tryz.prog 3 #[.int .i64 d, .int .i64 s, .int .u64 i, .int .u64 l] w0 fun e w' => e = .returned (.bool true) ∧ Below w0.heap.size w0 w'

theorem goal_of {d s i l : Int} {w0 : World} {args : List AV} (hv : VRs (rho d s i l) none' args [.int .i64 d, .int .i64 s, .int .u64 i, .int .u64 l])
    (h : ∀ (N nt : Nat) c a (post : Exit → Act → World → Prop), ccode Tryz.prog ifts N c = some f3.body → N ≤ nt → At Tryz.prog ifts (rho d s i l) w0 nt (Tr.ofL args 0 .lf) nothing a w0 →
      (∀ {T : Tr AV} {H : AH} {a' : Act} {w' : World}, At Tryz.prog ifts (rho d s i l) w0 nt T H a' w' → res T H f3.res = some (.b true) → post .ret a' w') → c.wpIn (FF none) 0 Tryz.prog post a w0) : Goal d s i l w0 := by
  refine calls_at (ifts := ifts) (ρ := rho d s i l) c3 (args := args) hv fun N c a hc hN hA => ?_
  obtain ⟨nt, hnt⟩ : ∃ nt, nt = a.tmps.size := ⟨_, rfl⟩
  rw [← hnt] at hA hN ⊢
  refine h N nt c a _ hc hN hA fun {T H a' w'} hA' hres => ?_
  exact ⟨.inr rfl, _, T, H, hA', .b true, hres, fun m u hu w'' hb => ⟨by simp only [VR] at hu; rw [hu], hb⟩⟩

theorem far (d s i l : Int) (w0 : World) (h : s < 0 ∨ 30000 < s ∨ l < 1 ∨ 20 < l) : Goal d s i l w0 := by
  have hout : chk0 (outF (ilt s 0) (ilt 30000 s) (ilt l 1) (ilt 20 l)) = true := by
    cases h1 : ilt s 0 with
    | true => exact out1 _ _ _
    | false =>
      cases h2 : ilt 30000 s with
      | true => exact out2 _ _
      | false =>
        cases h3 : ilt l 1 with
        | true => exact out3 _
        | false =>
          cases h4 : ilt 20 l with
          | true => exact out4
          | false =>
            rw [ilt_eq] at h1 h2 h3 h4
            simp at h1 h2 h3 h4
            omega
  obtain ⟨T, H, g1, g2⟩ := chk0_some hout
  obtain ⟨T', H', g3, g4⟩ := retT_some g2
  have one := rho_one d s i l
  refine goal_of (args := [.x 0, .x 1, .x 2, .x 3]) (VRs.cons (by simp only [VR]; rfl) (VRs.cons (by simp only [VR]; rfl) (VRs.cons (by simp only [VR]; rfl) (VRs.cons (by simp only [VR]; rfl) .nil)))) fun N nt c a post hc hN hA fin => ?_
  rw [f3_shape1] at hc
  refine At.runs (outF_ok _ d s i l) one rfl hN g1 hc hA fun c' a' w' hc' hA' => ?_
  obtain ⟨c1, c2, rfl, k1, k2⟩ := ccode_seq hc'
  exact wpIn_seq (hA'.run mixed (outF_ok _ d s i l) one (fa_ok one) (noLd rfl) g3 k1 hN fun a2 w2 hA2 => fin hA2 g4)

theorem near {d s i : Int} {k : Nat} (w0 : World) (hi : 0 ≤ i) (hk : 1 ≤ k) {da sa : AV} {F : Facts} (hf : FOk Tryz.prog F (rho d s i (Int.ofNat k))) (hld : F.ld = []) (hda : VR (rho d s i (Int.ofNat k)) none' da (.int .i64 d))
    (hsa : VR (rho d s i (Int.ofNat k)) none' sa (.int .i64 s)) {n : Int} {H2 : AH} (h1 : chk1 F (T1 da sa k) (T2 n k) H2 = true) (h2 : chk2 (T2 n k) H2 k = true) : Goal d s i (Int.ofNat k) w0 := by
  obtain ⟨TA, HA, g1, f0, f1, f2⟩ := chk1_some h1
  obtain ⟨TB, HB, g2, g3⟩ := chk2_some h2
  have one := rho_one d s i (Int.ofNat k)
  have e12 : ∃ T H, runs (idF 1 i) [p12] TA HA = some (T, H) ∧ H.n ≤ H2.n ∧ fits S2 (T2 n k) H2 T H = true := by
    rcases Int.lt_or_le 1 i with h | h
    · rw [idF_far (k := 1) (v := i) (u := 2) (by omega) (by omega) (by decide)]
      exact fitO_some f2
    · rcases (show i = 0 ∨ i = 1 by omega) with rfl | rfl
      · exact fitO_some f0
      · exact fitO_some f1
  obtain ⟨TC, HC, g4, g5, g6⟩ := e12
  have e15 : retT f3.res (run (idF k i) fa 100000 false tl15 TB HB) = true := by
    rcases Int.lt_or_le k i with h | h
    · rw [idF_far (k := k) (v := i) (u := Int.ofNat (k + 1)) hk h (by show (k : Int) < ((k + 1 : Nat) : Int); omega)]
      exact g3 (k + 1) (by omega)
    · obtain ⟨j, rfl⟩ : ∃ j : Nat, i = Int.ofNat j := ⟨i.toNat, (Int.toNat_of_nonneg hi).symm⟩
      exact g3 j (by have : ((j : Nat) : Int) ≤ k := h; omega)
  obtain ⟨T', H', g7, g8⟩ := retT_some e15
  refine goal_of (args := [da, sa, .x 2, .i .u64 (Int.ofNat k)]) (VRs.cons hda (VRs.cons hsa (VRs.cons (by simp only [VR]; rfl) (VRs.cons (by simp only [VR]) .nil)))) fun N nt c a post hc hN hA fin => ?_
  rw [f3_shape] at hc
  refine At.runs hf one hld hN g1 hc hA fun c1 a1 w1 hc1 hA1 => ?_
  refine At.runs (idF_ok _ d s i _ 1) one rfl hN g4 hc1 hA1 fun c2 a2 w2 hc2 hA2 => ?_
  refine At.runs (FOk.nil _ _) one rfl hN g2 hc2 (At.fit g5 g6 hA2) fun c3 a3 w3 hc3 hA3 => ?_
  exact hA3.run mixed (idF_ok _ d s i _ k) one (fa_ok one) (noLd rfl) g7 hc3 hN fun a4 w4 hA4 => fin hA4 g8
end Go.Ev.Q
