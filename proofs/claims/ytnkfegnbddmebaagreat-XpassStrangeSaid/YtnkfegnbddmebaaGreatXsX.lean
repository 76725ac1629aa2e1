/-
  The law XpassStrange, walked: called with a list of frames it returns true, and nothing that was there turns. Conditions: the cells of the frames lie where the list says.
-/
import Derived.Test.YtnkfegnbddmebaaGreatXsW
namespace Go.Ev.Q
open Go Go.Ev Go.Proofs Go.RowKit

theorem goesOn_some {r : Option (AX × Tr AV × AH)} (h : goesOn r = true) : r = some (.nrm, oT r, oH r) ∧ fits S2 (Tr.set (.x 22) TI 6) HI (oT r) (oH r) = true := by
  have h' : and (isN r) (fits S2 (Tr.set (.x 22) TI 6) HI (oT r) (oH r)) = true := h
  rw [Bool.and_eq_true] at h'
  exact ⟨isN_some h'.1, h'.2⟩

theorem isE_some {r : Option (AX × Tr AV × AH)} (h : isE r = true) : ∃ T H, r = some (.ext 0, T, H) ∧ fits S0 TI HI T H = true := by
  cases r with
  | none => cases h
  | some p =>
    obtain ⟨x, T, H⟩ := p
    cases x with
    | nrm => cases h
    | ret => cases h
    | ext id =>
      have h' : and (Nat.beq id 0) (fits S0 TI HI T H) = true := h
      rw [Bool.and_eq_true] at h'
      exact ⟨T, H, by rw [Nat.eq_of_beq_eq_true h'.1], h'.2⟩

theorem noLd {F : Facts} {ρ : Nat → Value} {w0 : World} (h : F.ld = []) : Fz0 F ρ w0 := fun k v hk => by rw [h] at hk; cases hk

theorem S0_rho (v : Value) (n i j B o : Nat) (f : Fr) : ∀ k, S0 k = true → rho0 v n i k = rho v n j B o f k := fun k hk => by
  match k with
  | 0 => rfl
  | 1 => rfl
  | k + 2 => simp [S0] at hk
theorem S0_rho' (v : Value) (n i j B o : Nat) (f : Fr) : ∀ k, S0 k = true → rho v n j B o f k = rho0 v n i k := fun k hk => (S0_rho v n i j B o f k hk).symm
theorem S0_rho0 (v : Value) (n i j : Nat) : ∀ k, S0 k = true → rho0 v n i k = rho0 v n j k := fun k hk => by
  match k with
  | 0 => rfl
  | 1 => rfl
  | k + 2 => simp [S0] at hk

/-- the loop's number -/
def at6 (a : Act) : Nat := match (a.tmps[6]? : Option Value) with
  | some (.int _ n) => n.toNat
  | _ => 0

theorem walk (a : Option Addr) (l c : Nat) (w0 : World) (hfr : l ≤ 40 → ∀ i, i < l → ∃ (B o : Nat) (f : Fr), a = some ⟨B, o, none⟩ ∧ ∀ (j : Nat) v, f.cells[j]? = some v → w0.cell? ⟨B, o + (10 * i + j), none⟩ = some v) :
    Calls Tryz.prog 4 #[.slice a l c] w0 fun e w' => e = .returned (.bool true) ∧ Below w0.heap.size w0 w' := by
  refine calls_at (ifts := ifts) (ρ := rho0 (.slice a l c) l 0) c4 (args := [.x 0]) (VRs.cons (by simp only [VR]; rfl) .nil) fun N cd ac hc hN hA => ?_
  rw [f4_shape] at hc
  obtain ⟨k0, kr, rfl, h0, hc⟩ := ccode_seq hc
  obtain ⟨k1, kr1, rfl, h1, hc⟩ := ccode_seq hc
  obtain ⟨k2, kr2, rfl, h2, hc⟩ := ccode_seq hc
  obtain ⟨k3, kr3, rfl, h3, hc⟩ := ccode_seq hc
  obtain ⟨k4, kr4, rfl, h4, hc⟩ := ccode_seq hc
  obtain ⟨kx, kB, rfl, hx, hB⟩ := ccode_seq hc
  obtain ⟨k5, kb, rfl, h5, hb⟩ := ccode_seq hx
  obtain ⟨kl, rfl, hl⟩ := ccode_blk hb
  obtain ⟨kL, rfl, hL⟩ := ccode_loop hl
  obtain ⟨nt, hnt⟩ : ∃ nt, nt = ac.tmps.size := ⟨_, rfl⟩
  rw [← hnt] at hA hN ⊢
  obtain ⟨post, hpost⟩ : ∃ post : Exit → Act → World → Prop, post = (fun e a' w' => (e = .normal ∨ e = .ret) ∧ ∃ ρ' T' H', At Tryz.prog ifts ρ' w0 nt T' H' a' w' ∧ ∃ v, res T' H' f4.res = some v ∧
      ∀ m u, VR ρ' m v u → ∀ w'', Below w0.heap.size w0 w'' → (Ending.returned u = .returned (.bool true) ∧ Below w0.heap.size w0 w'')) := ⟨_, rfl⟩
  have fin : ∀ {ρ : Nat → Value} {T : Tr AV} {H : AH} {a' : Act} {w' : World}, At Tryz.prog ifts ρ w0 nt T H a' w' → res T H f4.res = some (.b true) → post .ret a' w' := by
    intro ρ T H a' w' hA' hres
    rw [hpost]
    exact ⟨.inr rfl, ρ, T, H, hA', .b true, hres, fun m u hu w'' hb => ⟨by simp only [VR] at hu; rw [hu], hb⟩⟩
  rw [← hpost]
  have one0 := rho0_one a l c l 0
  cases hlen : ilt 40 (l : Int) with
  | true =>
    have F0 := lenFacts_ok Tryz.prog a l c true hlen 0
    refine wpIn_seq (hA.run mixed F0 one0 (fa_ok one0) (noLd rfl) (isN_some many0) h0 hN fun a1 w1 hA1 => ?_)
    obtain ⟨T', H', g1, g2⟩ := retT_some many
    exact wpIn_seq (hA1.run mixed F0 one0 (fa_ok one0) (noLd rfl) g1 h1 hN fun a2 w2 hA2 => fin hA2 g2)
  | false =>
    have hl40 : l ≤ 40 := by rw [ilt_eq] at hlen; simp at hlen; omega
    have F0 := lenFacts_ok Tryz.prog a l c false hlen 0
    refine wpIn_seq (hA.run mixed F0 one0 (fa_ok one0) (noLd rfl) (isN_some n0) h0 hN fun a1 w1 hA1 => ?_)
    refine wpIn_seq (hA1.run mixed F0 one0 (fa_ok one0) (noLd rfl) (isN_some n1) h1 hN fun a2 w2 hA2 => ?_)
    refine wpIn_seq (hA2.run mixed F0 one0 (fa_ok one0) (noLd rfl) (isN_some n2) h2 hN fun a3 w3 hA3 => ?_)
    refine wpIn_seq (hA3.run mixed F0 one0 (fa_ok one0) (noLd rfl) (isN_some n3) h3 hN fun a4 w4 hA4 => ?_)
    refine wpIn_seq (hA4.run mixed F0 one0 (fa_ok one0) (noLd rfl) (isN_some n4) h4 hN fun a5 w5 hA5 => ?_)
    refine wpIn_seq (wpIn_seq (hA5.run mixed F0 one0 (fa_ok one0) (noLd rfl) (isN_some n5) h5 hN fun a6 w6 hA6 => ?_))
    have hHI : ∀ b o, HI.get b = some o → b < HI.n := hA6.lt
    have hI0 : At Tryz.prog ifts (rho0 (.slice a l c) l 0) w0 nt TI HI a6 w6 := hA6.weaken (S := S0) (fun _ _ => rfl) hHI fit0
    have h60 : a6.tmps[6]? = some (.int .i64 ((0 : Nat) : Int)) := by
      obtain ⟨m, v, g1, g2⟩ := hA6.tmp start6
      simp only [VR] at g2
      rw [g1, g2]; rfl
    refine wpIn_block (wpIn_loop (fun a' w' => ∃ i, i ≤ l ∧ At Tryz.prog ifts (rho0 (.slice a l c) l 0) w0 nt TI HI a' w' ∧ a'.tmps[6]? = some (.int .i64 (i : Int))) (fun a' _ => l - at6 a') ⟨0, Nat.zero_le _, hI0, h60⟩ ?_)
    rintro a7 w7 ⟨i, hi, hA7, h6⟩
    rcases Nat.lt_or_ge i l with hlt | hge
    · obtain ⟨B, o, f, rfl, hcells⟩ := hfr hl40 i hlt
      have hAL := (hA7.weaken (S := S0) (S0_rho _ l 0 i B o f) hHI fit1).name (t := 6) (k := 2) h6
      have FL := loopFacts_ok B o l c i f hlt hl40
      have one1 := rho_one (some ⟨B, o, none⟩) l c l i B o f
      have hz := loop_fz w0 (.slice (some ⟨B, o, none⟩) l c) l i B o f hcells (ilt 2000 f.dl) (ieq f.d 1) (ieq f.s 0) (ieq f.s 1) (!(ilt f.s 2))
      rcases round_cases f with hr | hr
      · obtain ⟨T', H', g1, g2⟩ := retT_some hr
        exact hAL.run mixed FL one1 (fk_ok _ l c l i B o f) hz g1 hL hN fun a8 w8 hA8 => fin hA8 g2
      · obtain ⟨g1, g2⟩ := goesOn_some hr
        refine hAL.run mixed FL one1 (fk_ok _ l c l i B o f) hz g1 hL hN fun a8 w8 hA8 => ?_
        have hA9 := hA8.weaken (S := S2) (ρ' := rho (.slice (some ⟨B, o, none⟩) l c) l i B o f) (fun _ _ => rfl) hHI g2
        have h66 : a8.tmps[6]? = some (.int .i64 ((i + 1 : Nat) : Int)) := by
          obtain ⟨m, v, q1, q2⟩ := hA9.tmp (t := 6) (x := .x 22) (by rw [Tr.get_set, if_pos rfl])
          simp only [VR] at q2
          rw [q1, q2]; rfl
        refine ⟨⟨i + 1, hlt, hA9.weaken (S := S0) (S0_rho' _ l 0 i B o f) hHI fit2, h66⟩, ?_⟩
        have e1 : at6 a8 = i + 1 := by unfold at6; rw [h66]; rfl
        have e2 : at6 a7 = i := by unfold at6; rw [h6]; rfl
        show l - at6 a8 < l - at6 a7
        omega
    · have hil : i = l := by omega
      subst hil
      have hAL := (hA7.weaken (S := S0) (S0_rho0 _ i 0 i) hHI fit1).name (t := 6) (k := 2) h6
      have one1 := rho0_one a i c i i
      obtain ⟨T', H', g1, g2⟩ := isE_some lp_end
      refine hAL.run mixed (endFacts_ok Tryz.prog a i c) one1 (fa_ok one1) (noLd rfl) g1 hL hN fun a8 w8 hA8 => ?_
      have hA9 := hA8.weaken (S := S0) (ρ' := rho0 (.slice a i c) i 0) (S0_rho0 _ i i 0) hHI g2
      obtain ⟨T2, H2, q1, q2⟩ := retT_some rest
      show kB.wpIn (FF none) 0 Tryz.prog post a8 w8
      exact hA9.run mixed (FOk.nil _ _) one0 (fa_ok one0) (noLd rfl) q1 hB hN fun a9 w9 hA10 => fin hA10 q2
end Go.Ev.Q
