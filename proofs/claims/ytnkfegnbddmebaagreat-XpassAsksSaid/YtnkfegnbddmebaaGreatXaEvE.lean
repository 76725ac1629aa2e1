/-
  The abstract evaluator: one operation of a region, calls and all; regions that are walked in order.
  Conditions: none beyond those that each theorem names.
-/
import Derived.Test.YtnkfegnbddmebaaGreatXaEvD
import Derived.CallsIn
import Derived.OrdersIn
import Derived.RangeFuncIn
import Derived.RangeFuncLeaves
namespace Go.Ev
open Go
section
variable {F : Facts} {T T' : Tr AV} {H H' : AH}

theorem ev_congr {x : AOpd} (h : ∀ t ∈ readsOp.r x, T.get t = T'.get t) : x.ev T = x.ev T' := by
  cases x with
  | t n => exact h n (by simp [readsOp.r])
  | c v => rfl

theorem evs_congr : ∀ {l : List AOpd}, (∀ t ∈ l.flatMap readsOp.r, T.get t = T'.get t) → evs l T = evs l T'
  | [], _ => rfl
  | x :: l, h => by
    have h1 := ev_congr (x := x) fun t ht => h t (by simp [ht])
    have h2 := evs_congr (l := l) fun t ht => h t (by simp at ht ⊢; exact .inr ht)
    show bd (x.ev T) _ = bd (x.ev T') _
    rw [h1]
    show bd (x.ev T') (fun v => bd (evs l T) _) = bd (x.ev T') (fun v => bd (evs l T') _)
    rw [h2]

theorem bnd_congr {x : Option AOpd} {d : Nat} (h : ∀ t ∈ readsOp.ro x, T.get t = T'.get t) : (fun top => bnd x d top T) = fun top => bnd x d top T' := by
  funext top
  cases x with
  | none => rfl
  | some x => simp only [bnd]; rw [ev_congr (x := x) fun t ht => h t (by simpa [readsOp.ro] using ht)]

theorem bnd_congr' {x : Option AOpd} {d top : Nat} (h : ∀ t ∈ readsOp.ro x, T.get t = T'.get t) : bnd x d top T = bnd x d top T' := congrFun (bnd_congr h) top

theorem fills_congr : ∀ {ps : List (Nat × Nat × AOpd)} {z : List AV}, (∀ t ∈ ps.flatMap (fun p => readsOp.r p.2.2), T.get t = T'.get t) → fills T ps z = fills T' ps z
  | [], _, _ => rfl
  | (o, n, x) :: l, z, h => by
    have h1 := ev_congr (x := x) fun t ht => h t (by simp [ht])
    simp only [fills, h1]
    congr 1; funext v; congr 1; funext c; congr 1; congr 1; funext z'
    exact fills_congr fun t ht => h t (by simp at ht ⊢; exact .inr ht)

variable {R : Rec} {FT : Fns}

theorem exop_congr {op : AOp} (h : ∀ t ∈ readsOp op, T.get t = T'.get t) : exop op F R FT T H = exop op F R FT T' H := by
  cases op <;> simp only [readsOp, List.mem_append, List.not_mem_nil, false_implies, implies_true, or_imp, forall_and] at h
  case mv x => show lift _ F R FT T H = lift _ F R FT T' H; simp only [lift, p_mv, ev_congr h]
  case pk c a b => show lift _ F R FT T H = lift _ F R FT T' H; simp only [lift, p_pk, ev_congr h.1.1]; congr 1; congr 1; funext v; simp only [pkV, ev_congr h.1.2, ev_congr h.2]
  case al => rfl
  case bx x => show leff _ F R FT T H = leff _ F R FT T' H; simp only [leff, e_bx, ev_congr h]
  case bl z ps => show lift _ F R FT T H = lift _ F R FT T' H; simp only [lift, p_bl, fills_congr h]
  case bs len z ps => show leff _ F R FT T H = leff _ F R FT T' H; simp only [leff, e_bs, fills_congr h]
  case ld x => show lift _ F R FT T H = lift _ F R FT T' H; simp only [lift, p_ld, ev_congr h]
  case ldn x n => show lift _ F R FT T H = lift _ F R FT T' H; simp only [lift, p_ldn, ev_congr h]
  case st a x n => show leff _ F R FT T H = leff _ F R FT T' H; simp only [leff, e_st, ev_congr h.1, ev_congr h.2]
  case nc x => show lift _ F R FT T H = lift _ F R FT T' H; simp only [lift, p_nc, ev_congr h]
  case bi op x y => show lift _ F R FT T H = lift _ F R FT T' H; simp only [lift, p_bi, ev_congr h.1, ev_congr h.2]
  case sb op x y => show lift _ F R FT T H = lift _ F R FT T' H; simp only [lift, p_sb, ev_congr h.1, ev_congr h.2]
  case eq n q x y => show lift _ F R FT T H = lift _ F R FT T' H; simp only [lift, p_eq, ev_congr h.1, ev_congr h.2]
  case un op x => show lift _ F R FT T H = lift _ F R FT T' H; simp only [lift, p_un, ev_congr h]
  case cvi k x => show lift _ F R FT T H = lift _ F R FT T' H; simp only [lift, p_cvi, ev_congr h]
  case cvs x => show lift _ F R FT T H = lift _ F R FT T' H; simp only [lift, p_cvs, ev_congr h]
  case cbs x => show lift _ F R FT T H = lift _ F R FT T' H; simp only [lift, p_cbs, ev_congr h]
  case csb x => show leff _ F R FT T H = leff _ F R FT T' H; simp only [leff, e_csb, ev_congr h]
  case mki t x => show lift _ F R FT T H = lift _ F R FT T' H; simp only [lift, p_mki, ev_congr h]
  case mkf g f c => show lift _ F R FT T H = lift _ F R FT T' H; simp only [lift, p_mkf, evs_congr h.1, evs_congr h.2]
  case mkm => rfl
  case mks a b z l c => show x_mks _ _ _ _ _ F R FT T H = x_mks _ _ _ _ _ F R FT T' H; simp only [x_mks, e_mks, s_mks, ev_congr h.1, ev_congr h.2]
  case sls x lo hi => show lift _ F R FT T H = lift _ F R FT T' H; simp only [lift, p_sls, ev_congr h.1.1]; congr 1; congr 1; funext v; unfold slsV; congr 1; funext l; simp only [slsL, bnd_congr' h.1.2, bnd_congr' h.2]
  case sll e x lo hi mx =>
    show lift _ F R FT T H = lift _ F R FT T' H
    simp only [lift, p_sll, ev_congr h.1.1.1]
    congr 1; congr 1; funext v
    have hS : sllS e lo hi mx T = sllS e lo hi mx T' := by funext b o len cap ex; simp only [sllS, bnd_congr' h.1.1.2, bnd_congr' h.1.2, bnd_congr' h.2]
    have hX : sllX lo hi mx T = sllX lo hi mx T' := by funext b; simp only [sllX, bnd_congr' h.1.1.2, bnd_congr' h.1.2, bnd_congr' h.2]
    simp only [sllV, sllN, hS, hX, bnd_congr' h.1.1.2, bnd_congr' h.1.2, bnd_congr' h.2]
  case sla n e x lo hi mx => show lift _ F R FT T H = lift _ F R FT T' H; simp only [lift, p_sla, ev_congr h.1.1.1]; congr 1; congr 1; funext v; unfold slaV; congr 1; funext b o; simp only [slaP, bnd_congr' h.1.1.2, bnd_congr' h.1.2, bnd_congr' h.2]
  case fa x n => show lift _ F R FT T H = lift _ F R FT T' H; simp only [lift, p_fa, ev_congr h]
  case fld x o n g => show lift _ F R FT T H = lift _ F R FT T' H; simp only [lift, p_fld, ev_congr h]
  case ias e x y => show lift _ F R FT T H = lift _ F R FT T' H; simp only [lift, p_ias, ev_congr h.1, ev_congr h.2]
  case iaa n e x y => show lift _ F R FT T H = lift _ F R FT T' H; simp only [lift, p_iaa, ev_congr h.1, ev_congr h.2]
  case ixs x y => show lift _ F R FT T H = lift _ F R FT T' H; simp only [lift, p_ixs, ev_congr h.1, ev_congr h.2]
  case ixa n e g x y => show lift _ F R FT T H = lift _ F R FT T' H; simp only [lift, p_ixa, ev_congr h.1, ev_congr h.2]
  case lk q z x y ok => show lift _ F R FT T H = lift _ F R FT T' H; simp only [lift, p_lk, ev_congr h.1, ev_congr h.2]
  case mu q a b c => show leff _ F R FT T H = leff _ F R FT T' H; simp only [leff, e_mu, ev_congr h.1.1, ev_congr h.1.2, ev_congr h.2]
  case me q z a b => show leff _ F R FT T H = leff _ F R FT T' H; simp only [leff, e_me, ev_congr h.1, ev_congr h.2]
  case es a b c => show leff _ F R FT T H = leff _ F R FT T' H; simp only [leff, e_es, ev_congr h.1.1, ev_congr h.1.2, ev_congr h.2]
  case dl q a b => show leff _ F R FT T H = leff _ F R FT T' H; simp only [leff, e_dl, ev_congr h.1, ev_congr h.2]
  case rs x => show leff _ F R FT T H = leff _ F R FT T' H; simp only [leff, e_rs, ev_congr h]
  case rm x => show leff _ F R FT T H = leff _ F R FT T' H; simp only [leff, e_rm, ev_congr h]
  case nxs x => show leff _ F R FT T H = leff _ F R FT T' H; simp only [leff, e_nxs, ev_congr h]
  case nxm x => show leff _ F R FT T H = leff _ F R FT T' H; simp only [leff, e_nxm, ev_congr h]
  case en x => show lift _ F R FT T H = lift _ F R FT T' H; simp only [lift, p_en, ev_congr h]
  case ex x i => show lift _ F R FT T H = lift _ F R FT T' H; simp only [lift, p_ex, ev_congr h]
  case lns s x => show lift _ F R FT T H = lift _ F R FT T' H; simp only [lift, p_lns, ev_congr h]
  case lnc n => rfl
  case lnm x => show lift _ F R FT T H = lift _ F R FT T' H; simp only [lift, p_lnm, ev_congr h]
  case cp x => show lift _ F R FT T H = lift _ F R FT T' H; simp only [lift, p_cp, ev_congr h]
  case mx l => show lift _ F R FT T H = lift _ F R FT T' H; simp only [lift, p_mx, evs_congr h]
  case mn l => show lift _ F R FT T H = lift _ F R FT T' H; simp only [lift, p_mn, evs_congr h]
  case ap e x y => show x_ap _ _ _ F R FT T H = x_ap _ _ _ F R FT T' H; simp only [x_ap, e_ap, s_ap, ev_congr h.1, ev_congr h.2]
  case apz e b z x y => show leff _ F R FT T H = leff _ F R FT T' H; simp only [leff, e_apz, ev_congr h.1, ev_congr h.2]
  case cpy e x y => show leff _ F R FT T H = leff _ F R FT T' H; simp only [leff, e_cpy, ev_congr h.1, ev_congr h.2]
  case cls z x => show leff _ F R FT T H = leff _ F R FT T' H; simp only [leff, e_cls, ev_congr h]
  case clm x => show leff _ F R FT T H = leff _ F R FT T' H; simp only [leff, e_clm, ev_congr h]
  case call g l => show x_call _ _ F R FT T H = x_call _ _ F R FT T' H; simp only [x_call, evs_congr h]
  case cv f l => show x_cv _ _ F R FT T H = x_cv _ _ F R FT T' H; simp only [x_cv, ev_congr h.1, evs_congr h.2]
  case inv r ms l => show x_inv _ _ _ F R FT T H = x_inv _ _ _ F R FT T' H; simp only [x_inv, ev_congr h.1, evs_congr h.2]
  case bad => rfl

theorem orE_some {x y : Option (AV × AH)} {r : AV × AH} (h : orE x y = some r) : x = some r ∨ y = some r := by
  cases x with
  | none => exact .inr h
  | some v => exact .inl h

/-- an operation is one that leaves the heap alone, or one that touches it, or a call -/
theorem exop_split {op : AOp} {v : AV} (h : exop op F R FT T H = some (v, H')) :
    (pureOp op F T H = some v ∧ H' = H) ∨ effOp op T H = some (v, H') ∨ symOp op F T H = some (v, H') ∨ (∃ g l, op = .call g l) ∨ (∃ f l, op = .cv f l) ∨ (∃ r ms l, op = .inv r ms l) := by
  have lf : ∀ {p : POp}, lift p F R FT T H = some (v, H') → p F T H = some v ∧ H' = H := by
    intro p hp
    obtain ⟨u, h1, h2⟩ := bd_some (show bd (p F T H) _ = some (v, H') from hp)
    cases h2; exact ⟨h1, rfl⟩
  cases op <;> first
    | exact .inl (lf h)
    | exact .inr (.inl h)
    | exact .inr (.inr (.inr (.inl ⟨_, _, rfl⟩)))
    | exact .inr (.inr (.inr (.inr (.inl ⟨_, _, rfl⟩))))
    | exact .inr (.inr (.inr (.inr (.inr ⟨_, _, _, rfl⟩))))
    | (rcases orE_some h with h | h
       · exact .inr (.inl h)
       · exact .inr (.inr (.inl h)))
end
end Go.Ev

namespace Go.Ev
open Go
section
variable {F : Facts} {T T' : Tr AV} {H H' : AH}

/-- of its operands alone -/
theorem cls0_free {op : AOp} (h : cls op = 0) (H H' : AH) : pureOp op F T H = pureOp op F T H' := by
  cases op <;> first
    | rfl
    | exact Nat.noConfusion (show 1 = 0 from h)
    | skip
  rename_i neg q x y
  cases q <;> first
    | rfl
    | exact Nat.noConfusion (show 1 = 0 from h)

def HLe (H H' : AH) : Prop := ∀ b o, H.get b = some o → H'.get b = some o

theorem row_mono (hl : HLe H H') {b : Nat} {l : List AV} (h : row H b = some l) : row H' b = some l := by
  obtain ⟨ob, h1, h2⟩ := bd_some h
  show bd (H'.get b) _ = some l
  rw [hl b ob h1]; exact h2

theorem isCells_mono (hl : HLe H H') {b o : Nat} (h : isCells H b o = true) : isCells H' b o = true := by
  obtain ⟨l, es, h1, h2⟩ := isCells_some h
  unfold isCells
  rw [hl b _ h1]
  simpa using h2

theorem aeq_mono (hl : HLe H H') {q : EqT} {x y : AV} {r : Bool} (h : aeq q x y H = some r) : aeq q x y H' = some r := by
  cases q <;> first
    | exact h
    | skip
  rcases onPN_some (show onPN _ _ x = some r from h) with ⟨rfl, h5⟩ | ⟨b, off, rfl, h5⟩ <;> rcases onPN_some h5 with ⟨rfl, h6⟩ | ⟨b', off', rfl, h6⟩
  · exact h
  · exact h
  · exact h
  · show iff (Nat.beq b b') (some (Nat.beq off off')) (orN (iff (isCells H' b off) (isCells H' b' off') false) (some false)) = some r
    cases hb : Nat.beq b b' with
    | true => rw [hb] at h6; exact h6
    | false =>
      rw [hb] at h6
      obtain ⟨h7, h8⟩ := orN_some (show orN (iff (isCells H b off) (isCells H b' off') false) (some false) = some r from h6)
      cases hc : isCells H b off with
      | false => rw [hc] at h7; cases h7
      | true =>
        rw [hc] at h7
        rw [isCells_mono hl hc, iff_true, isCells_mono hl (show isCells H b' off' = true from h7)]
        exact h8

theorem findE_mono (hl : HLe H H') {q : EqT} {k : AV} : ∀ {es : List (AV × AV × Nat)} {n : Nat} {r : Option (Nat × AV)}, findE q k H es n = some r → findE q k H' es n = some r
  | [], _, _, h => h
  | (k', v, st) :: es, n, r, h => by
    obtain ⟨b, h5, h6⟩ := bd_some (show bd (aeq q k k' H) _ = some r by simpa only [findE] using h)
    simp only [findE, aeq_mono hl h5, bd_some']
    cases b with
    | true => exact h6
    | false => exact findE_mono hl (show findE q k H es (n + 1) = some r from h6)

theorem ents_mono (hl : HLe H H') {v : AV} {es : List (AV × AV × Nat)} (h : ents H v = some es) : ents H' v = some es := by
  rcases onMp_some h with ⟨rfl, h1⟩ | ⟨b, rfl, h1⟩
  · exact h
  · obtain ⟨ob, h2, h3⟩ := bd_some h1
    show bd (H'.get b) _ = some es
    rw [hl b ob h2]; exact h3

theorem pure_mono (hl : HLe H H') {op : AOp} {v : AV} (h : pureOp op F T H = some v) : pureOp op F T H' = some v := by
  cases op <;> first
    | exact h
    | skip
  case ld x =>
    obtain ⟨u, h1, h2⟩ := bd_some (show bd (x.ev T) (ldV F H) = some v from h)
    show bd (x.ev T) (ldV F H') = some v
    rw [h1, bd_some']
    rcases onPX_some h2 with ⟨b, off, rfl, h3⟩ | ⟨k, rfl, h3⟩
    case inr => exact h3
    obtain ⟨l, h4, h5⟩ := bd_some h3
    show bd (row H' b) _ = some v
    rw [row_mono hl h4]; exact h5
  case ldn x n =>
    obtain ⟨u, h1, h2⟩ := bd_some (show bd (x.ev T) (ldnV F n H) = some v from h)
    show bd (x.ev T) (ldnV F n H') = some v
    rw [h1, bd_some']
    rcases onPX_some h2 with ⟨b, off, rfl, h3⟩ | ⟨k, rfl, h3⟩
    case inr => exact h3
    obtain ⟨l, h4, h5⟩ := bd_some h3
    show bd (row H' b) _ = some v
    rw [row_mono hl h4]; exact h5
  case eq neg q x y =>
    obtain ⟨u, h1, h2⟩ := bd_some (show bd (x.ev T) _ = some v from h)
    obtain ⟨u', h3, h4⟩ := bd_some h2
    obtain ⟨r, h5, h6⟩ := bd_some h4
    show bd (x.ev T) (fun a => bd (y.ev T) fun b => bd (aeq q a b H') _) = some v
    rw [h1, bd_some', h3, bd_some', aeq_mono hl h5]; exact h6
  case cbs x =>
    obtain ⟨u, h1, h2⟩ := bd_some (show bd (x.ev T) (cbsV H) = some v from h)
    show bd (x.ev T) (cbsV H') = some v
    rw [h1, bd_some']
    rcases onSl_some h2 with ⟨rfl, h3⟩ | ⟨b, off, len, cap, ex, rfl, h3⟩
    · exact h3
    · obtain ⟨l, h4, h5⟩ := bd_some (show bd (row H b) _ = some v from h3)
      show bd (row H' b) _ = some v
      rw [row_mono hl h4]; exact h5
  case lk q z x y ok =>
    obtain ⟨u, h1, h2⟩ := bd_some (show bd (x.ev T) _ = some v from h)
    obtain ⟨u', h3, h4⟩ := bd_some h2
    obtain ⟨h5, h6⟩ := orN_some h4
    obtain ⟨es, h7, h8⟩ := bd_some h6
    obtain ⟨r, h9, h10⟩ := bd_some h8
    show bd (x.ev T) (fun a => bd (y.ev T) fun k => orN (kfit q k) (bd (ents H' a) fun es => bd (findE q k H' es 0) (lkR z ok))) = some v
    rw [h1, bd_some', h3, bd_some', h5, orN_true, ents_mono hl h7, bd_some', findE_mono hl h9]; exact h10
  case en x =>
    obtain ⟨u, h1, h2⟩ := bd_some (show bd (x.ev T) (enV H) = some v from h)
    show bd (x.ev T) (enV H') = some v
    rw [h1, bd_some']
    obtain ⟨b, mb, since, seen, last, st, es, clock, e, rfl, h3, h4, h5, rfl, h6, rfl⟩ := enV_some h2
    simp only [enV, hl b _ h3, h4, bd_some', enM, hl mb _ h5, h6]
    rw [show Nat.beq clock clock = true from by simp]; rfl
  case lnm x =>
    obtain ⟨u, h1, h2⟩ := bd_some (show bd (x.ev T) _ = some v from h)
    obtain ⟨es, h3, h4⟩ := bd_some h2
    show bd (x.ev T) (fun a => bd (ents H' a) fun es => some (AV.i .i64 (.ofNat es.length))) = some v
    rw [h1, bd_some', ents_mono hl h3]; exact h4

/-- what a new block holds, and what leads there -/
noncomputable def born : AOp → Tr AV → Option ((Nat → AV) × AO)
  | .al z, _ => some (fun b => .p b 0, .cells z 0 0)
  | .bx x, T => bd (x.ev T) fun v => bd v.cells fun c => some (fun b => .p b 0, .cells c 0 0)
  | .bs len z ps, T => bd (fills T ps z) fun l => some (fun b => .sl b 0 len len true, .cells l 0 0)
  | .mkm, _ => some (fun b => .mp b, .map [] 0)
  | _, _ => none

theorem eff_born {op : AOp} {v : AV} (h2 : cls op = 2) (h : effOp op T H = some (v, H')) : ∃ mk ob, born op T = some (mk, ob) ∧ v = mk H.n ∧ H' = H.new ob := by
  cases op <;> first
    | exact (no_ h).elim
    | exact Nat.noConfusion (Nat.succ.inj (Nat.succ.inj (show 3 = 2 from h2)))
    | skip
  case al z => cases h; exact ⟨_, _, rfl, rfl, rfl⟩
  case bx x =>
    obtain ⟨u, h1, h3⟩ := bd_some (show bd (x.ev T) _ = some (v, H') from h)
    obtain ⟨cl, h4, h5⟩ := bd_some h3
    cases h5
    exact ⟨fun b => .p b 0, .cells cl 0 0, by simp only [born, h1, bd_some', h4], rfl, rfl⟩
  case bs len z ps =>
    obtain ⟨l, h1, h3⟩ := bd_some (show bd (fills T ps z) _ = some (v, H') from h)
    cases h3
    exact ⟨fun b => .sl b 0 len len true, .cells l 0 0, by simp only [born, h1, bd_some'], rfl, rfl⟩
  case mkm => cases h; exact ⟨_, _, rfl, rfl, rfl⟩

theorem born_eff {op : AOp} {mk : Nat → AV} {ob : AO} (h : born op T = some (mk, ob)) (H : AH) : effOp op T H = some (mk H.n, H.new ob) := by
  cases op <;> first
    | (cases h; done)
    | skip
  case al z => cases h; rfl
  case bx x =>
    obtain ⟨u, h1, h3⟩ := bd_some (show bd (x.ev T) _ = some (mk, ob) from h)
    obtain ⟨cl, h4, h5⟩ := bd_some h3
    cases h5
    show bd (x.ev T) (fun v => bd v.cells fun c => some (AV.p H.n 0, H.new (.cells c 0 0))) = _
    rw [h1, bd_some', h4]; rfl
  case bs len z ps =>
    obtain ⟨l, h1, h3⟩ := bd_some (show bd (fills T ps z) _ = some (mk, ob) from h)
    cases h3
    show bd (fills T ps z) _ = _
    rw [h1]; rfl
  case mkm => cases h; rfl
end
end Go.Ev

namespace Go.Ev
open Go
section
variable {P : Program} {ifts : List TypeId} {F : Facts} {ρ : Nat → Value} {m : Emb} {T : Tr AV} {H : AH} {a : Act} {w : World} {o : Oper}

theorem cop_birth {op : AOp} {mk : Nat → AV} {ob : AO} (h : cop P ifts o = some op) (hb : born op T = some (mk, ob)) :
    (∃ e z, op = .al z ∧ o.op = .alloc e ∧ tzc P e = some z) ∨ (∃ e x ax, op = .bx ax ∧ o.op = .box e x ∧ copd x = some ax) ∨
    (∃ t len ps e z n r, op = .bs len (zeros z len) r ∧ o.op = .buildSlice t len ps ∧ P.underlying t = some (.slice e) ∧ tzc P e = some z ∧ tsize P e = some n ∧ cparts (fun i => some (i * n, n)) ps.toList = some r ∧
      (0 < n ∧ z.length = n ∧ len * n ≤ 10000)) ∨
    (∃ t r, op = .mkm ∧ o.op = .makeMap t r ∧ (r = none ∨ (∃ k n, r = some (.const (.int k n))) ∧ ∃ k e, P.underlying t = some (.map k e))) := by
  unfold cop at h
  split at h
  case h_1 => obtain ⟨ax, h1, h2⟩ := bd_some h; cases h2; exact (no_ hb).elim
  case h_2 => obtain ⟨ax, h1, h2⟩ := bd_some h; cases h2; exact (no_ hb).elim
  case h_3 =>
    obtain ⟨ax, h1, h2⟩ := bd_some h
    obtain ⟨ay, h3, h4⟩ := bd_some h2
    obtain ⟨az, h5, h6⟩ := bd_some h4
    cases h6; exact (no_ hb).elim
  case h_4 e heq =>
    obtain ⟨z, h1, h2⟩ := bd_some h
    cases h2; exact .inl ⟨e, z, rfl, heq, h1⟩
  case h_5 e x heq =>
    obtain ⟨ax, h1, h2⟩ := bd_some h
    cases h2; exact .inr (.inl ⟨e, x, ax, rfl, heq, h1⟩)
  case h_6 =>
    obtain ⟨d, h1, h2⟩ := bd_some h
    split at h2
    · obtain ⟨z, h3, h4⟩ := bd_some h2
      obtain ⟨pl, h5, h6⟩ := bd_some h4
      obtain ⟨r, h7, h8⟩ := bd_some h6
      cases h8; exact (no_ hb).elim
    · obtain ⟨z, h3, h4⟩ := bd_some h2
      obtain ⟨n, h5, h6⟩ := bd_some h4
      obtain ⟨r, h7, h8⟩ := bd_some h6
      cases h8; exact (no_ hb).elim
    · cases h2
  case h_7 t len ps heq =>
    obtain ⟨d, h1, h2⟩ := bd_some h
    split at h2
    · obtain ⟨z, h3, h4⟩ := bd_some h2
      obtain ⟨n, h5, h6⟩ := bd_some h4
      obtain ⟨r, h7, h8⟩ := bd_some h6
      split at h8
      · rename_i hc
        cases h8; exact .inr (.inr (.inl ⟨t, len, ps, _, z, n, r, rfl, heq, h1, h3, h5, h7, hc⟩))
      · cases h8
    · cases h2
  case h_8 =>
    obtain ⟨ax, h1, h2⟩ := bd_some h
    obtain ⟨g, h3, h4⟩ := bd_some h2
    obtain ⟨n, h5, h6⟩ := bd_some h4
    cases g <;> cases h6 <;> exact (no_ hb).elim
  case h_9 t x y heq =>
    obtain ⟨ax, h1, h2⟩ := bd_some h
    obtain ⟨ay, h3, h4⟩ := bd_some h2
    obtain ⟨n, h5, h6⟩ := bd_some h4
    cases h6; exact (no_ hb).elim
  case h_10 => obtain ⟨ax, h1, h2⟩ := bd_some h; cases h2; exact (no_ hb).elim
  case h_11 =>
    obtain ⟨ax, h1, h2⟩ := bd_some h
    obtain ⟨ay, h3, h4⟩ := bd_some h2
    obtain ⟨u, h5, h6⟩ := bd_some h4
    split at h6
    · cases h6; exact (no_ hb).elim
    · cases h6; exact (no_ hb).elim
    · obtain ⟨q, h7, h8⟩ := bd_some h6
      cases h8; exact (no_ hb).elim
    · obtain ⟨q, h7, h8⟩ := bd_some h6
      cases h8; exact (no_ hb).elim
    · cases h6
  case h_12 => obtain ⟨ax, h1, h2⟩ := bd_some h; cases h2; exact (no_ hb).elim
  case h_13 s d x heq =>
    obtain ⟨ax, h1, h2⟩ := bd_some h
    obtain ⟨us, h3, h4⟩ := bd_some h2
    obtain ⟨ud, h5, h6⟩ := bd_some h4
    split at h6
    · cases h6; exact (no_ hb).elim
    · cases h6; exact (no_ hb).elim
    · obtain ⟨ue, h7, h8⟩ := bd_some h6
      split at h8
      · cases h8; exact (no_ hb).elim
      · cases h8
    · obtain ⟨ue, h7, h8⟩ := bd_some h6
      split at h8
      · cases h8; exact (no_ hb).elim
      · cases h8
    · cases h6
  case h_14 =>
    obtain ⟨ax, h1, h2⟩ := bd_some h
    obtain ⟨d, h3, h4⟩ := bd_some h2
    split at h4
    · cases h4
    · cases h4; exact (no_ hb).elim
  case h_15 =>
    obtain ⟨af, h1, h2⟩ := bd_some h
    obtain ⟨ak, h3, h4⟩ := bd_some h2
    cases h4; exact (no_ hb).elim
  case h_16 t heq => cases h; exact .inr (.inr (.inr ⟨t, none, rfl, heq, .inl rfl⟩))
  case h_17 t kk n heq =>
    obtain ⟨d, h1, h2⟩ := bd_some h
    split at h2
    · cases h2; exact .inr (.inr (.inr ⟨t, _, rfl, heq, .inr ⟨⟨_, _, rfl⟩, _, _, h1⟩⟩))
    · cases h2
  case h_18 t x y heq =>
    obtain ⟨ax, h1, h2⟩ := bd_some h
    obtain ⟨ay, h3, h4⟩ := bd_some h2
    obtain ⟨u, h5, h6⟩ := bd_some h4
    split at h6
    · obtain ⟨z, h7, h8⟩ := bd_some h6
      obtain ⟨n, h9, h10⟩ := bd_some h8
      obtain ⟨b, h11, h12⟩ := bd_some h10
      split at h12
      · rename_i hc
        cases h12; exact (no_ hb).elim
      · cases h12
    · cases h6
  case h_19 t x lo hi mx heq =>
    obtain ⟨ax, h1, h2⟩ := bd_some h
    obtain ⟨alo, h3, h4⟩ := bd_some h2
    obtain ⟨ahi, h5, h6⟩ := bd_some h4
    obtain ⟨amx, h7, h8⟩ := bd_some h6
    obtain ⟨_, h9, h10⟩ := bd_some h8
    obtain ⟨u, h11, h12⟩ := bd_some h10
    split at h12
    · obtain ⟨k, h13, h14⟩ := bd_some h12
      cases h14; exact (no_ hb).elim
    · obtain ⟨k, h13, h14⟩ := bd_some h12
      cases h14; exact (no_ hb).elim
    · split at h12
      · cases h12; exact (no_ hb).elim
      · cases h12
    · obtain ⟨r, h13, h14⟩ := bd_some h12
      split at h14
      · obtain ⟨k, h15, h16⟩ := bd_some h14
        cases h16; exact (no_ hb).elim
      · cases h14
    · cases h12
  case h_20 =>
    obtain ⟨ax, h1, h2⟩ := bd_some h
    obtain ⟨u, h3, h4⟩ := bd_some h2
    split at h4
    · obtain ⟨fd, h5, h6⟩ := bd_some h4
      obtain ⟨n, h7, h8⟩ := bd_some h6
      cases n with
      | zero => cases h8
      | succ n => cases h8; exact (no_ hb).elim
    · cases h4
  case h_21 =>
    obtain ⟨ax, h1, h2⟩ := bd_some h
    obtain ⟨u, h3, h4⟩ := bd_some h2
    split at h4
    · obtain ⟨fd, h5, h6⟩ := bd_some h4
      obtain ⟨n, h7, h8⟩ := bd_some h6
      obtain ⟨g, h9, h10⟩ := bd_some h8
      cases h10; exact (no_ hb).elim
    · cases h4
  case h_22 =>
    obtain ⟨ax, h1, h2⟩ := bd_some h
    obtain ⟨ai, h3, h4⟩ := bd_some h2
    obtain ⟨u, h5, h6⟩ := bd_some h4
    split at h6
    · obtain ⟨k, h7, h8⟩ := bd_some h6
      cases h8; exact (no_ hb).elim
    · obtain ⟨k, h7, h8⟩ := bd_some h6
      cases h8; exact (no_ hb).elim
    · cases h6
  case h_23 =>
    obtain ⟨ax, h1, h2⟩ := bd_some h
    obtain ⟨ai, h3, h4⟩ := bd_some h2
    obtain ⟨u, h5, h6⟩ := bd_some h4
    split at h6
    · obtain ⟨k, h7, h8⟩ := bd_some h6
      obtain ⟨g, h9, h10⟩ := bd_some h8
      cases h10; exact (no_ hb).elim
    · cases h6; exact (no_ hb).elim
    · cases h6
  case h_24 =>
    obtain ⟨ax, h1, h2⟩ := bd_some h
    obtain ⟨ai, h3, h4⟩ := bd_some h2
    obtain ⟨u, h5, h6⟩ := bd_some h4
    split at h6
    · obtain ⟨q, h7, h8⟩ := bd_some h6
      obtain ⟨z, h9, h10⟩ := bd_some h8
      cases h10; exact (no_ hb).elim
    · cases h6
  case h_25 t x y z heq =>
    obtain ⟨am, h1, h2⟩ := bd_some h
    obtain ⟨ak, h3, h4⟩ := bd_some h2
    obtain ⟨av, h5, h6⟩ := bd_some h4
    obtain ⟨u, h7, h8⟩ := bd_some h6
    split at h8
    · obtain ⟨q, h9, h10⟩ := bd_some h8
      cases h10; exact (no_ hb).elim
    · cases h8
  case h_26 t x y z heq =>
    obtain ⟨am, h1, h2⟩ := bd_some h
    obtain ⟨ak, h3, h4⟩ := bd_some h2
    obtain ⟨av, h5, h6⟩ := bd_some h4
    obtain ⟨u, h7, h8⟩ := bd_some h6
    split at h8
    · obtain ⟨q, h9, h10⟩ := bd_some h8
      cases h10; exact (no_ hb).elim
    · cases h8
  case h_27 t x y heq =>
    obtain ⟨am, h1, h2⟩ := bd_some h
    obtain ⟨ak, h3, h4⟩ := bd_some h2
    obtain ⟨u, h7, h8⟩ := bd_some h4
    split at h8
    · obtain ⟨q, h9, h10⟩ := bd_some h8
      obtain ⟨z, h11, h12⟩ := bd_some h10
      cases h12; exact (no_ hb).elim
    · cases h8
  case h_28 t x y z heq =>
    obtain ⟨am, h1, h2⟩ := bd_some h
    obtain ⟨ak, h3, h4⟩ := bd_some h2
    obtain ⟨av, h5, h6⟩ := bd_some h4
    cases h6; exact (no_ hb).elim
  case h_29 t x heq =>
    obtain ⟨ax, h1, h2⟩ := bd_some h
    obtain ⟨u, h3, h4⟩ := bd_some h2
    split at h4
    · cases h4; exact (no_ hb).elim
    · cases h4; exact (no_ hb).elim
    · cases h4
  case h_30 x s heq =>
    obtain ⟨ax, h1, h2⟩ := bd_some h
    cases s with
    | true => cases h2; exact (no_ hb).elim
    | false => cases h2; exact (no_ hb).elim
  case h_31 => obtain ⟨ax, h1, h2⟩ := bd_some h; cases h2; exact (no_ hb).elim
  case h_32 => obtain ⟨ax, h1, h2⟩ := bd_some h; cases h2; exact (no_ hb).elim
  case h_33 k heq =>
    obtain ⟨args, h1, h2⟩ := bd_some h
    split at h2
    · cases h2; exact (no_ hb).elim
    · obtain ⟨f, h3, h4⟩ := bd_some h2
      cases h4; exact (no_ hb).elim
    · obtain ⟨r, h3, h4⟩ := bd_some h2
      obtain ⟨ms, h5, h6⟩ := bd_some h4
      cases h6; exact (no_ hb).elim
    · rename_i b hb
      unfold cop.cbuiltin at h2
      split at h2
      · obtain ⟨t, h3, h4⟩ := bd_some h2
        obtain ⟨u, h5, h6⟩ := bd_some h4
        split at h6
        · cases h6; exact (no_ hb).elim
        · cases h6; exact (no_ hb).elim
        · cases h6; exact (no_ hb).elim
        · obtain ⟨r, h7, h8⟩ := bd_some h6
          split at h8
          · cases h8; exact (no_ hb).elim
          · cases h8
        · cases h6; exact (no_ hb).elim
        · cases h6
      · obtain ⟨t, h3, h4⟩ := bd_some h2
        obtain ⟨u, h5, h6⟩ := bd_some h4
        split at h6
        · cases h6; exact (no_ hb).elim
        · cases h6
      · cases h2; exact (no_ hb).elim
      · cases h2; exact (no_ hb).elim
      · obtain ⟨t, h3, h4⟩ := bd_some h2
        obtain ⟨u, h5, h6⟩ := bd_some h4
        split at h6
        · obtain ⟨z, h7, h8⟩ := bd_some h6
          obtain ⟨n, h9, h10⟩ := bd_some h8
          obtain ⟨by', h11, h12⟩ := bd_some h10
          split at h12
          · rename_i hc
            obtain ⟨tt, h15, h16⟩ := bd_some h12
            obtain ⟨uu, h13, h14⟩ := bd_some h16
            split at h14
            · cases h14; exact (no_ hb).elim
            · cases h14; exact (no_ hb).elim
            · cases h14; exact (no_ hb).elim
            · cases h14
          · cases h12
        · cases h6
      · obtain ⟨t, h3, h4⟩ := bd_some h2
        obtain ⟨u, h5, h6⟩ := bd_some h4
        split at h6
        · obtain ⟨n, h9, h10⟩ := bd_some h6
          cases h10; exact (no_ hb).elim
        · cases h6
      · obtain ⟨t, h3, h4⟩ := bd_some h2
        obtain ⟨u, h5, h6⟩ := bd_some h4
        split at h6
        · obtain ⟨z, h7, h8⟩ := bd_some h6
          obtain ⟨n, h9, h10⟩ := bd_some h8
          split at h10
          · rename_i hc
            cases h10; exact (no_ hb).elim
          · cases h10
        · cases h6; exact (no_ hb).elim
        · cases h6
      · obtain ⟨t, h3, h4⟩ := bd_some h2
        obtain ⟨u, h5, h6⟩ := bd_some h4
        split at h6
        · obtain ⟨q, h9, h10⟩ := bd_some h6
          cases h10; exact (no_ hb).elim
        · cases h6
      · cases h2
  case h_34 => cases h

theorem row_or {hp : Array Obj} {l : List AV} {C : Array Value} {el : TypeId} (hl : VRs ρ m l C.toList) (hs : allSingle l = true) {m'' : Emb} (hle : m.le m'') :
    OR P ifts ρ m'' (.cells l 0 0) ⟨hp.size, 0, 0⟩ (hp.push (.cells C el (0, 0))) := by
  refine ⟨C, el, (0, 0), by simp, by simp [hl.size], fun i a hi => ?_, by simp, by simp⟩
  obtain ⟨h1, v, h2, h3⟩ := hl.cells hs i a hi
  exact ⟨h1, v, by simpa using h2, h3.mono hle⟩

/-- what a new block's operation does, whenever it comes -/
theorem birth_ok (c : Ctx P ifts F ρ m T H a.tmps w.heap) {op : AOp} {mk : Nat → AV} {ob : AO} (hc : cop P ifts o = some op) (hb : born op T = some (mk, ob)) :
    ∃ obj v', (execOp a.eval o).run P w = .ok (.value v') { w with heap := w.heap.push obj } ∧
      ∀ m'' b, m.le m'' → m'' b = some ⟨w.heap.size, 0, 0⟩ → VR ρ m'' (mk b) v' ∧ OR P ifts ρ m'' ob ⟨w.heap.size, 0, 0⟩ (w.heap.push obj) := by
  rcases cop_birth hc hb with ⟨e, z, rfl, hop, hz⟩ | ⟨e, y, x, rfl, hop, hy⟩ | ⟨t, len, ps', e, z0, n, ps, rfl, hop, ht, hz, hn, hp, hc1, hc2, hc3⟩ | ⟨t, r, rfl, hop, hr⟩
  · cases hb
    obtain ⟨i, v, h1, h2, h3, h4⟩ := tzc_some c.one hz
    refine ⟨.cells v.cells e, .pointer (some ⟨w.heap.size, 0, none⟩), by simp [execOp, hop, Instr.alloc, zeroValue, r_inf h1, h2, newVar, newRow], fun m'' b hle hm => ⟨by simp only [VR]; exact ⟨_, hm, rfl⟩, row_or (h3 m) h4 hle⟩⟩
  · obtain ⟨u, h1, h3⟩ := bd_some (show bd (x.ev T) _ = some (mk, ob) from hb)
    obtain ⟨cl, h4, h5⟩ := bd_some h3
    cases h5
    obtain ⟨h6, h7⟩ := cells_ok c.one h4 (opd_ok c.t hy h1)
    refine ⟨.cells (a.eval y).cells e, .pointer (some ⟨w.heap.size, 0, none⟩), by simp [execOp, hop, Instr.box, newVar, newRow], fun m'' b hle hm => ⟨by simp only [VR]; exact ⟨_, hm, rfl⟩, row_or h6 h7 hle⟩⟩
  · obtain ⟨l, h1, h3⟩ := bd_some (show bd (fills T ps (zeros z0 len)) _ = some (mk, ob) from hb)
    cases h3
    obtain ⟨i, v, k1, k2, k3, k4⟩ := tzc_some c.one hz
    have hzs : VRs ρ m (zeros z0 len) ((Array.range (len * n)).map (fun i => v.cells[i % v.cells.size]!)).toList := zeros_ok (k3 m) (by omega) len _ (by rw [hc2])
    obtain ⟨vs, g1, g2, g3⟩ := fills_ok c hp h1 hzs (allSingle_zeros k4 len)
    have hsz : (zeroValue e).run P w = .ok v w := by simp [zeroValue, r_inf k1, k2]
    have hg1 : Instr.fill (fun i => some (i * n, n)) ((Array.range (len * n)).map (fun i => v.cells[i % v.cells.size]!)) (ps'.map fun (i, x) => (i, a.eval x)).toList = some vs := by simpa using g1
    have hrun : (Instr.buildSlice t len (ps'.map fun (i, x) => (i, a.eval x))).run P w = .ok (.slice (some ⟨w.heap.size, 0, none⟩) len len) { w with heap := w.heap.push (.cells vs e) } := by
      simp only [Instr.buildSlice, Sem.run_bind, r_und ht, Result.andThen_ok, r_size hn]
      rw [if_neg (by omega)]
      by_cases h0 : len * n = 0
      · have hr0 : (Array.range (len * n)).map (fun i => v.cells[i % v.cells.size]!) = (Array.range (len * n)).map (fun i => (#[] : Array Value)[i % (#[] : Array Value).size]!) := by rw [h0]; simp
        rw [hr0] at hg1
        simp only [h0, if_true, Sem.run_bind, Sem.run_pure, Result.andThen_ok]
        rw [h0] at hg1
        simp only [hg1, Sem.run_bind, newRow, run_newObj, Result.andThen_ok, Sem.run_pure]
      · simp only [h0, if_false, Sem.run_bind, hsz, Sem.run_pure, Result.andThen_ok]
        simp only [hg1, Sem.run_bind, newRow, run_newObj, Result.andThen_ok, Sem.run_pure]
    refine ⟨.cells vs e, .slice (some ⟨w.heap.size, 0, none⟩) len len, ?_, fun m'' b hle hm => ⟨?_, row_or g2 g3 hle⟩⟩
    · have : execOp a.eval o = (do pure (.value (← Instr.buildSlice t len (ps'.map fun (i, x) => (i, a.eval x))))) := by simp [execOp, hop]
      rw [this]; simp only [Sem.run_bind, hrun, Result.andThen_ok, Sem.run_pure]
    · simp only [VR]; exact ⟨_, _, _, hm, rfl, Nat.le_refl _, by simp, .inr rfl⟩
  · cases hb
    refine ⟨.map #[] 0, .map (some w.heap.size), ?_, fun m'' b hle hm => ⟨by simp only [VR]; exact ⟨_, hm, rfl⟩, ⟨rfl, #[], by simp, by simp [ER]⟩⟩⟩
    rcases hr with rfl | ⟨⟨k, n, rfl⟩, k', e', ht⟩
    · simp [execOp, hop, Instr.makeMap]
    · simp [execOp, hop, Instr.makeMap, r_und ht, Act.eval, asInt, asIntOf]

/-- a block that was made ahead of its time is born -/
theorem St.birth {hp : Array Obj} (w : WR P ifts ρ m H hp) {b : Nat} {ob : AO} {obj : Obj} (hb : H.get b = some ob) (hm : m b = none)
    (ho : OR P ifts ρ (m.add b ⟨hp.size, 0, 0⟩) ob ⟨hp.size, 0, 0⟩ (hp.push obj)) : WR P ifts ρ (m.add b ⟨hp.size, 0, 0⟩) H (hp.push obj) ∧
      (∀ B, B < hp.size → (hp.push obj)[B]? = hp[B]?) := by
  have hle : m.le (m.add b ⟨hp.size, 0, 0⟩) := Emb.le_add hm
  have hbn : b < H.n := w.lt b _ hb
  have old : ∀ k o' e, H.get k = some o' → m k = some e → e.b < hp.size := fun k o' e h1 h2 => (w.ob k o' e h1 h2).lt
  have push : ∀ B, B < hp.size → (hp.push obj)[B]? = hp[B]? := fun B hB => by rw [Array.getElem?_push, if_neg (by omega)]
  refine ⟨⟨fun k hk => by rw [Emb.add_ne _ _ (by omega)]; exact w.nx k hk, w.lt, fun k o' e h1 h2 => ?_, fun k k' o1 o2 e1 e2 h1 h2 h3 h4 he => ?_⟩, push⟩
  · by_cases hk : k = b
    · subst hk
      rw [Emb.add_same] at h2; cases h2
      rw [hb] at h1; cases h1
      exact ho
    · rw [Emb.add_ne _ _ hk] at h2
      exact OR.congr (push _ (old k o' e h1 h2)) ((w.ob k o' e h1 h2).mono hle)
  · by_cases hk : k = b
    · by_cases hk' : k' = b
      · rw [hk, hk']
      · subst hk
        rw [Emb.add_same] at h3; cases h3
        rw [Emb.add_ne _ _ hk'] at h4
        have := old k' o2 e2 h2 h4
        simp at he; omega
    · rw [Emb.add_ne _ _ hk] at h3
      by_cases hk' : k' = b
      · subst hk'
        rw [Emb.add_same] at h4; cases h4
        have := old k o1 e1 h1 h3
        simp at he; omega
      · rw [Emb.add_ne _ _ hk'] at h4
        exact w.dj k k' o1 o2 e1 e2 h1 h2 h3 h4 he

/-- a block is made ahead of its time -/
theorem WR.unborn {hp : Array Obj} (w : WR P ifts ρ m H hp) (ob : AO) : WR P ifts ρ m (H.new ob) hp := by
  have live : ∀ k o' e, (H.new ob).get k = some o' → m k = some e → H.get k = some o' := fun k o' e h1 h2 => by
    rw [AH.get_new] at h1
    split at h1
    · rename_i hk; rw [hk, w.nx _ (Nat.le_refl _)] at h2; cases h2
    · exact h1
  refine ⟨fun k hk => w.nx k (by simp at hk; omega), fun k o' h => ?_, fun k o' e h1 h2 => w.ob k o' e (live k o' e h1 h2) h2,
    fun k k' o1 o2 e1 e2 h1 h2 h3 h4 he => w.dj k k' o1 o2 e1 e2 (live _ _ _ h1 h3) (live _ _ _ h2 h4) h3 h4 he⟩
  rw [AH.get_new] at h
  simp
  split at h
  · omega
  · have := w.lt k o' h; omega
end
end Go.Ev

namespace Go.Ev
open Go

/-- every function is let in; a round's frame, or none -/
def FF (ro : Option Nat) : Fence := { fn := fun _ => True, depth := none, alive := false, round := ro }

section
variable {P : Program} {ifts : List TypeId} {F : Facts} {ρ : Nat → Value} {m : Emb} {T : Tr AV} {H H' : AH} {a : Act} {w : World} {o : Oper} {N : Nat} {ops' : Array Oper}

theorem coper_some {ao : AOper} (h : coper P ifts N ops' o = some ao) : ao.d = o.dst ∧ (∀ d, o.dst = some d → d < N) ∧ cguard ops' o.guard = some ao.g ∧ ao.op = (cop P ifts o).getD .bad := by
  unfold coper at h
  split at h
  · cases h
  · rename_i hd
    obtain ⟨g, h1, h2⟩ := bd_some h
    cases h2
    refine ⟨rfl, fun d hd' => ?_, h1, rfl⟩
    rw [hd'] at hd
    exact Nat.le_of_ble_eq_true hd

theorem beqB_eq (x y : Bool) : beqB x y = (x == y) := by cases x <;> cases y <;> rfl

/-- is it wanted? -/
theorem wants_ok (hT : TR ρ m T a.tmps) {ao : AOper} (h : coper P ifts N ops' o = some ao) {b : Bool} (hw : wants ao.g T = some b) : Region.wanted o (yielded ops' a.tmps) = b := by
  obtain ⟨_, _, h1, _⟩ := coper_some h
  unfold cguard at h1
  split at h1
  · rename_i hg
    cases hag : ao.g with
    | none =>
      rw [hag] at hw
      cases (show some true = some b from hw)
      simp [Region.wanted, hg]
    | some p => rw [hag] at h1; cases h1
  · rename_i j wt hg
    obtain ⟨o', h2, h3⟩ := bd_some h1
    obtain ⟨d, h4, h5⟩ := bd_some h3
    have hag : ao.g = some (d, wt) := (Option.some.inj h5).symm
    rw [hag] at hw
    obtain ⟨v, h6, h7⟩ := bd_some (show bd (T.get d) (wantB wt) = some b from hw)
    obtain ⟨v', h8, h9⟩ := hT d v h6
    have hy : (((ops'[j]?).bind (·.dst)).bind (a.tmps[·]?)) = some v' := by rw [h2]; simp [h4, h8]
    simp only [Region.wanted, hg, yielded, hy]
    rcases onBU_some h7 with ⟨x, rfl, h10⟩ | ⟨l, rfl, h10⟩
    · cases h10
      simp only [VR] at h9; subst h9
      rw [beqB_eq]; cases x <;> cases wt <;> rfl
    · cases l with
      | nil =>
        cases h10
        simp only [VR] at h9
        obtain ⟨vs, rfl, _⟩ := h9
        rfl
      | cons _ _ => cases h10

/-- a call that has been reckoned -/
def CallG (P : Program) (ifts : List TypeId) (F : Facts) (ρ : Nat → Value) (g : Nat) (args : List AV) (H : AH) (v : AV) (H' : AH) : Prop :=
  ∀ m (w : World) (vs : Array Value), WR P ifts ρ m H w.heap → Fz F ρ m H w.heap → VRs ρ m args vs.toList →
    CallsIn Fence.wide 0 P g vs w fun e w' => ∃ m' v', e = .returned v' ∧ VR ρ m' v v' ∧ St P ifts ρ m H w.heap m' H' w'.heap ∧ WE w w'

/-- a round that has been reckoned -/
def RoundG (P : Program) (ifts : List TypeId) (F : Facts) (ρ : Nat → Value) (l : Nat) (args : List AV) (H : AH) (v : AV) (H' : AH) : Prop :=
  ∀ m (w : World) (e : MB) (vs : Array Value), WR P ifts ρ m H w.heap → Fz F ρ m H w.heap → m l = some e → VRs ρ m args vs.toList →
    ∃ f tmps ca cb, (Instr.yield e.b vs).run P w = .ok (.round e.b f tmps ca cb) w ∧
      RoundIn Fence.wide 0 P e.b f tmps ca cb w fun e w' => ∃ m' v', e = .returned v' ∧ VR ρ m' v v' ∧ St P ifts ρ m H w.heap m' H' w'.heap ∧ WE w w'

structure RecOk (P : Program) (ifts : List TypeId) (F : Facts) (ρ : Nat → Value) (R : Rec) (FT : Fns) : Prop where
  call : ∀ g args H v H', callA R FT g args H = some (v, H') → CallG P ifts F ρ g args H v H'
  round : ∀ l args H v H', roundA R l args H = some (v, H') → RoundG P ifts F ρ l args H v H'
  fns : ∀ g fn, FT g = some fn → ∃ fn0, cfun P ifts g = some fn0

theorem cfun_some {g : Nat} {fn : AFn} (h : cfun P ifts g = some fn) : ∃ f c b r, P.funcs[g]? = some f ∧ f.body = some c ∧ f.name ≠ "runtime.NumGoroutine" ∧ ccode P ifts f.ntmps c = some b ∧ cres P f.results.toList = some r ∧
    fn = { np := f.params.size, nt := f.ntmps, res := r, body := b } := by
  obtain ⟨f, h1, h2⟩ := bd_some h
  obtain ⟨c, h3, h4⟩ := bd_some h2
  split at h4
  · cases h4
  · rename_i hn
    obtain ⟨b, h5, h6⟩ := bd_some h4
    obtain ⟨r, h7, h8⟩ := bd_some h6
    cases h8
    exact ⟨f, c, b, r, h1, h3, by simpa using hn, h5, h7, rfl⟩

theorem r_callFunc {g : Nat} {fn : AFn} (h : cfun P ifts g = some fn) (args : Array Value) : (callFunc g args).run P w = .ok (.enter g args) w := by
  obtain ⟨f, c, b, r, h1, h2, h3, _⟩ := cfun_some h
  simp [callFunc, h1, h2, h3]

theorem callA_fn {R : Rec} {FT : Fns} {g : Nat} {args : List AV} {H : AH} {r : AV × AH} (h : callA R FT g args H = some r) : ∃ fn, FT g = some fn := by
  obtain ⟨fn, h1, _⟩ := bd_some h
  exact ⟨fn, h1⟩

def isCall : AOp → Bool
  | .call _ _ | .cv _ _ | .inv _ _ _ => true
  | _ => false

theorem ff_ (h : false = true) : False := by cases h

theorem cop_call {op : AOp} (h : cop P ifts o = some op) (hb : isCall op = true) :
    (∃ k g args, op = .call g args ∧ o.op = .call k ∧ k.callee = .value (.func g) ∧ copds k.args.toList = some args) ∨
    (∃ k x f args, op = .cv f args ∧ o.op = .call k ∧ k.callee = .value x ∧ copds k.args.toList = some args ∧ copd x = some f) ∨
    (∃ k x name r ms args, op = .inv r ms args ∧ o.op = .call k ∧ k.callee = .invoke x name ∧ copds k.args.toList = some args ∧ copd x = some r ∧ cop.meths P name ifts = some ms) := by
  unfold cop at h
  split at h
  case h_1 => obtain ⟨ax, h1, h2⟩ := bd_some h; cases h2; exact (ff_ hb).elim
  case h_2 => obtain ⟨ax, h1, h2⟩ := bd_some h; cases h2; exact (ff_ hb).elim
  case h_3 =>
    obtain ⟨ax, h1, h2⟩ := bd_some h
    obtain ⟨ay, h3, h4⟩ := bd_some h2
    obtain ⟨az, h5, h6⟩ := bd_some h4
    cases h6; exact (ff_ hb).elim
  case h_4 e heq =>
    obtain ⟨z, h1, h2⟩ := bd_some h
    cases h2; exact (ff_ hb).elim
  case h_5 e x heq =>
    obtain ⟨ax, h1, h2⟩ := bd_some h
    cases h2; exact (ff_ hb).elim
  case h_6 =>
    obtain ⟨d, h1, h2⟩ := bd_some h
    split at h2
    · obtain ⟨z, h3, h4⟩ := bd_some h2
      obtain ⟨pl, h5, h6⟩ := bd_some h4
      obtain ⟨r, h7, h8⟩ := bd_some h6
      cases h8; exact (ff_ hb).elim
    · obtain ⟨z, h3, h4⟩ := bd_some h2
      obtain ⟨n, h5, h6⟩ := bd_some h4
      obtain ⟨r, h7, h8⟩ := bd_some h6
      cases h8; exact (ff_ hb).elim
    · cases h2
  case h_7 t len ps heq =>
    obtain ⟨d, h1, h2⟩ := bd_some h
    split at h2
    · obtain ⟨z, h3, h4⟩ := bd_some h2
      obtain ⟨n, h5, h6⟩ := bd_some h4
      obtain ⟨r, h7, h8⟩ := bd_some h6
      split at h8
      · cases h8; exact (ff_ hb).elim
      · cases h8
    · cases h2
  case h_8 =>
    obtain ⟨ax, h1, h2⟩ := bd_some h
    obtain ⟨g, h3, h4⟩ := bd_some h2
    obtain ⟨n, h5, h6⟩ := bd_some h4
    cases g <;> cases h6 <;> exact (ff_ hb).elim
  case h_9 t x y heq =>
    obtain ⟨ax, h1, h2⟩ := bd_some h
    obtain ⟨ay, h3, h4⟩ := bd_some h2
    obtain ⟨n, h5, h6⟩ := bd_some h4
    cases h6; exact (ff_ hb).elim
  case h_10 => obtain ⟨ax, h1, h2⟩ := bd_some h; cases h2; exact (ff_ hb).elim
  case h_11 =>
    obtain ⟨ax, h1, h2⟩ := bd_some h
    obtain ⟨ay, h3, h4⟩ := bd_some h2
    obtain ⟨u, h5, h6⟩ := bd_some h4
    split at h6
    · cases h6; exact (ff_ hb).elim
    · cases h6; exact (ff_ hb).elim
    · obtain ⟨q, h7, h8⟩ := bd_some h6
      cases h8; exact (ff_ hb).elim
    · obtain ⟨q, h7, h8⟩ := bd_some h6
      cases h8; exact (ff_ hb).elim
    · cases h6
  case h_12 => obtain ⟨ax, h1, h2⟩ := bd_some h; cases h2; exact (ff_ hb).elim
  case h_13 s d x heq =>
    obtain ⟨ax, h1, h2⟩ := bd_some h
    obtain ⟨us, h3, h4⟩ := bd_some h2
    obtain ⟨ud, h5, h6⟩ := bd_some h4
    split at h6
    · cases h6; exact (ff_ hb).elim
    · cases h6; exact (ff_ hb).elim
    · obtain ⟨ue, h7, h8⟩ := bd_some h6
      split at h8
      · cases h8; exact (ff_ hb).elim
      · cases h8
    · obtain ⟨ue, h7, h8⟩ := bd_some h6
      split at h8
      · cases h8; exact (ff_ hb).elim
      · cases h8
    · cases h6
  case h_14 =>
    obtain ⟨ax, h1, h2⟩ := bd_some h
    obtain ⟨d, h3, h4⟩ := bd_some h2
    split at h4
    · cases h4
    · cases h4; exact (ff_ hb).elim
  case h_15 =>
    obtain ⟨af, h1, h2⟩ := bd_some h
    obtain ⟨ak, h3, h4⟩ := bd_some h2
    cases h4; exact (ff_ hb).elim
  case h_16 t heq => cases h; exact (ff_ hb).elim
  case h_17 t kk n heq =>
    obtain ⟨d, h1, h2⟩ := bd_some h
    split at h2
    · cases h2; exact (ff_ hb).elim
    · cases h2
  case h_18 t x y heq =>
    obtain ⟨ax, h1, h2⟩ := bd_some h
    obtain ⟨ay, h3, h4⟩ := bd_some h2
    obtain ⟨u, h5, h6⟩ := bd_some h4
    split at h6
    · obtain ⟨z, h7, h8⟩ := bd_some h6
      obtain ⟨n, h9, h10⟩ := bd_some h8
      obtain ⟨b, h11, h12⟩ := bd_some h10
      split at h12
      · rename_i hc
        cases h12; exact (ff_ hb).elim
      · cases h12
    · cases h6
  case h_19 t x lo hi mx heq =>
    obtain ⟨ax, h1, h2⟩ := bd_some h
    obtain ⟨alo, h3, h4⟩ := bd_some h2
    obtain ⟨ahi, h5, h6⟩ := bd_some h4
    obtain ⟨amx, h7, h8⟩ := bd_some h6
    obtain ⟨_, h9, h10⟩ := bd_some h8
    obtain ⟨u, h11, h12⟩ := bd_some h10
    split at h12
    · obtain ⟨k, h13, h14⟩ := bd_some h12
      cases h14; exact (ff_ hb).elim
    · obtain ⟨k, h13, h14⟩ := bd_some h12
      cases h14; exact (ff_ hb).elim
    · split at h12
      · cases h12; exact (ff_ hb).elim
      · cases h12
    · obtain ⟨r, h13, h14⟩ := bd_some h12
      split at h14
      · obtain ⟨k, h15, h16⟩ := bd_some h14
        cases h16; exact (ff_ hb).elim
      · cases h14
    · cases h12
  case h_20 =>
    obtain ⟨ax, h1, h2⟩ := bd_some h
    obtain ⟨u, h3, h4⟩ := bd_some h2
    split at h4
    · obtain ⟨fd, h5, h6⟩ := bd_some h4
      obtain ⟨n, h7, h8⟩ := bd_some h6
      cases n with
      | zero => cases h8
      | succ n => cases h8; exact (ff_ hb).elim
    · cases h4
  case h_21 =>
    obtain ⟨ax, h1, h2⟩ := bd_some h
    obtain ⟨u, h3, h4⟩ := bd_some h2
    split at h4
    · obtain ⟨fd, h5, h6⟩ := bd_some h4
      obtain ⟨n, h7, h8⟩ := bd_some h6
      obtain ⟨g, h9, h10⟩ := bd_some h8
      cases h10; exact (ff_ hb).elim
    · cases h4
  case h_22 =>
    obtain ⟨ax, h1, h2⟩ := bd_some h
    obtain ⟨ai, h3, h4⟩ := bd_some h2
    obtain ⟨u, h5, h6⟩ := bd_some h4
    split at h6
    · obtain ⟨k, h7, h8⟩ := bd_some h6
      cases h8; exact (ff_ hb).elim
    · obtain ⟨k, h7, h8⟩ := bd_some h6
      cases h8; exact (ff_ hb).elim
    · cases h6
  case h_23 =>
    obtain ⟨ax, h1, h2⟩ := bd_some h
    obtain ⟨ai, h3, h4⟩ := bd_some h2
    obtain ⟨u, h5, h6⟩ := bd_some h4
    split at h6
    · obtain ⟨k, h7, h8⟩ := bd_some h6
      obtain ⟨g, h9, h10⟩ := bd_some h8
      cases h10; exact (ff_ hb).elim
    · cases h6; exact (ff_ hb).elim
    · cases h6
  case h_24 =>
    obtain ⟨ax, h1, h2⟩ := bd_some h
    obtain ⟨ai, h3, h4⟩ := bd_some h2
    obtain ⟨u, h5, h6⟩ := bd_some h4
    split at h6
    · obtain ⟨q, h7, h8⟩ := bd_some h6
      obtain ⟨z, h9, h10⟩ := bd_some h8
      cases h10; exact (ff_ hb).elim
    · cases h6
  case h_25 t x y z heq =>
    obtain ⟨am, h1, h2⟩ := bd_some h
    obtain ⟨ak, h3, h4⟩ := bd_some h2
    obtain ⟨av, h5, h6⟩ := bd_some h4
    obtain ⟨u, h7, h8⟩ := bd_some h6
    split at h8
    · obtain ⟨q, h9, h10⟩ := bd_some h8
      cases h10; exact (ff_ hb).elim
    · cases h8
  case h_26 t x y z heq =>
    obtain ⟨am, h1, h2⟩ := bd_some h
    obtain ⟨ak, h3, h4⟩ := bd_some h2
    obtain ⟨av, h5, h6⟩ := bd_some h4
    obtain ⟨u, h7, h8⟩ := bd_some h6
    split at h8
    · obtain ⟨q, h9, h10⟩ := bd_some h8
      cases h10; exact (ff_ hb).elim
    · cases h8
  case h_27 t x y heq =>
    obtain ⟨am, h1, h2⟩ := bd_some h
    obtain ⟨ak, h3, h4⟩ := bd_some h2
    obtain ⟨u, h7, h8⟩ := bd_some h4
    split at h8
    · obtain ⟨q, h9, h10⟩ := bd_some h8
      obtain ⟨z, h11, h12⟩ := bd_some h10
      cases h12; exact (ff_ hb).elim
    · cases h8
  case h_28 t x y z heq =>
    obtain ⟨am, h1, h2⟩ := bd_some h
    obtain ⟨ak, h3, h4⟩ := bd_some h2
    obtain ⟨av, h5, h6⟩ := bd_some h4
    cases h6; exact (ff_ hb).elim
  case h_29 t x heq =>
    obtain ⟨ax, h1, h2⟩ := bd_some h
    obtain ⟨u, h3, h4⟩ := bd_some h2
    split at h4
    · cases h4; exact (ff_ hb).elim
    · cases h4; exact (ff_ hb).elim
    · cases h4
  case h_30 x s heq =>
    obtain ⟨ax, h1, h2⟩ := bd_some h
    cases s with
    | true => cases h2; exact (ff_ hb).elim
    | false => cases h2; exact (ff_ hb).elim
  case h_31 => obtain ⟨ax, h1, h2⟩ := bd_some h; cases h2; exact (ff_ hb).elim
  case h_32 => obtain ⟨ax, h1, h2⟩ := bd_some h; cases h2; exact (ff_ hb).elim
  case h_33 k heq =>
    obtain ⟨args, h1, h2⟩ := bd_some h
    split at h2
    · rename_i hk
      cases h2; exact .inl ⟨k, _, args, rfl, heq, hk, h1⟩
    · rename_i x _ hk
      obtain ⟨f, h3, h4⟩ := bd_some h2
      cases h4; exact .inr (.inl ⟨k, x, f, args, rfl, heq, hk, h1, h3⟩)
    · rename_i x name hk
      obtain ⟨r, h3, h4⟩ := bd_some h2
      obtain ⟨ms, h5, h6⟩ := bd_some h4
      cases h6; exact .inr (.inr ⟨k, x, name, r, ms, args, rfl, heq, hk, h1, h3, h5⟩)
    · rename_i b hbb
      unfold cop.cbuiltin at h2
      split at h2
      · obtain ⟨t, h3, h4⟩ := bd_some h2
        obtain ⟨u, h5, h6⟩ := bd_some h4
        split at h6
        · cases h6; exact (ff_ hb).elim
        · cases h6; exact (ff_ hb).elim
        · cases h6; exact (ff_ hb).elim
        · obtain ⟨r, h7, h8⟩ := bd_some h6
          split at h8
          · cases h8; exact (ff_ hb).elim
          · cases h8
        · cases h6; exact (ff_ hb).elim
        · cases h6
      · obtain ⟨t, h3, h4⟩ := bd_some h2
        obtain ⟨u, h5, h6⟩ := bd_some h4
        split at h6
        · cases h6; exact (ff_ hb).elim
        · cases h6
      · cases h2; exact (ff_ hb).elim
      · cases h2; exact (ff_ hb).elim
      · obtain ⟨t, h3, h4⟩ := bd_some h2
        obtain ⟨u, h5, h6⟩ := bd_some h4
        split at h6
        · obtain ⟨z, h7, h8⟩ := bd_some h6
          obtain ⟨n, h9, h10⟩ := bd_some h8
          obtain ⟨by', h11, h12⟩ := bd_some h10
          split at h12
          · rename_i hc
            obtain ⟨tt, h15, h16⟩ := bd_some h12
            obtain ⟨uu, h13, h14⟩ := bd_some h16
            split at h14
            · cases h14; exact (ff_ hb).elim
            · cases h14; exact (ff_ hb).elim
            · cases h14; exact (ff_ hb).elim
            · cases h14
          · cases h12
        · cases h6
      · obtain ⟨t, h3, h4⟩ := bd_some h2
        obtain ⟨u, h5, h6⟩ := bd_some h4
        split at h6
        · obtain ⟨n, h9, h10⟩ := bd_some h6
          cases h10; exact (ff_ hb).elim
        · cases h6
      · obtain ⟨t, h3, h4⟩ := bd_some h2
        obtain ⟨u, h5, h6⟩ := bd_some h4
        split at h6
        · obtain ⟨z, h7, h8⟩ := bd_some h6
          obtain ⟨n, h9, h10⟩ := bd_some h8
          split at h10
          · rename_i hc
            cases h10; exact (ff_ hb).elim
          · cases h10
        · cases h6; exact (ff_ hb).elim
        · cases h6
      · obtain ⟨t, h3, h4⟩ := bd_some h2
        obtain ⟨u, h5, h6⟩ := bd_some h4
        split at h6
        · obtain ⟨q, h9, h10⟩ := bd_some h6
          cases h10; exact (ff_ hb).elim
        · cases h6
      · cases h2
  case h_34 => cases h


/-- the receiver behind an interface value -/
theorem follow_ok (hw : WR P ifts ρ m H w.heap) : ∀ (l : List FieldStep) (t : TypeId) (p : List Nat) (x : Place) (v : AV) (vv : Value) (r : AV), cop.path P t l = some p → (x.get t).run P w = .ok vv w → VR ρ m v vv → recv H p v = some r →
    ∃ xt x' rv, (follow l t x).run P w = .ok (xt, x') w ∧ (∃ e, P.underlying xt = some (.pointer e)) ∧ (x'.get xt).run P w = .ok rv w ∧ VR ρ m r rv
  | [], t, p, x, v, vv, r, hp, hx, hv, hr => by
    obtain ⟨d, h1, h2⟩ := bd_some (show bd (P.underlying t) _ = some p from hp)
    split at h2
    · cases h2
      cases hr
      exact ⟨t, x, vv, by simp [follow], ⟨_, h1⟩, hx, hv⟩
    · cases h2
  | s :: l, t, p, x, v, vv, r, hp, hx, hv, hr => by
    unfold cop.path at hp
    cases hd : s.deref with
    | false => rw [hd] at hp; cases hp
    | true =>
      rw [hd] at hp
      obtain ⟨d, h1, h2⟩ := bd_some hp
      split at h2
      · rename_i fs
        obtain ⟨f, h3, h4⟩ := bd_some h2
        obtain ⟨n, h5, h6⟩ := bd_some h4
        obtain ⟨g, h7, h8⟩ := bd_some h6
        obtain ⟨r', h9, h10⟩ := bd_some h8
        split at h10
        · cases h10
          unfold recv at hr
          split at hr
          · rename_i b o
            obtain ⟨c, k1, k2⟩ := bd_some hr
            obtain ⟨u, k3, k4⟩ := bd_some k2
            simp only [VR] at hv
            obtain ⟨e, hm, rfl⟩ := hv
            obtain ⟨es, fl, hb⟩ := row_some k1
            obtain ⟨C, el, fr, g1, _, g3, _⟩ := cell_of hw hb hm
            rw [lget_eq] at k3
            obtain ⟨_, v', g4, g5⟩ := g3 _ _ k3
            have hpl : (fieldPlace ⟨e.b, e.o + o, none⟩ f).run P w = .ok ⟨e.b, e.o + (o + f.offset), none⟩ w := by
              simp only [fieldPlace, Sem.run_bind, r_size h5, Result.andThen_ok]
              simp [addrAdd, Nat.add_assoc]
            have hget : ((Place.var ⟨e.b, e.o + (o + f.offset), none⟩).get f.type).run P w = .ok v' w := by
              simp [Place.get, loadVar, r_agg h7, run_load, cell?_of g1, g4]
            obtain ⟨xt, x', rv, q1, q2, q3, q4⟩ := follow_ok hw l f.type r' (.var ⟨e.b, e.o + (o + f.offset), none⟩) u v' r h9 hget g5 k4
            refine ⟨xt, x', rv, ?_, q2, q3, q4⟩
            simp only [follow, Sem.run_bind, r_und h1, Result.andThen_ok, h3, hd, if_true, hx, asAddr, Sem.run_pure, hpl]
            exact q1
          · cases hr
        · cases h10
      · cases h2

theorem meths_find {name : String} {t g : Nat} {p : List Nat} : ∀ {ifts : List TypeId} {ms : List (Nat × Nat × List Nat)}, cop.meths P name ifts = some ms → findM t ms = some (g, p) →
    ∃ i mt, P.info? t = some i ∧ i.methods.find? (·.name == name) = some mt ∧ mt.func = some (g, true) ∧ cop.path P t mt.path.toList = some p
  | [], ms, h, hf => by cases h; cases hf
  | u :: l, ms, h, hf => by
    obtain ⟨r, h1, h2⟩ := bd_some (show bd (cop.meths P name l) _ = some ms from h)
    split at h2
    · cases h2
    · rename_i i hi
      split at h2
      · cases h2; exact meths_find h1 hf
      · rename_i mt hmt
        split at h2
        · rename_i g' hg
          obtain ⟨p', h3, h4⟩ := bd_some h2
          cases h4
          cases hb : Nat.beq t u with
          | true =>
            simp only [findM, hb, iff_true] at hf
            cases hf
            rw [Nat.eq_of_beq_eq_true hb] at *
            exact ⟨i, mt, hi, hmt, hg, h3⟩
          | false =>
            simp only [findM, hb, iff_false] at hf
            exact meths_find h1 hf
        · cases h2; exact meths_find h1 hf

/-- the method behind an interface value -/
theorem method_ok (hw : WR P ifts ρ m H w.heap) {name : String} {ms : List (Nat × Nat × List Nat)} (hms : cop.meths P name ifts = some ms) {t g : Nat} {p : List Nat} (hf : findM t ms = some (g, p)) {v r : AV} {vv : Value} (hv : VR ρ m v vv) (hr : recv H p v = some r)
    (n : Nat) : ∃ rv, (method (n + 1) t vv name).run P w = .ok (g, rv) w ∧ VR ρ m r rv := by
  obtain ⟨i, mt, h1, h2, h3, h4⟩ := meths_find hms hf
  obtain ⟨xt, x', rv, q1, ⟨e, q2⟩, q3, q4⟩ := follow_ok hw mt.path.toList t p (.val vv) v vv r h4 (by simp [Place.get]) hv hr
  refine ⟨rv, ?_, q4⟩
  simp only [method, Sem.run_bind, r_inf h1, Result.andThen_ok, h2, q1, h3, receiverAt, r_und q2, q3, Sem.run_pure]
end
end Go.Ev

namespace Go.Ev
open Go
section
variable {P : Program} {ifts : List TypeId} {F : Facts} {ρ : Nat → Value} {m : Emb} {T : Tr AV} {H H' : AH} {a : Act} {w : World} {o : Oper} {R : Rec} {FT : Fns}

theorem callsIn_ff {ro : Option Nat} {n : Nat} {f : FuncId} {args : Array Value} {Rr : Ending → World → Prop} (h : CallsIn Fence.wide n P f args w Rr) : CallsIn (FF ro) n P f args w Rr := h

theorem roundIn_ff {ro : Option Nat} {n l : Nat} {f : FuncId} {tmps : Array Value} {ca cb : Code} {Rr : Ending → World → Prop} (h : RoundIn Fence.wide n P l f tmps ca cb w Rr) : RoundIn (FF ro) n P l f tmps ca cb w Rr := h

theorem oper_ok (c : Ctx P ifts F ρ m T H a.tmps w.heap) (hR : RecOk P ifts F ρ R FT) {ro : Option Nat} {op : AOp} (hc : cop P ifts o = some op) {v : AV} (h : exop op F R FT T H = some (v, H')) {K : Act → World → Prop} {Q : Exit → Act → World → Prop}
    (hK : ∀ m' w' v', VR ρ m' v v' → St P ifts ρ m H w.heap m' H' w'.heap → WE w w' → K (a.put o.dst v') w') : o.wpIn (FF ro) 0 P a w K Q := by
  have hnd : ∀ k, o.op ≠ .defer k := fun k hk => by simp [cop, hk] at hc
  refine ⟨fun _ _ => trivial, ?_⟩
  rw [Oper.semAt_eq _ _ _ hnd]
  -- a call that enters a function
  have enter : ∀ g (args : List AV) (vs : Array Value), callA R FT g args H = some (v, H') → VRs ρ m args vs.toList → (execOp a.eval o).run P w = (callFunc g vs).run P w → o.uponIn (FF ro) 0 P a K Q ((execOp a.eval o).run P w) := by
    intro g args vs hcall hvs hrun
    obtain ⟨fn, hfn⟩ := callA_fn hcall
    obtain ⟨fn0, hfn0⟩ := hR.fns g fn hfn
    rw [hrun, r_callFunc hfn0]
    rw [Oper.uponIn_enter]
    refine ⟨fun hd => by simp [FF] at hd, CallsIn.mono (callsIn_ff (hR.call _ _ _ _ _ hcall m w vs c.w c.z hvs)) ?_⟩
    rintro e w' ⟨m', v', rfl, h1, h2, h3⟩
    exact hK m' w' v' h1 h2 h3
  rcases exop_split h with ⟨hp, rfl⟩ | he | he | hcl | hcl | hcl
  · obtain ⟨v', hv, hr⟩ := pure_ok c hc hp
    rw [hr, Oper.uponIn_value]
    exact hK m w v' hv (St.refl c.w) (WE.refl w)
  · obtain ⟨m', w', v', hr, hv, hs, hwe⟩ := eff_ok c hc he
    rcases hr with hr | ⟨hr, rfl⟩
    · rw [hr, Oper.uponIn_value]; exact hK m' w' v' hv hs hwe
    · rw [hr, Oper.uponIn_skip]; exact hK m' w' undef hv hs hwe
  · obtain ⟨m', w', v', hr, hv, hs, hwe⟩ := sym_ok c hc he
    rcases hr with hr | ⟨hr, rfl⟩
    · rw [hr, Oper.uponIn_value]; exact hK m' w' v' hv hs hwe
    · rw [hr, Oper.uponIn_skip]; exact hK m' w' undef hv hs hwe
  · obtain ⟨g, l, rfl⟩ := hcl
    obtain ⟨args, h1, h2⟩ := bd_some (show bd (evs l T) (fun args => callA R FT g args H) = some (v, H') from h)
    rcases cop_call hc rfl with ⟨k, g', args', e1, hop, hk, hargs⟩ | ⟨k, x, f, args', e1, _⟩ | ⟨k, x, name, r, ms, args', e1, _⟩
    · cases e1
      refine enter g args (k.args.map a.eval) h2 (by simpa using opds_ok c.t hargs h1) ?_
      simp [execOp, hop, resolve, hk, Act.eval, Deferred.ofValue, invoke]
    · cases e1
    · cases e1
  · obtain ⟨f, l, rfl⟩ := hcl
    obtain ⟨u, h0, h0'⟩ := bd_some (show bd (f.ev T) (fun f => bd (evs l T) fun args => callV R FT args H f) = some (v, H') from h)
    obtain ⟨args, h1, h2⟩ := bd_some h0'
    rcases cop_call hc rfl with ⟨k, g', args', e1, _⟩ | ⟨k, x, f', args', e1, hop, hk, hargs, hx⟩ | ⟨k, x, name, r, ms, args', e1, _⟩
    · cases e1
    · cases e1
      have hu := opd_ok c.t hx h0
      have hvs : VRs ρ m args (k.args.map a.eval).toList := by simpa using opds_ok c.t hargs h1
      rcases onCall_some (show onCall _ _ u = some (v, H') from h2) with ⟨g, first, cap, rfl, h3⟩ | ⟨lp, rfl, h3⟩
      · simp only [VR] at hu
        obtain ⟨f', c', hu, hf, hcp⟩ := hu
        refine enter g (first ++ args ++ cap) (f' ++ k.args.map a.eval ++ c') h3 (by simpa using (hf.append hvs).append hcp) ?_
        simp [execOp, hop, resolve, hk, hu, Deferred.ofValue, invoke]
      · simp only [VR] at hu
        obtain ⟨e, hm, hu⟩ := hu
        obtain ⟨fx, tmps, ca, cb, hy, hround⟩ := hR.round lp args H v H' h3 m w e (k.args.map a.eval) c.w c.z hm hvs
        have hrun : (execOp a.eval o).run P w = .ok (.round e.b fx tmps ca cb) w := by
          rw [← hy]
          simp [execOp, hop, resolve, hk, hu, Deferred.ofValue, invoke]
        rw [hrun, Oper.uponIn_round]
        refine ⟨fun hd => by simp [FF] at hd, RoundIn.mono (roundIn_ff hround) ?_⟩
        rintro e' w' ⟨m', v', rfl, q1, q2, q3⟩
        exact hK m' w' v' q1 q2 q3
    · cases e1
  · obtain ⟨r, ms, l, rfl⟩ := hcl
    obtain ⟨u, h0, h0'⟩ := bd_some (show bd (r.ev T) (fun r => bd (evs l T) fun args => invV R FT ms args H r) = some (v, H') from h)
    obtain ⟨args, h1, h2⟩ := bd_some h0'
    rcases cop_call hc rfl with ⟨k, g', args', e1, _⟩ | ⟨k, x, f', args', e1, _⟩ | ⟨k, x, name, r', ms', args', e1, hop, hk, hargs, hx, hms⟩
    · cases e1
    · cases e1
    · cases e1
      have hu := opd_ok c.t hx h0
      have hvs : VRs ρ m args (k.args.map a.eval).toList := by simpa using opds_ok c.t hargs h1
      obtain ⟨t, u', rfl, h3⟩ := onIfc_some (show onIfc _ u = some (v, H') from h2)
      obtain ⟨⟨g, p⟩, h4, h5⟩ := bd_some (show bd (findM t ms) _ = some (v, H') from h3)
      obtain ⟨rv, h6, h7⟩ := bd_some h5
      simp only [VR] at hu
      obtain ⟨v0, hu, hv0⟩ := hu
      obtain ⟨rv', q1, q2⟩ := method_ok (w := w) c.w hms h4 hv0 h6 (P.types.size + (Made.depth - 1))
      refine enter g (rv :: args) (#[rv'] ++ k.args.map a.eval) h7 (by simpa using VRs.cons q2 hvs) ?_
      have hmeth : (method (P.types.size + Made.depth) t v0 name).run P w = .ok (g, rv') w := q1
      have ha0 : (#[Value.iface t v0] ++ k.args.map a.eval)[0]? = some (.iface t v0) := by rw [Array.getElem?_append_left (by simp)]; simp
      have hex : (k.args.map a.eval).extract 0 k.args.size = k.args.map a.eval := by simp
      simp [execOp, hop, resolve, hk, hu, invoke, callMethod]
      rw [ha0]
      simp [hmeth, hex]
end
end Go.Ev

namespace Go.Ev
open Go
section
variable {P : Program} {ifts : List TypeId} {F : Facts} {ρ : Nat → Value} {m : Emb} {T T' : Tr AV} {H H' : AH} {a : Act} {w : World} {R : Rec} {FT : Fns} {N : Nat}

theorem TR.put {d : Option Tmp} {v : AV} {v' : Value} (hT : TR ρ m T a.tmps) (hd : ∀ t, d = some t → t < a.tmps.size) (hv : VR ρ m v v') : TR ρ m (putD d v T) (a.put d v').tmps := by
  cases d with
  | none => exact hT
  | some t =>
    intro k x hk
    rw [show putD (some t) v T = T.set v t from rfl, Tr.get_set] at hk
    have hlt := hd t rfl
    show ∃ v0, (a.tmps.setIfInBounds t v')[k]? = some v0 ∧ _
    rw [Array.getElem?_setIfInBounds]
    by_cases hkt : k = t
    · subst hkt
      rw [if_pos rfl] at hk; cases hk
      exact ⟨v', by simp [hlt], hv⟩
    · rw [if_neg hkt] at hk
      rw [if_neg (fun h => hkt h.symm)]
      exact hT k x hk

theorem put_size (a : Act) (d : Option Tmp) (v : Value) : (a.put d v).tmps.size = a.tmps.size := by
  cases d <;> simp [Act.put]
theorem put_defers (a : Act) (d : Option Tmp) (v : Value) : (a.put d v).defers = a.defers := by
  cases d <;> rfl

theorem VR_undef : VR ρ m (.tup []) undef := VR_noRes

/-- what stays the same around a region -/
structure Out (P : Program) (ifts : List TypeId) (ρ : Nat → Value) (m : Emb) (H : AH) (a : Act) (w : World) (T' : Tr AV) (H' : AH) (a' : Act) (w' : World) (m' : Emb) : Prop where
  t : TR ρ m' T' a'.tmps
  st : St P ifts ρ m H w.heap m' H' w'.heap
  we : WE w w'
  sz : a'.tmps.size = a.tmps.size
  df : a'.defers = a.defers

theorem ops_ok (hf : FOk P F ρ) (h1 : One ρ) (hR : RecOk P ifts F ρ R FT) {ro : Option Nat} {ops' : Array Oper} {Q : Exit → Act → World → Prop} : ∀ {l : List Oper} {al : List AOper} {j : Nat} {m : Emb} {T : Tr AV} {H : AH} {a : Act} {w : World},
    copers P ifts N ops' l = some al → (∀ i, l[i]? = ops'[j + i]?) → ops F R FT al T H = some (T', H') → TR ρ m T a.tmps → N ≤ a.tmps.size → WR P ifts ρ m H w.heap → Fz F ρ m H w.heap →
    (∀ a' w' m', Out P ifts ρ m H a w T' H' a' w' m' → Q .normal a' w') → wpOpsIn (FF ro) 0 P ops' Q (List.range' j l.length) a w
  | [], al, j, m, T, H, a, w, hc, hl, he, hT, hN, hw, _, hQ => by
    cases hc; cases he
    exact hQ a w m ⟨hT, St.refl hw, WE.refl w, rfl, rfl⟩
  | o :: l, al, j, m, T, H, a, w, hc, hl, he, hT, hN, hw, hz, hQ => by
    obtain ⟨ao, h2, h3⟩ := bd_some (show bd (coper P ifts N ops' o) _ = some al from hc)
    obtain ⟨al', h4, h5⟩ := bd_some h3
    cases h5
    obtain ⟨d1, d2, d3, d4⟩ := coper_some h2
    obtain ⟨b, h6, h7⟩ := bd_some (show bd (wants ao.g T) _ = some (T', H') from he)
    have hwant := wants_ok hT h2 h6
    have hj : ops'[j]? = some o := by have := hl 0; simpa using this.symm
    have hl' : ∀ i, l[i]? = ops'[j + 1 + i]? := fun i => by have := hl (i + 1); simp at this; rw [this]; congr 1; omega
    simp only [List.length_cons, List.range'_succ, wpOpsIn, hj, hwant]
    cases b with
    | false =>
      simp only [Bool.false_eq_true, if_false]
      refine ⟨fun _ _ => trivial, ?_⟩
      have he' : ops F R FT al' (putD ao.d (.tup []) T) H = some (T', H') := h7
      rw [d1] at he'
      refine ops_ok hf h1 hR h4 hl' he' (TR.put hT (fun t ht => Nat.lt_of_lt_of_le (d2 t ht) hN) VR_undef) (by rw [put_size]; exact hN) hw hz fun a' w' m' ho => hQ a' w' m' ⟨ho.t, ho.st, ho.we, by rw [ho.sz, put_size], by rw [ho.df, put_defers]⟩
    | true =>
      simp only [if_true]
      obtain ⟨⟨v, H1⟩, h8, h9⟩ := bd_some (show bd (exop ao.op F R FT T H) _ = some (T', H') from h7)
      obtain ⟨_, h10⟩ := orN_some (show orN (recheck F (putD ao.d v T) H1 ao.rc) (ops F R FT al' (putD ao.d v T) H1) = some (T', H') from h9)
      rw [d1] at h10
      have hcop : ∃ op, cop P ifts o = some op ∧ ao.op = op := by
        cases hco : cop P ifts o with
        | none => rw [hco] at d4; rw [d4] at h8; cases h8
        | some op => rw [hco] at d4; exact ⟨op, rfl, d4⟩
      obtain ⟨op, hcop, hop⟩ := hcop
      rw [hop] at h8
      refine oper_ok ⟨hT, hw, h1, hf, hz⟩ hR hcop h8 fun m1 w1 v' hv hst hwe => ?_
      refine ops_ok hf h1 hR h4 hl' h10 (TR.put (hT.mono (hst.emb hw)) (fun t ht => Nat.lt_of_lt_of_le (d2 t ht) hN) hv) (by rw [put_size]; exact hN) hst.wr (hz.step hst) fun a' w' m' ho =>
        hQ a' w' m' ⟨ho.t, hst.trans ho.st, hwe.trans ho.we, by rw [ho.sz, put_size], by rw [ho.df, put_defers]⟩

theorem reg_ok (hf : FOk P F ρ) (h1 : One ρ) (hR : RecOk P ifts F ρ R FT) {ro : Option Nat} {id : Nat} {ops' : Array Oper} {al : List AOper} (hc : copers P ifts N ops' ops'.toList = some al) (he : ops F R FT al T H = some (T', H'))
    (hT : TR ρ m T a.tmps) (hN : N ≤ a.tmps.size) (hw : WR P ifts ρ m H w.heap) (hz : Fz F ρ m H w.heap) {Q : Exit → Act → World → Prop} (hQ : ∀ a' w' m', Out P ifts ρ m H a w T' H' a' w' m' → Q .normal a' w') :
    (Code.region id ops' false).wpIn (FF ro) 0 P Q a w := by
  refine wpIn_region ?_
  have := ops_ok (ro := ro) (Q := Q) (j := 0) hf h1 hR hc (fun i => by simp) he hT hN hw hz hQ
  rw [List.range_eq_range']
  simpa using this
end
end Go.Ev

