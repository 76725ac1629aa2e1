/-
  The law XpassAsks, taken apart: its pieces, and what the kernel checks of them. Conditions: none.
-/
import Derived.Test.YtnkfegnbddmebaaGreatXaT
import Derived.KernelRfl
set_option maxRecDepth 1000000
namespace Go.Ev.Q
open Go Go.Ev Go.Proofs

noncomputable def s1 (c : ACode) : ACode := ACode.rec (motive := fun _ => ACode) .skip (fun _ => .skip) (fun _ => .skip) (fun a _ _ _ => a) (fun _ _ _ _ _ => .skip) (fun _ _ _ => .skip) (fun _ _ => .skip) (fun _ => .skip) .skip (fun _ _ _ _ _ _ => .skip) c
noncomputable def s2 (c : ACode) : ACode := ACode.rec (motive := fun _ => ACode) .skip (fun _ => .skip) (fun _ => .skip) (fun _ b _ _ => b) (fun _ _ _ _ _ => .skip) (fun _ _ _ => .skip) (fun _ _ => .skip) (fun _ => .skip) .skip (fun _ _ _ _ _ _ => .skip) c
noncomputable def tl0 : ACode := f3.body
noncomputable def p0 : ACode := s1 tl0
noncomputable def tl1 : ACode := s2 tl0
noncomputable def p1 : ACode := s1 tl1
noncomputable def tl2 : ACode := s2 tl1
noncomputable def p2 : ACode := s1 tl2
noncomputable def tl3 : ACode := s2 tl2
noncomputable def p3 : ACode := s1 tl3
noncomputable def tl4 : ACode := s2 tl3
noncomputable def p4 : ACode := s1 tl4
noncomputable def tl5 : ACode := s2 tl4
noncomputable def p5 : ACode := s1 tl5
noncomputable def tl6 : ACode := s2 tl5
noncomputable def p6 : ACode := s1 tl6
noncomputable def tl7 : ACode := s2 tl6
noncomputable def p7 : ACode := s1 tl7
noncomputable def tl8 : ACode := s2 tl7
noncomputable def p8 : ACode := s1 tl8
noncomputable def tl9 : ACode := s2 tl8
noncomputable def p9 : ACode := s1 tl9
noncomputable def tl10 : ACode := s2 tl9
noncomputable def p10 : ACode := s1 tl10
noncomputable def tl11 : ACode := s2 tl10
noncomputable def p11 : ACode := s1 tl11
noncomputable def tl12 : ACode := s2 tl11
noncomputable def p12 : ACode := s1 tl12
noncomputable def tl13 : ACode := s2 tl12
noncomputable def p13 : ACode := s1 tl13
noncomputable def tl14 : ACode := s2 tl13
noncomputable def p14 : ACode := s1 tl14
noncomputable def tl15 : ACode := s2 tl14

/-- pieces, one behind the other -/
noncomputable def nest (l : List ACode) (c : ACode) : ACode := List.rec (motive := fun _ => ACode) c (fun a _ ih => .seq a ih) l
noncomputable def first : List ACode := [p0,p1,p2,p3,p4,p5,p6,p7,p8,p9,p10,p11]
theorem f3_shape : f3.body = nest first (nest [p12] (nest [p13, p14] tl15)) := by kernel_rfl
theorem f3_shape1 : f3.body = nest [p0] (.seq p1 tl2) := by kernel_rfl

noncomputable def fa : Fns := withKn ft.get [(6, [], .b true)]
theorem awake6 : isTrue (evCall {} ft.get 100000 6 [] nothing) = true := by kernel_rfl

noncomputable def runs (F : Facts) (l : List ACode) : Tr AV → AH → Option (Tr AV × AH) :=
  List.rec (motive := fun _ => Tr AV → AH → Option (Tr AV × AH)) (fun T H => some (T, H))
    (fun a _ ih T H => bd (run F fa 100000 false a T H) fun r => AX.rec (motive := fun _ => Option (Tr AV × AH)) (ih r.2.1 r.2.2) (fun _ => none) none r.1) l

/-- it has returned true -/
noncomputable def retT (rs : List ARes) (r : Option (AX × Tr AV × AH)) : Bool :=
  Option.rec (motive := fun _ => Bool) false (fun p => AX.rec (motive := fun _ => Bool) false (fun _ => false) (Option.rec (motive := fun _ => Bool) false (fun v => veq v (.b true)) (res p.2.1 p.2.2 rs)) p.1) r

noncomputable def allN (p : Nat → Bool) (n : Nat) : Bool := Nat.rec (motive := fun _ => Bool) true (fun j ih => Bool.rec false ih (p j)) n

/-- the tests on the first two arguments -/
noncomputable def dsF (sz : List Nat) (neg far one g20 : Bool) : Facts := { sz := sz, bin := [(.lss, .x 1, .i .i64 0, .b false), (.gtr, .x 1, .i .i64 30000, .b false), (.gtr, .x 1, .i .i64 20000, .b g20),
  (.lss, .x 0, .i .i64 0, .b neg), (.geq, .x 0, .i .i64 2, .b far), (.neq, .x 0, .i .i64 1, .b (!one))] }
/-- the tests on the third -/
noncomputable def idL (v : Int) (k : Nat) : List (BinOp × AV × AV × AV) := Nat.rec (motive := fun _ => List (BinOp × AV × AV × AV)) []
  (fun j ih => (.lss, .i .u64 (Int.ofNat (Nat.succ j)), .x 2, .b (ilt (Int.ofNat (Nat.succ j)) v)) :: (.gtr, .i .u64 (Int.ofNat (Nat.succ j)), .x 2, .b (ilt v (Int.ofNat (Nat.succ j)))) :: (.eql, .i .u64 (Int.ofNat (Nat.succ j)), .x 2, .b (ieq (Int.ofNat (Nat.succ j)) v)) :: ih) k
noncomputable def idF (k : Nat) (v : Int) : Facts := { bin := (.neq, .x 2, .x 2, .b false) :: (.eql, .x 2, .i .u64 0, .b (ieq v 0)) :: (.eql, .x 2, .i .u64 1, .b (ieq v 1)) :: (.geq, .x 2, .i .u64 1, .b (!(ilt v 1))) ::
  (.leq, .x 2, .i .u64 (Int.ofNat k), .b (!(ilt (Int.ofNat k) v))) :: (.gtr, .x 2, .i .u64 (Int.ofNat k), .b (ilt (Int.ofNat k) v)) :: idL v k }

def S2 (k : Nat) : Bool := Nat.ble k 2
noncomputable def T1 (d s : AV) (k : Nat) : Tr AV := Tr.ofL [d, s, .x 2, .i .u64 (Int.ofNat k)] 0 .lf
noncomputable def T2 (n : Int) (k : Nat) : Tr AV := Tr.set (.x 2) (Tr.set (.i .u64 (Int.ofNat k)) (Tr.set (.p 27 0) (Tr.set (.i .u64 n) .lf 15) 10) 3) 2
/-- nothing was submitted -/
noncomputable def HR (k : Int) : AH := ⟨(.nd (.nd (.nd (.nd (.nd .lf (some (.cells [(.i .i64 30),(.i .u64 1),.nsl] 0 0)) .lf) (some (.cells [(.i .u64 k),(.i .u64 0)] 0 0)) (.nd .lf (some (.cells [(.b false),(.i .i64 0),(.i .u64 0),.np,.np,.np,(.b false),(.i .i64 0),(.i .u64 0),.np,.np,.np,(.b false),(.i .i64 0),(.i .u64 0),.np,.np,.np,(.b false),(.i .i64 0),(.i .u64 0),.np,.np,.np,(.b false),(.i .i64 0),(.i .u64 0),.np,.np,.np,(.b false),(.i .i64 0),(.i .u64 0),.np,.np,.np,(.b false),(.i .i64 0),(.i .u64 0),.np,.np,.np,(.b false),(.i .i64 0),(.i .u64 0),.np,.np,.np] 0 0)) .lf)) none (.nd (.nd .lf (some (.cells [(.i .i64 30),(.i .u64 1),.nsl] 0 0)) .lf) (some (.cells [(.i .i64 20000),(.p 10 0),(.p 12 0),(.p 13 0),(.p 14 0),(.p 15 0),(.p 16 0),(.p 17 0),(.p 18 0),(.p 19 0),(.i .i64 0),(.i .i64 0),(.i .i64 0),(.i .i64 0),(.i .i64 0),(.i .i64 0),(.i .i64 0),(.i .i64 0),(.i .i64 30),.nsl] 0 0)) (.nd .lf (some (.cells [(.p 22 0)] 0 0)) .lf))) none (.nd (.nd (.nd .lf (some (.cells [(.i .i64 30),(.i .u64 1),.nsl] 0 0)) .lf) (some (.cells [(.b false),(.i .i64 0),(.i .u64 0),.np,(.b false),(.i .i64 0),(.i .u64 0),.np,(.b false),(.i .i64 0),(.i .u64 0),.np,(.b false),(.i .i64 0),(.i .u64 0),.np,(.b false),(.i .i64 0),(.i .u64 0),.np,(.b false),(.i .i64 0),(.i .u64 0),.np,(.b false),(.i .i64 0),(.i .u64 0),.np,(.b false),(.i .i64 0),(.i .u64 0),.np] 0 0)) (.nd .lf (some (.cells [(.i .i64 4),(.i .i64 0),(.i .i64 0)] 0 0)) .lf)) none (.nd (.nd .lf (some (.map [] 0)) .lf) (some (.cells [(.i .i64 30),(.i .u64 1),.nsl] 0 0)) .lf))) none (.nd (.nd (.nd (.nd .lf (some (.cells [(.i .i64 30),(.i .u64 1),.nsl] 0 0)) .lf) (some (.cells [(.i .i64 30),(.i .i64 20000),(.p 7 0),.nsl] 0 0)) (.nd .lf (some (.cells [(.i .i64 30),(.i .i64 0),(.sl 23 0 8 8 true)] 0 0)) .lf)) none (.nd (.nd .lf (some (.map [] 0)) .lf) (some (.cells [(.i .i64 30),(.i .u64 1),.nsl] 0 0)) .lf)) none (.nd (.nd (.nd .lf (some (.cells [(.i .i64 30),(.i .u64 1),.nsl] 0 0)) .lf) (some (.cells [(.i .i64 30),(.i .i64 0),(.sl 9 0 8 8 true)] 0 0)) (.nd .lf (some (.cells [(.p 22 0),(.p 24 0),(.p 25 0),(.i .i64 0),(.i .u64 0)] 0 0)) .lf)) none (.nd (.nd .lf (some (.cells [(.i .i64 3),(.i .i64 2),(.i .i64 1),(.i .i64 120),(.i .i64 0),(.i .i64 2),(.i .i64 0),(.i .i64 100000),(.i .i64 10),(.i .i64 30),(.i .i64 10),(.i .i64 20),(.i .i64 0),(.i .u64 k),(.i .i64 0),(.ifc 91 (.p 26 0)),(.i .i64 0),(.p 8 0),(.p 11 0),.nsl,.nsl,(.mp 20),(.mp 21),.nsl,(.i .u64 1),(.i .u64 1),(.i .u64 1),(.i .u64 1),(.i .u64 1),(.i .u64 1),(.i .u64 1),(.i .u64 1),(.i .u64 0),(.i .u64 0),(.i .u64 0),(.i .u64 0),(.i .u64 0),(.i .u64 0),(.i .u64 0),(.i .u64 0),(.i .i64 0),(.i .i64 0),(.i .i64 0),.np,(.i .u64 0),(.i .i64 0)] 0 0)) .lf) (some (.cells [(.i .i64 30),(.i .u64 1),.nsl] 0 0)) .lf)))), 29⟩
/-- a message without bytes was -/
noncomputable def HZ (k : Int) : AH := ⟨(.nd (.nd (.nd (.nd (.nd (.nd .lf (some (.cells [(.i .u64 1),(.i .i64 1),(.sl 29 0 0 0 true),(.i .i64 1),(.b false)] 5 0)) .lf) (some (.cells [(.i .i64 30),(.i .u64 1),.nsl] 0 0)) .lf) (some (.cells [(.i .u64 k),(.i .u64 1)] 0 0)) (.nd .lf (some (.cells [(.b false),(.i .i64 0),(.i .u64 0),.np,.np,.np,(.b false),(.i .i64 0),(.i .u64 0),.np,.np,.np,(.b false),(.i .i64 0),(.i .u64 0),.np,.np,.np,(.b false),(.i .i64 0),(.i .u64 0),.np,.np,.np,(.b false),(.i .i64 0),(.i .u64 0),.np,.np,.np,(.b false),(.i .i64 0),(.i .u64 0),.np,.np,.np,(.b false),(.i .i64 0),(.i .u64 0),.np,.np,.np,(.b false),(.i .i64 0),(.i .u64 0),.np,.np,.np] 0 0)) .lf)) none (.nd (.nd .lf (some (.cells [(.i .i64 30),(.i .u64 1),.nsl] 0 0)) .lf) (some (.cells [(.i .i64 20000),(.p 10 0),(.p 12 0),(.p 13 0),(.p 14 0),(.p 15 0),(.p 16 0),(.p 17 0),(.p 18 0),(.p 19 0),(.i .i64 0),(.i .i64 0),(.i .i64 0),(.i .i64 0),(.i .i64 0),(.i .i64 0),(.i .i64 0),(.i .i64 0),(.i .i64 30),.nsl] 0 0)) (.nd (.nd .lf (some (.cells [(.i .i64 10),(.i .i64 0),(.i .i64 1),(.i .i64 7),(.i .u64 1),(.i .i64 0),(.i .i64 0),(.i .i64 0),(.i .i64 1),.nsl] 10 0)) .lf) (some (.cells [(.p 22 0)] 0 0)) .lf))) none (.nd (.nd (.nd (.nd .lf (some (.cells [] 0 0)) .lf) (some (.cells [(.i .i64 30),(.i .u64 1),.nsl] 0 0)) .lf) (some (.cells [(.b false),(.i .i64 0),(.i .u64 0),.np,(.b false),(.i .i64 0),(.i .u64 0),.np,(.b false),(.i .i64 0),(.i .u64 0),.np,(.b false),(.i .i64 0),(.i .u64 0),.np,(.b false),(.i .i64 0),(.i .u64 0),.np,(.b false),(.i .i64 0),(.i .u64 0),.np,(.b false),(.i .i64 0),(.i .u64 0),.np,(.b false),(.i .i64 0),(.i .u64 0),.np] 0 0)) (.nd .lf (some (.cells [(.i .i64 4),(.i .i64 0),(.i .i64 0)] 0 0)) .lf)) none (.nd (.nd .lf (some (.map [] 0)) .lf) (some (.cells [(.i .i64 30),(.i .u64 1),.nsl] 0 0)) (.nd .lf (some (.cells [] 0 0)) .lf)))) none (.nd (.nd (.nd (.nd (.nd .lf (some (.cells [(.i .i64 10),(.i .i64 20),(.i .i64 0),(.i .i64 10),(.i .i64 0),(.b true)] 0 0)) .lf) (some (.cells [(.i .i64 30),(.i .u64 1),.nsl] 0 0)) .lf) (some (.cells [(.i .i64 30),(.i .i64 20000),(.p 7 0),(.sl 31 0 1 1 false)] 0 0)) (.nd .lf (some (.cells [(.i .i64 30),(.i .i64 0),(.sl 23 0 8 8 true)] 0 0)) .lf)) none (.nd (.nd .lf (some (.map [] 0)) .lf) (some (.cells [(.i .i64 30),(.i .u64 1),.nsl] 0 0)) .lf)) none (.nd (.nd (.nd (.nd .lf (some (.cells [(.i .u64 1),(.i .i64 1),(.sl 33 0 0 0 true),(.i .i64 0),(.i .i64 0),(.b false),(.i .i64 0),(.i .i64 0),(.i .i64 0),(.i .i64 0),(.i .i64 0),.nsl,.nsl,(.p 32 0)] 0 0)) .lf) (some (.cells [(.i .i64 30),(.i .u64 1),.nsl] 0 0)) .lf) (some (.cells [(.i .i64 30),(.i .i64 0),(.sl 9 0 8 8 true)] 0 0)) (.nd .lf (some (.cells [(.p 22 0),(.p 24 0),(.p 25 0),(.i .i64 0),(.i .u64 0)] 0 0)) .lf)) none (.nd (.nd (.nd .lf (some (.cells [(.p 34 0)] 1 0)) .lf) (some (.cells [(.i .i64 3),(.i .i64 2),(.i .i64 1),(.i .i64 120),(.i .i64 0),(.i .i64 2),(.i .i64 0),(.i .i64 100000),(.i .i64 10),(.i .i64 30),(.i .i64 10),(.i .i64 20),(.i .i64 0),(.i .u64 k),(.i .i64 0),(.ifc 91 (.p 26 0)),(.i .i64 0),(.p 8 0),(.p 11 0),(.sl 38 0 1 1 false),.nsl,(.mp 20),(.mp 21),(.sl 43 0 1 1 false),(.i .u64 1),(.i .u64 1),(.i .u64 1),(.i .u64 1),(.i .u64 1),(.i .u64 1),(.i .u64 1),(.i .u64 1),(.i .u64 0),(.i .u64 0),(.i .u64 0),(.i .u64 0),(.i .u64 0),(.i .u64 0),(.i .u64 0),(.i .u64 0),(.i .i64 0),(.i .i64 0),(.i .i64 0),.np,(.i .u64 0),(.i .i64 0)] 0 0)) .lf) (some (.cells [(.i .i64 30),(.i .u64 1),.nsl] 0 0)) .lf)))), 44⟩
/-- a message with bytes was -/
noncomputable def HP (k : Int) : AH := ⟨(.nd (.nd (.nd (.nd (.nd .lf (some (.cells [(.i .i64 30),(.i .u64 1),.nsl] 0 0)) .lf) (some (.cells [(.i .u64 k),(.i .u64 1)] 0 0)) (.nd .lf (some (.cells [(.b false),(.i .i64 0),(.i .u64 0),.np,.np,.np,(.b false),(.i .i64 0),(.i .u64 0),.np,.np,.np,(.b false),(.i .i64 0),(.i .u64 0),.np,.np,.np,(.b false),(.i .i64 0),(.i .u64 0),.np,.np,.np,(.b false),(.i .i64 0),(.i .u64 0),.np,.np,.np,(.b false),(.i .i64 0),(.i .u64 0),.np,.np,.np,(.b false),(.i .i64 0),(.i .u64 0),.np,.np,.np,(.b false),(.i .i64 0),(.i .u64 0),.np,.np,.np] 0 0)) .lf)) none (.nd (.nd (.nd .lf (some (.os 1)) .lf) (some (.cells [(.i .i64 30),(.i .u64 1),.nsl] 0 0)) .lf) (some (.cells [(.i .i64 20000),(.p 10 0),(.p 12 0),(.p 13 0),(.p 14 0),(.p 15 0),(.p 16 0),(.p 17 0),(.p 18 0),(.p 19 0),(.i .i64 0),(.i .i64 0),(.i .i64 0),(.i .i64 0),(.i .i64 0),(.i .i64 0),(.i .i64 0),(.i .i64 0),(.i .i64 30),.nsl] 0 0)) (.nd .lf (some (.cells [(.p 22 0)] 0 0)) .lf))) none (.nd (.nd (.nd (.nd .lf (some (.cells [(.i .i64 10),(.i .i64 20),(.i .i64 0),(.i .i64 10),(.i .i64 0),(.b true)] 0 0)) .lf) (some (.cells [(.i .i64 30),(.i .u64 1),.nsl] 0 0)) .lf) (some (.cells [(.b false),(.i .i64 0),(.i .u64 0),.np,(.b false),(.i .i64 0),(.i .u64 0),.np,(.b false),(.i .i64 0),(.i .u64 0),.np,(.b false),(.i .i64 0),(.i .u64 0),.np,(.b false),(.i .i64 0),(.i .u64 0),.np,(.b false),(.i .i64 0),(.i .u64 0),.np,(.b false),(.i .i64 0),(.i .u64 0),.np,(.b false),(.i .i64 0),(.i .u64 0),.np] 0 0)) (.nd .lf (some (.cells [(.i .i64 4),(.i .i64 0),(.i .i64 0)] 0 0)) .lf)) none (.nd (.nd .lf (some (.map [] 0)) .lf) (some (.cells [(.i .i64 30),(.i .u64 1),.nsl] 0 0)) (.nd (.nd .lf (some (.cells [(.i .i64 10),(.i .i64 0),(.i .i64 1),(.i .i64 7),(.i .u64 1),(.i .i64 0),(.i .i64 0),(.x 1),(.i .i64 1),.nsl] 10 0)) .lf) none .lf)))) none (.nd (.nd (.nd (.nd (.nd .lf (some (.cells [(.i .u64 1),(.i .i64 1),(.sx 30 1),(.i .i64 1),(.b false)] 5 0)) .lf) (some (.cells [(.i .i64 30),(.i .u64 1),.nsl] 0 0)) .lf) (some (.cells [(.i .i64 30),(.i .i64 20000),(.p 7 0),(.sl 32 0 1 1 false)] 0 0)) (.nd (.nd .lf (some (.cells [(.p 36 0)] 1 0)) .lf) (some (.cells [(.i .i64 30),(.i .i64 0),(.sl 23 0 8 8 true)] 0 0)) .lf)) none (.nd (.nd (.nd .lf (some (.cells [(.i .u64 1),(.i .i64 1),(.sx 35 1),(.i .i64 0),(.i .i64 0),(.b false),(.i .i64 0),(.i .i64 0),(.i .i64 0),(.i .i64 0),(.i .i64 0),.nsl,.nsl,(.p 33 0)] 0 0)) .lf) (some (.map [] 0)) .lf) (some (.cells [(.i .i64 30),(.i .u64 1),.nsl] 0 0)) .lf)) none (.nd (.nd (.nd .lf (some (.cells [(.i .i64 30),(.i .u64 1),.nsl] 0 0)) .lf) (some (.cells [(.i .i64 30),(.i .i64 0),(.sl 9 0 8 8 true)] 0 0)) (.nd .lf (some (.cells [(.p 22 0),(.p 24 0),(.p 25 0),(.i .i64 0),(.i .u64 0)] 0 0)) .lf)) none (.nd (.nd .lf (some (.cells [(.i .i64 3),(.i .i64 2),(.i .i64 1),(.i .i64 120),(.i .i64 0),(.i .i64 2),(.i .i64 0),(.i .i64 100000),(.i .i64 10),(.i .i64 30),(.i .i64 10),(.i .i64 20),(.i .i64 0),(.i .u64 k),(.i .i64 0),(.ifc 91 (.p 26 0)),(.i .i64 0),(.p 8 0),(.p 11 0),(.sl 40 0 1 1 false),.nsl,(.mp 20),(.mp 21),(.sl 45 0 1 1 false),(.i .u64 1),(.i .u64 1),(.i .u64 1),(.i .u64 1),(.i .u64 1),(.i .u64 1),(.i .u64 1),(.i .u64 1),(.i .u64 0),(.i .u64 0),(.i .u64 0),(.i .u64 0),(.i .u64 0),(.i .u64 0),(.i .u64 0),(.i .u64 0),(.i .i64 0),(.i .i64 0),(.i .i64 0),.np,(.i .u64 0),(.i .i64 0)] 0 0)) .lf) (some (.cells [(.i .i64 30),(.i .u64 1),.nsl] 0 0)) (.nd .lf (some (.os 1)) .lf))))), 46⟩

noncomputable def fitO (T2 : Tr AV) (H2 : AH) (r : Option (Tr AV × AH)) : Bool := Option.rec (motive := fun _ => Bool) false (fun p => and (Nat.ble p.2.n H2.n) (fits S2 T2 H2 p.1 p.2)) r
noncomputable def chk1 (F : Facts) (T0 T2 : Tr AV) (H2 : AH) : Bool :=
  Option.rec (motive := fun _ => Bool) false (fun r => and (fitO T2 H2 (runs (idF 1 0) [p12] r.1 r.2)) (and (fitO T2 H2 (runs (idF 1 1) [p12] r.1 r.2)) (fitO T2 H2 (runs (idF 1 2) [p12] r.1 r.2)))) (runs F first T0 nothing)
noncomputable def chk2 (T2 : Tr AV) (H2 : AH) (k : Nat) : Bool :=
  Option.rec (motive := fun _ => Bool) false (fun r => allN (fun j => retT f3.res (run (idF k (Int.ofNat j)) fa 100000 false tl15 r.1 r.2)) (k + 2)) (runs {} [p13, p14] T2 H2)

/-- out of range -/
noncomputable def outF (a b c d : Bool) : Facts := { bin := [(.lss, .x 1, .i .i64 0, .b a), (.gtr, .x 1, .i .i64 30000, .b b), (.lss, .x 3, .i .u64 1, .b c), (.gtr, .x 3, .i .u64 20, .b d)] }
noncomputable def chk0 (F : Facts) : Bool := Option.rec (motive := fun _ => Bool) false (fun r => retT f3.res (run F fa 100000 false p1 r.1 r.2)) (runs F [p0] (Tr.ofL [.x 0, .x 1, .x 2, .x 3] 0 .lf) nothing)
theorem out1 (b c d : Bool) : chk0 (outF true b c d) = true := by kernel_rfl
theorem out2 (c d : Bool) : chk0 (outF false true c d) = true := by kernel_rfl
theorem out3 (d : Bool) : chk0 (outF false false true d) = true := by kernel_rfl
theorem out4 : chk0 (outF false false false true) = true := by kernel_rfl
end Go.Ev.Q
