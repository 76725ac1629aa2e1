/-
  No cell of these rows narrows 'for every input' (looked for: loops, veiled, ifaces, maps, wideKeys, modest, calm, conditions, laid).
  DERIVED. THE GIVEN ROWS OF THIS SEAT. 3 by the template 'for every input the law returns true; each argument reads behind the call as it read before'; 0 by the template 'total and deterministic' (their statements: YtnkfegnbddmebaaGreatTotals.lean).
  GIVEN WITH THE SEED: the statements are not yours to turn. If you find one false, say at which input.
  Laid BY PROGRAM, IN A SANDBOX (cutbox-rows.mjs): the forced cells as the released guide's own fill.sh prints them over the translation 2ecdebfa8e4f5f09… (all of the seat's roots in one cut). By AI agents, Wed Nov 11 2026. No macro, syntax, notation, axiom, sorry.
-/
import Derived.Test.YtnkfegnbddmebaaGreatChecked
import GoSem.Claim
import GoSem.ClaimJoined
import GoSem.ClaimMapViews
import Derived.JoinedTies
import Derived.KernelRfl
namespace Go.Proofs.YtnkfegnbddmebaaGreat
/- THE CELL 'sum', in the pinned program and in every row, IS THE sha256 OF THE DUMP (.gsa) THAT YtnkfegnbddmebaaGreatProg.lean LOADS. Nothing in Lean hashes anything: it is a label: what it is worth is what the hold of that sum in a sandbox is worth. -/
noncomputable def Tryz.pinned : Pinned := { name := "ytnkfegnbddmebaagreat", sum := "2ecdebfa8e4f5f09cf59ff921e888fe40e1ab0c1e15e5f04e05239d45234a2ac", checked := Tryz.checked }
namespace Rows
def none {H : Type} : Left H := { results := [], args := [] }

/-- 'mizzenlaw24.XpassAsks': WHATEVER THE INPUT: true; the input reads as it did. -/
def xpassAsksSpec : ChangeSpec := { name := "xpassAsks", fn := fun _ => fun
  | [d1, d2, d3, d4] => { results := [.lit (.bool true)], args := [d1, d2, d3, d4] }
  | _ => none }
def xpassAsksRow : OpenClaim := { program := "ytnkfegnbddmebaagreat", sum := "2ecdebfa8e4f5f09cf59ff921e888fe40e1ab0c1e15e5f04e05239d45234a2ac", func := "mizzen/mizzenlaw24.XpassAsks", spec := "xpassAsks", inPlace := ["slices.overlaps[mizzen/api.Range]", "slices.overlaps[uint64]"], unfollowed := true, recurses := true, plainKeys := false, apart := false }
def XpassAsksSaid : Prop := xpassAsksRow.holds Tryz.pinned (OpenSpec.ofChange xpassAsksSpec)

/-- ITS FALSE NEIGHBOUR: 'it returns false'. Refute it at one input. -/
def xpassAsksWrong : ChangeSpec := { name := "xpassAsks", fn := fun _ => fun
  | [d1, d2, d3, d4] => { results := [.lit (.bool false)], args := [d1, d2, d3, d4] }
  | _ => none }
def XpassAsksWrongFalsely : Prop := xpassAsksRow.holds Tryz.pinned (OpenSpec.ofChange xpassAsksWrong)

/-- 'mizzenlaw24.XpassStrange': WHATEVER THE INPUT: true; the input reads as it did. -/
def xpassStrangeSpec : ChangeSpec := { name := "xpassStrange", fn := fun _ => fun
  | [d] => { results := [.lit (.bool true)], args := [d] }
  | _ => none }
def xpassStrangeRow : OpenClaim := { program := "ytnkfegnbddmebaagreat", sum := "2ecdebfa8e4f5f09cf59ff921e888fe40e1ab0c1e15e5f04e05239d45234a2ac", func := "mizzen/mizzenlaw24.XpassStrange", spec := "xpassStrange", inPlace := ["slices.overlaps[mizzen/api.Range]", "slices.overlaps[uint64]"], unfollowed := true, recurses := true, plainKeys := false, apart := false }
def XpassStrangeSaid : Prop := xpassStrangeRow.holds Tryz.pinned (OpenSpec.ofChange xpassStrangeSpec)

/-- ITS FALSE NEIGHBOUR: 'it returns false'. Refute it at one input. -/
def xpassStrangeWrong : ChangeSpec := { name := "xpassStrange", fn := fun _ => fun
  | [d] => { results := [.lit (.bool false)], args := [d] }
  | _ => none }
def XpassStrangeWrongFalsely : Prop := xpassStrangeRow.holds Tryz.pinned (OpenSpec.ofChange xpassStrangeWrong)

/-- 'mizzenlaw25.TransportNothing': WHATEVER THE INPUT: true; the input reads as it did. -/
def transportNothingSpec : ChangeSpec := { name := "transportNothing", fn := fun _ => fun
  | [d1, d2, d3] => { results := [.lit (.bool true)], args := [d1, d2, d3] }
  | _ => none }
def transportNothingRow : OpenClaim := { program := "ytnkfegnbddmebaagreat", sum := "2ecdebfa8e4f5f09cf59ff921e888fe40e1ab0c1e15e5f04e05239d45234a2ac", func := "mizzen/mizzenlaw25.TransportNothing", spec := "transportNothing", unfollowed := true, recurses := true, plainKeys := false, apart := false }
def TransportNothingSaid : Prop := transportNothingRow.holds Tryz.pinned (OpenSpec.ofChange transportNothingSpec)

/-- ITS FALSE NEIGHBOUR: 'it returns false'. Refute it at one input. -/
def transportNothingWrong : ChangeSpec := { name := "transportNothing", fn := fun _ => fun
  | [d1, d2, d3] => { results := [.lit (.bool false)], args := [d1, d2, d3] }
  | _ => none }
def TransportNothingWrongFalsely : Prop := transportNothingRow.holds Tryz.pinned (OpenSpec.ofChange transportNothingWrong)

/- THE SECOND FORM. 'bulk': how many values and letters a reading holds, each counted each time it is reached (what is shared counts as often as it is met; a slice's spare places count too). A statement '..UptoSaid' is the law's where the arguments, and the package variables that the reading takes, are together of bulk at most 1048576: NARROWER than '..Said'. Prove '..Said' where nothing that the law and all that it calls make is longer than what came in: it says more and counts as full. Else prove '..UptoSaid'. A law counts once. -/
mutual
def uptoBulk {H : Type} : DataW H → Nat
  | .lit (.string bytes) => bytes.length + 1
  | .lit _ => 1
  | .nil => 1
  | .ptr d => uptoBulk d + 1
  | .slice elems spare => uptoBulkAll elems + uptoBulkAll spare + 1
  | .agg parts => uptoBulkAll parts + 1
  | .iface _ d => uptoBulk d + 1
  | .map entries => uptoBulkEntries entries + 1
  | .held _ => 1
def uptoBulkAll {H : Type} : List (DataW H) → Nat
  | [] => 0
  | d :: r => uptoBulk d + uptoBulkAll r
def uptoBulkEntries {H : Type} : List (Lit × DataW H) → Nat
  | [] => 0
  | x :: r => uptoBulkEntry x + uptoBulkEntries r
def uptoBulkEntry {H : Type} : Lit × DataW H → Nat
  | (.string bytes, d) => bytes.length + uptoBulk d + 1
  | (_, d) => uptoBulk d + 1
 end
def uptoSmall : (H : Type) → List (DataW H) → Bool := fun _ ds => decide (uptoBulkAll ds ≤ 1048576)
def OpenSpec.upto (s : _root_.Go.ChangeSpec) : _root_.Go.OpenSpec := { _root_.Go.OpenSpec.ofChange s with cond := some uptoSmall }

/-- 'mizzenlaw24.XpassAsks', WHERE WHAT IT READS IS OF BULK AT MOST 1048576: true; the input reads as it did. -/
def xpassAsksUptoRow : OpenClaim := { program := "ytnkfegnbddmebaagreat", sum := "2ecdebfa8e4f5f09cf59ff921e888fe40e1ab0c1e15e5f04e05239d45234a2ac", func := "mizzen/mizzenlaw24.XpassAsks", spec := "xpassAsks", inPlace := ["slices.overlaps[mizzen/api.Range]", "slices.overlaps[uint64]"], unfollowed := true, recurses := true, plainKeys := false, apart := false, narrowed := true }
def XpassAsksUptoSaid : Prop := xpassAsksUptoRow.holds Tryz.pinned (OpenSpec.upto xpassAsksSpec)

/-- 'mizzenlaw24.XpassStrange', WHERE WHAT IT READS IS OF BULK AT MOST 1048576: true; the input reads as it did. -/
def xpassStrangeUptoRow : OpenClaim := { program := "ytnkfegnbddmebaagreat", sum := "2ecdebfa8e4f5f09cf59ff921e888fe40e1ab0c1e15e5f04e05239d45234a2ac", func := "mizzen/mizzenlaw24.XpassStrange", spec := "xpassStrange", inPlace := ["slices.overlaps[mizzen/api.Range]", "slices.overlaps[uint64]"], unfollowed := true, recurses := true, plainKeys := false, apart := false, narrowed := true }
def XpassStrangeUptoSaid : Prop := xpassStrangeUptoRow.holds Tryz.pinned (OpenSpec.upto xpassStrangeSpec)

/-- 'mizzenlaw25.TransportNothing', WHERE WHAT IT READS IS OF BULK AT MOST 1048576: true; the input reads as it did. -/
def transportNothingUptoRow : OpenClaim := { program := "ytnkfegnbddmebaagreat", sum := "2ecdebfa8e4f5f09cf59ff921e888fe40e1ab0c1e15e5f04e05239d45234a2ac", func := "mizzen/mizzenlaw25.TransportNothing", spec := "transportNothing", unfollowed := true, recurses := true, plainKeys := false, apart := false, narrowed := true }
def TransportNothingUptoSaid : Prop := transportNothingUptoRow.holds Tryz.pinned (OpenSpec.upto transportNothingSpec)

end Rows
end Go.Proofs.YtnkfegnbddmebaaGreat
