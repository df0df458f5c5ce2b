/-
  No cell of these rows narrows 'for every input' (looked for: loops, veiled, ifaces, maps, wideKeys, modest, calm, conditions, laid).
  DERIVED. THE GIVEN ROWS OF THIS SEAT. 3 by the template 'for every input the law returns true; each argument reads behind the call as it read before'; 0 by the template 'total and deterministic' (their statements: YtmnheledelnbfaaGreatTotals.lean).
  GIVEN WITH THE SEED: the statements are not yours to turn. If you find one false, say at which input.
  Laid BY PROGRAM, IN A SANDBOX (cutbox-rows.mjs): the forced cells as the released guide's own fill.sh prints them over the translation b4786e0601cb150e… (all of the seat's roots in one cut). By AI agents, Wed Nov 11 2026. No macro, syntax, notation, axiom, sorry.
-/
import Derived.Test.YtmnheledelnbfaaGreatChecked
import GoSem.Claim
import GoSem.ClaimJoined
import GoSem.ClaimMapViews
import Derived.JoinedTies
import Derived.KernelRfl
namespace Go.Proofs.YtmnheledelnbfaaGreat
/- THE CELL 'sum', in the pinned program and in every row, IS THE sha256 OF THE DUMP (.gsa) THAT YtmnheledelnbfaaGreatProg.lean LOADS. Nothing in Lean hashes anything: it is a label: what it is worth is what the hold of that sum in a sandbox is worth. -/
noncomputable def Tryz.pinned : Pinned := { name := "ytmnheledelnbfaagreat", sum := "b4786e0601cb150ee5e36a4a3561fb89e50dd542c1664f5b1daba6c9815172ae", checked := Tryz.checked }
namespace Rows
def none {H : Type} : Left H := { results := [], args := [] }

/-- 'castellanlaw21.MoveLegal': WHATEVER THE INPUT: true; the input reads as it did. -/
def moveLegalSpec : ChangeSpec := { name := "moveLegal", fn := fun _ => fun
  | [d1, d2] => { results := [.lit (.bool true)], args := [d1, d2] }
  | _ => none }
def moveLegalRow : OpenClaim := { program := "ytmnheledelnbfaagreat", sum := "b4786e0601cb150ee5e36a4a3561fb89e50dd542c1664f5b1daba6c9815172ae", func := "castellan/castellanlaw21.MoveLegal", spec := "moveLegal", inPlace := ["slices.overlaps[castellan/place.rack]", "internal/reflectlite.TypeOf"], unfollowed := true, recurses := true, apart := false }
def MoveLegalSaid : Prop := moveLegalRow.holds Tryz.pinned (OpenSpec.ofChange moveLegalSpec)

/-- ITS FALSE NEIGHBOUR: 'it returns false'. Refute it at one input. -/
def moveLegalWrong : ChangeSpec := { name := "moveLegal", fn := fun _ => fun
  | [d1, d2] => { results := [.lit (.bool false)], args := [d1, d2] }
  | _ => none }
def MoveLegalWrongFalsely : Prop := moveLegalRow.holds Tryz.pinned (OpenSpec.ofChange moveLegalWrong)

/-- 'castellanlaw21.MoveEnds': WHATEVER THE INPUT: true; the input reads as it did. -/
def moveEndsSpec : ChangeSpec := { name := "moveEnds", fn := fun _ => fun
  | [d1, d2, d3] => { results := [.lit (.bool true)], args := [d1, d2, d3] }
  | _ => none }
def moveEndsRow : OpenClaim := { program := "ytmnheledelnbfaagreat", sum := "b4786e0601cb150ee5e36a4a3561fb89e50dd542c1664f5b1daba6c9815172ae", func := "castellan/castellanlaw21.MoveEnds", spec := "moveEnds", inPlace := ["slices.overlaps[castellan/place.rack]", "internal/reflectlite.TypeOf"], unfollowed := true, recurses := true, apart := false }
def MoveEndsSaid : Prop := moveEndsRow.holds Tryz.pinned (OpenSpec.ofChange moveEndsSpec)

/-- ITS FALSE NEIGHBOUR: 'it returns false'. Refute it at one input. -/
def moveEndsWrong : ChangeSpec := { name := "moveEnds", fn := fun _ => fun
  | [d1, d2, d3] => { results := [.lit (.bool false)], args := [d1, d2, d3] }
  | _ => none }
def MoveEndsWrongFalsely : Prop := moveEndsRow.holds Tryz.pinned (OpenSpec.ofChange moveEndsWrong)

/-- 'castellanlaw21.MoveBack': WHATEVER THE INPUT: true; the input reads as it did. -/
def moveBackSpec : ChangeSpec := { name := "moveBack", fn := fun _ => fun
  | [d1, d2, d3] => { results := [.lit (.bool true)], args := [d1, d2, d3] }
  | _ => none }
def moveBackRow : OpenClaim := { program := "ytmnheledelnbfaagreat", sum := "b4786e0601cb150ee5e36a4a3561fb89e50dd542c1664f5b1daba6c9815172ae", func := "castellan/castellanlaw21.MoveBack", spec := "moveBack", inPlace := ["slices.overlaps[castellan/place.rack]", "internal/reflectlite.TypeOf"], unfollowed := true, recurses := true, apart := false }
def MoveBackSaid : Prop := moveBackRow.holds Tryz.pinned (OpenSpec.ofChange moveBackSpec)

/-- ITS FALSE NEIGHBOUR: 'it returns false'. Refute it at one input. -/
def moveBackWrong : ChangeSpec := { name := "moveBack", fn := fun _ => fun
  | [d1, d2, d3] => { results := [.lit (.bool false)], args := [d1, d2, d3] }
  | _ => none }
def MoveBackWrongFalsely : Prop := moveBackRow.holds Tryz.pinned (OpenSpec.ofChange moveBackWrong)

/- THE SECOND FORM. 'bulk': how many values and letters a reading holds, each counted each time it is reached (what is shared counts as often as it is met; a slice's spare places count too). A statement '..UptoSaid' is the law's where the arguments, and the package variables that the reading takes, are together of bulk at most 1048576: NARROWER than '..Said'. Prove '..Said' where nothing that the law and all that it calls make is longer than what came in: it says more and counts as full. Else prove '..UptoSaid'. A law counts once. -/
mutual
def uptoBulk {H : Type} : DataW H → Nat
  | .lit (.string bytes) => bytes.length + 1
  | .lit _ => 1
  | .nil => 1
  | .ptr d => uptoBulk d + 1
  | .slice elems spare => uptoBulkAll elems + uptoBulkAll spare + 1
  | .agg parts => uptoBulkAll parts + 1
  | .iface _ d => uptoBulk d + 1
  | .map entries => uptoBulkEntries entries + 1
  | .held _ => 1
def uptoBulkAll {H : Type} : List (DataW H) → Nat
  | [] => 0
  | d :: r => uptoBulk d + uptoBulkAll r
def uptoBulkEntries {H : Type} : List (Lit × DataW H) → Nat
  | [] => 0
  | x :: r => uptoBulkEntry x + uptoBulkEntries r
def uptoBulkEntry {H : Type} : Lit × DataW H → Nat
  | (.string bytes, d) => bytes.length + uptoBulk d + 1
  | (_, d) => uptoBulk d + 1
 end
def uptoSmall : (H : Type) → List (DataW H) → Bool := fun _ ds => decide (uptoBulkAll ds ≤ 1048576)
def OpenSpec.upto (s : _root_.Go.ChangeSpec) : _root_.Go.OpenSpec := { _root_.Go.OpenSpec.ofChange s with cond := some uptoSmall }

/-- 'castellanlaw21.MoveLegal', WHERE WHAT IT READS IS OF BULK AT MOST 1048576: true; the input reads as it did. -/
def moveLegalUptoRow : OpenClaim := { program := "ytmnheledelnbfaagreat", sum := "b4786e0601cb150ee5e36a4a3561fb89e50dd542c1664f5b1daba6c9815172ae", func := "castellan/castellanlaw21.MoveLegal", spec := "moveLegal", inPlace := ["slices.overlaps[castellan/place.rack]", "internal/reflectlite.TypeOf"], unfollowed := true, recurses := true, apart := false, narrowed := true }
def MoveLegalUptoSaid : Prop := moveLegalUptoRow.holds Tryz.pinned (OpenSpec.upto moveLegalSpec)

/-- 'castellanlaw21.MoveEnds', WHERE WHAT IT READS IS OF BULK AT MOST 1048576: true; the input reads as it did. -/
def moveEndsUptoRow : OpenClaim := { program := "ytmnheledelnbfaagreat", sum := "b4786e0601cb150ee5e36a4a3561fb89e50dd542c1664f5b1daba6c9815172ae", func := "castellan/castellanlaw21.MoveEnds", spec := "moveEnds", inPlace := ["slices.overlaps[castellan/place.rack]", "internal/reflectlite.TypeOf"], unfollowed := true, recurses := true, apart := false, narrowed := true }
def MoveEndsUptoSaid : Prop := moveEndsUptoRow.holds Tryz.pinned (OpenSpec.upto moveEndsSpec)

/-- 'castellanlaw21.MoveBack', WHERE WHAT IT READS IS OF BULK AT MOST 1048576: true; the input reads as it did. -/
def moveBackUptoRow : OpenClaim := { program := "ytmnheledelnbfaagreat", sum := "b4786e0601cb150ee5e36a4a3561fb89e50dd542c1664f5b1daba6c9815172ae", func := "castellan/castellanlaw21.MoveBack", spec := "moveBack", inPlace := ["slices.overlaps[castellan/place.rack]", "internal/reflectlite.TypeOf"], unfollowed := true, recurses := true, apart := false, narrowed := true }
def MoveBackUptoSaid : Prop := moveBackUptoRow.holds Tryz.pinned (OpenSpec.upto moveBackSpec)

end Rows
end Go.Proofs.YtmnheledelnbfaaGreat
