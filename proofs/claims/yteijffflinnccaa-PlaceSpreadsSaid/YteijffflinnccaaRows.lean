/-
  No cell of these rows narrows 'for every input' (looked for: loops, veiled, ifaces, maps, wideKeys, modest, calm, conditions, laid).
  DERIVED. THE GIVEN ROWS OF THIS SEAT. 11 by the template 'for every input the law returns true; each argument reads behind the call as it read before'; 0 by the template 'total and deterministic' (their statements: YteijffflinnccaaTotals.lean).
  GIVEN WITH THE SEED: the statements are not yours to turn. If you find one false, say at which input.
  Laid BY PROGRAM, IN A SANDBOX (cutbox-rows.mjs): the forced cells as the released guide's own fill.sh prints them over the translation 963df0398d744fb5… (all of the seat's roots in one cut). By AI agents, Wed Nov 11 2026. No macro, syntax, notation, axiom, sorry.
-/
import Derived.Test.YteijffflinnccaaChecked
import GoSem.Claim
import GoSem.ClaimJoined
import GoSem.ClaimMapViews
import Derived.JoinedTies
import Derived.KernelRfl
namespace Go.Proofs.Yteijffflinnccaa
/- THE CELL 'sum', in the pinned program and in every row, IS THE sha256 OF THE DUMP (.gsa) THAT YteijffflinnccaaProg.lean LOADS. Nothing in Lean hashes anything: it is a label: what it is worth is what the hold of that sum in a sandbox is worth. -/
noncomputable def Try.pinned : Pinned := { name := "yteijffflinnccaa", sum := "963df0398d744fb568a37d9d3deb51f2bff7e2c2d11cf5c5707aa0032bbb6a99", checked := Try.checked }
namespace Rows
def none {H : Type} : Left H := { results := [], args := [] }

/-- 'castellanlaw18.ElectLeaves': WHATEVER THE INPUT: true; the input reads as it did. -/
def electLeavesSpec : ChangeSpec := { name := "electLeaves", fn := fun _ => fun
  | [d1, d2] => { results := [.lit (.bool true)], args := [d1, d2] }
  | _ => none }
def electLeavesRow : OpenClaim := { program := "yteijffflinnccaa", sum := "963df0398d744fb568a37d9d3deb51f2bff7e2c2d11cf5c5707aa0032bbb6a99", func := "castellan/castellanlaw18.ElectLeaves", spec := "electLeaves", inPlace := ["internal/reflectlite.TypeOf"], unfollowed := true, recurses := true, apart := false }
def ElectLeavesSaid : Prop := electLeavesRow.holds Try.pinned (OpenSpec.ofChange electLeavesSpec)

/-- ITS FALSE NEIGHBOUR: 'it returns false'. Refute it at one input. -/
def electLeavesWrong : ChangeSpec := { name := "electLeaves", fn := fun _ => fun
  | [d1, d2] => { results := [.lit (.bool false)], args := [d1, d2] }
  | _ => none }
def ElectLeavesWrongFalsely : Prop := electLeavesRow.holds Try.pinned (OpenSpec.ofChange electLeavesWrong)

/-- 'castellanlaw18.ElectComes': WHATEVER THE INPUT: true; the input reads as it did. -/
def electComesSpec : ChangeSpec := { name := "electComes", fn := fun _ => fun
  | [d1, d2] => { results := [.lit (.bool true)], args := [d1, d2] }
  | _ => none }
def electComesRow : OpenClaim := { program := "yteijffflinnccaa", sum := "963df0398d744fb568a37d9d3deb51f2bff7e2c2d11cf5c5707aa0032bbb6a99", func := "castellan/castellanlaw18.ElectComes", spec := "electComes", inPlace := ["internal/reflectlite.TypeOf"], unfollowed := true, recurses := true, apart := false }
def ElectComesSaid : Prop := electComesRow.holds Try.pinned (OpenSpec.ofChange electComesSpec)

/-- ITS FALSE NEIGHBOUR: 'it returns false'. Refute it at one input. -/
def electComesWrong : ChangeSpec := { name := "electComes", fn := fun _ => fun
  | [d1, d2] => { results := [.lit (.bool false)], args := [d1, d2] }
  | _ => none }
def ElectComesWrongFalsely : Prop := electComesRow.holds Try.pinned (OpenSpec.ofChange electComesWrong)

/-- 'castellanlaw18.ElectSyncs': WHATEVER THE INPUT: true; the input reads as it did. -/
def electSyncsSpec : ChangeSpec := { name := "electSyncs", fn := fun _ => fun
  | [d1, d2, d3, d4, d5] => { results := [.lit (.bool true)], args := [d1, d2, d3, d4, d5] }
  | _ => none }
def electSyncsRow : OpenClaim := { program := "yteijffflinnccaa", sum := "963df0398d744fb568a37d9d3deb51f2bff7e2c2d11cf5c5707aa0032bbb6a99", func := "castellan/castellanlaw18.ElectSyncs", spec := "electSyncs", inPlace := ["internal/reflectlite.TypeOf"], unfollowed := true, recurses := true, apart := false }
def ElectSyncsSaid : Prop := electSyncsRow.holds Try.pinned (OpenSpec.ofChange electSyncsSpec)

/-- ITS FALSE NEIGHBOUR: 'it returns false'. Refute it at one input. -/
def electSyncsWrong : ChangeSpec := { name := "electSyncs", fn := fun _ => fun
  | [d1, d2, d3, d4, d5] => { results := [.lit (.bool false)], args := [d1, d2, d3, d4, d5] }
  | _ => none }
def ElectSyncsWrongFalsely : Prop := electSyncsRow.holds Try.pinned (OpenSpec.ofChange electSyncsWrong)

/-- 'castellanlaw17.PlaceRight': WHATEVER THE INPUT: true; the input reads as it did. -/
def placeRightSpec : ChangeSpec := { name := "placeRight", fn := fun _ => fun
  | [d1, d2, d3, d4] => { results := [.lit (.bool true)], args := [d1, d2, d3, d4] }
  | _ => none }
def placeRightRow : OpenClaim := { program := "yteijffflinnccaa", sum := "963df0398d744fb568a37d9d3deb51f2bff7e2c2d11cf5c5707aa0032bbb6a99", func := "castellan/castellanlaw17.PlaceRight", spec := "placeRight", inPlace := ["slices.overlaps[castellan/place.rack]", "internal/reflectlite.TypeOf"], unfollowed := true, recurses := true, apart := false }
def PlaceRightSaid : Prop := placeRightRow.holds Try.pinned (OpenSpec.ofChange placeRightSpec)

/-- ITS FALSE NEIGHBOUR: 'it returns false'. Refute it at one input. -/
def placeRightWrong : ChangeSpec := { name := "placeRight", fn := fun _ => fun
  | [d1, d2, d3, d4] => { results := [.lit (.bool false)], args := [d1, d2, d3, d4] }
  | _ => none }
def PlaceRightWrongFalsely : Prop := placeRightRow.holds Try.pinned (OpenSpec.ofChange placeRightWrong)

/-- 'castellanlaw17.PlaceRacks': WHATEVER THE INPUT: true; the input reads as it did. -/
def placeRacksSpec : ChangeSpec := { name := "placeRacks", fn := fun _ => fun
  | [d1, d2, d3, d4] => { results := [.lit (.bool true)], args := [d1, d2, d3, d4] }
  | _ => none }
def placeRacksRow : OpenClaim := { program := "yteijffflinnccaa", sum := "963df0398d744fb568a37d9d3deb51f2bff7e2c2d11cf5c5707aa0032bbb6a99", func := "castellan/castellanlaw17.PlaceRacks", spec := "placeRacks", inPlace := ["slices.overlaps[castellan/place.rack]", "internal/reflectlite.TypeOf"], unfollowed := true, recurses := true, apart := false }
def PlaceRacksSaid : Prop := placeRacksRow.holds Try.pinned (OpenSpec.ofChange placeRacksSpec)

/-- ITS FALSE NEIGHBOUR: 'it returns false'. Refute it at one input. -/
def placeRacksWrong : ChangeSpec := { name := "placeRacks", fn := fun _ => fun
  | [d1, d2, d3, d4] => { results := [.lit (.bool false)], args := [d1, d2, d3, d4] }
  | _ => none }
def PlaceRacksWrongFalsely : Prop := placeRacksRow.holds Try.pinned (OpenSpec.ofChange placeRacksWrong)

/-- 'castellanlaw17.PlaceSpreads': WHATEVER THE INPUT: true; the input reads as it did. -/
def placeSpreadsSpec : ChangeSpec := { name := "placeSpreads", fn := fun _ => fun
  | [d1, d2, d3, d4] => { results := [.lit (.bool true)], args := [d1, d2, d3, d4] }
  | _ => none }
def placeSpreadsRow : OpenClaim := { program := "yteijffflinnccaa", sum := "963df0398d744fb568a37d9d3deb51f2bff7e2c2d11cf5c5707aa0032bbb6a99", func := "castellan/castellanlaw17.PlaceSpreads", spec := "placeSpreads", inPlace := ["slices.overlaps[castellan/place.rack]", "internal/reflectlite.TypeOf"], unfollowed := true, recurses := true, apart := false }
def PlaceSpreadsSaid : Prop := placeSpreadsRow.holds Try.pinned (OpenSpec.ofChange placeSpreadsSpec)

/-- ITS FALSE NEIGHBOUR: 'it returns false'. Refute it at one input. -/
def placeSpreadsWrong : ChangeSpec := { name := "placeSpreads", fn := fun _ => fun
  | [d1, d2, d3, d4] => { results := [.lit (.bool false)], args := [d1, d2, d3, d4] }
  | _ => none }
def PlaceSpreadsWrongFalsely : Prop := placeSpreadsRow.holds Try.pinned (OpenSpec.ofChange placeSpreadsWrong)

/-- 'castellanlaw24.DeltaTells': WHATEVER THE INPUT: true; the input reads as it did. -/
def deltaTellsSpec : ChangeSpec := { name := "deltaTells", fn := fun _ => fun
  | [d1, d2] => { results := [.lit (.bool true)], args := [d1, d2] }
  | _ => none }
def deltaTellsRow : OpenClaim := { program := "yteijffflinnccaa", sum := "963df0398d744fb568a37d9d3deb51f2bff7e2c2d11cf5c5707aa0032bbb6a99", func := "castellan/castellanlaw24.DeltaTells", spec := "deltaTells", inPlace := ["slices.overlaps[castellan/api.Config]"], unfollowed := true, recurses := true, apart := false }
def DeltaTellsSaid : Prop := deltaTellsRow.holds Try.pinned (OpenSpec.ofChange deltaTellsSpec)

/-- ITS FALSE NEIGHBOUR: 'it returns false'. Refute it at one input. -/
def deltaTellsWrong : ChangeSpec := { name := "deltaTells", fn := fun _ => fun
  | [d1, d2] => { results := [.lit (.bool false)], args := [d1, d2] }
  | _ => none }
def DeltaTellsWrongFalsely : Prop := deltaTellsRow.holds Try.pinned (OpenSpec.ofChange deltaTellsWrong)

/-- 'castellanlaw24.DeltaApplies': WHATEVER THE INPUT: true; the input reads as it did. -/
def deltaAppliesSpec : ChangeSpec := { name := "deltaApplies", fn := fun _ => fun
  | [d1, d2] => { results := [.lit (.bool true)], args := [d1, d2] }
  | _ => none }
def deltaAppliesRow : OpenClaim := { program := "yteijffflinnccaa", sum := "963df0398d744fb568a37d9d3deb51f2bff7e2c2d11cf5c5707aa0032bbb6a99", func := "castellan/castellanlaw24.DeltaApplies", spec := "deltaApplies", inPlace := ["slices.overlaps[castellan/api.Config]"], unfollowed := true, recurses := true, apart := false }
def DeltaAppliesSaid : Prop := deltaAppliesRow.holds Try.pinned (OpenSpec.ofChange deltaAppliesSpec)

/-- ITS FALSE NEIGHBOUR: 'it returns false'. Refute it at one input. -/
def deltaAppliesWrong : ChangeSpec := { name := "deltaApplies", fn := fun _ => fun
  | [d1, d2] => { results := [.lit (.bool false)], args := [d1, d2] }
  | _ => none }
def DeltaAppliesWrongFalsely : Prop := deltaAppliesRow.holds Try.pinned (OpenSpec.ofChange deltaAppliesWrong)

/-- 'castellanlaw24.DeltaAlong': WHATEVER THE INPUT: true; the input reads as it did. -/
def deltaAlongSpec : ChangeSpec := { name := "deltaAlong", fn := fun _ => fun
  | [d1, d2] => { results := [.lit (.bool true)], args := [d1, d2] }
  | _ => none }
def deltaAlongRow : OpenClaim := { program := "yteijffflinnccaa", sum := "963df0398d744fb568a37d9d3deb51f2bff7e2c2d11cf5c5707aa0032bbb6a99", func := "castellan/castellanlaw24.DeltaAlong", spec := "deltaAlong", inPlace := ["slices.overlaps[castellan/api.Config]"], unfollowed := true, recurses := true, apart := false }
def DeltaAlongSaid : Prop := deltaAlongRow.holds Try.pinned (OpenSpec.ofChange deltaAlongSpec)

/-- ITS FALSE NEIGHBOUR: 'it returns false'. Refute it at one input. -/
def deltaAlongWrong : ChangeSpec := { name := "deltaAlong", fn := fun _ => fun
  | [d1, d2] => { results := [.lit (.bool false)], args := [d1, d2] }
  | _ => none }
def DeltaAlongWrongFalsely : Prop := deltaAlongRow.holds Try.pinned (OpenSpec.ofChange deltaAlongWrong)

/-- 'castellanlaw24.DeltaRoles': WHATEVER THE INPUT: true; the input reads as it did. -/
def deltaRolesSpec : ChangeSpec := { name := "deltaRoles", fn := fun _ => fun
  | [d1, d2, d3] => { results := [.lit (.bool true)], args := [d1, d2, d3] }
  | _ => none }
def deltaRolesRow : OpenClaim := { program := "yteijffflinnccaa", sum := "963df0398d744fb568a37d9d3deb51f2bff7e2c2d11cf5c5707aa0032bbb6a99", func := "castellan/castellanlaw24.DeltaRoles", spec := "deltaRoles", inPlace := ["slices.overlaps[castellan/api.Config]"], unfollowed := true, recurses := true, apart := false }
def DeltaRolesSaid : Prop := deltaRolesRow.holds Try.pinned (OpenSpec.ofChange deltaRolesSpec)

/-- ITS FALSE NEIGHBOUR: 'it returns false'. Refute it at one input. -/
def deltaRolesWrong : ChangeSpec := { name := "deltaRoles", fn := fun _ => fun
  | [d1, d2, d3] => { results := [.lit (.bool false)], args := [d1, d2, d3] }
  | _ => none }
def DeltaRolesWrongFalsely : Prop := deltaRolesRow.holds Try.pinned (OpenSpec.ofChange deltaRolesWrong)

/-- 'castellanlaw24.DeltaLeads': WHATEVER THE INPUT: true; the input reads as it did. -/
def deltaLeadsSpec : ChangeSpec := { name := "deltaLeads", fn := fun _ => fun
  | [d1, d2, d3] => { results := [.lit (.bool true)], args := [d1, d2, d3] }
  | _ => none }
def deltaLeadsRow : OpenClaim := { program := "yteijffflinnccaa", sum := "963df0398d744fb568a37d9d3deb51f2bff7e2c2d11cf5c5707aa0032bbb6a99", func := "castellan/castellanlaw24.DeltaLeads", spec := "deltaLeads", inPlace := ["slices.overlaps[castellan/api.Config]"], unfollowed := true, recurses := true, apart := false }
def DeltaLeadsSaid : Prop := deltaLeadsRow.holds Try.pinned (OpenSpec.ofChange deltaLeadsSpec)

/-- ITS FALSE NEIGHBOUR: 'it returns false'. Refute it at one input. -/
def deltaLeadsWrong : ChangeSpec := { name := "deltaLeads", fn := fun _ => fun
  | [d1, d2, d3] => { results := [.lit (.bool false)], args := [d1, d2, d3] }
  | _ => none }
def DeltaLeadsWrongFalsely : Prop := deltaLeadsRow.holds Try.pinned (OpenSpec.ofChange deltaLeadsWrong)

/- THE SECOND FORM. 'bulk': how many values and letters a reading holds, each counted each time it is reached (what is shared counts as often as it is met; a slice's spare places count too). A statement '..UptoSaid' is the law's where the arguments, and the package variables that the reading takes, are together of bulk at most 1048576: NARROWER than '..Said'. Prove '..Said' where nothing that the law and all that it calls make is longer than what came in: it says more and counts as full. Else prove '..UptoSaid'. A law counts once. -/
mutual
def uptoBulk {H : Type} : DataW H → Nat
  | .lit (.string bytes) => bytes.length + 1
  | .lit _ => 1
  | .nil => 1
  | .ptr d => uptoBulk d + 1
  | .slice elems spare => uptoBulkAll elems + uptoBulkAll spare + 1
  | .agg parts => uptoBulkAll parts + 1
  | .iface _ d => uptoBulk d + 1
  | .map entries => uptoBulkEntries entries + 1
  | .held _ => 1
def uptoBulkAll {H : Type} : List (DataW H) → Nat
  | [] => 0
  | d :: r => uptoBulk d + uptoBulkAll r
def uptoBulkEntries {H : Type} : List (Lit × DataW H) → Nat
  | [] => 0
  | x :: r => uptoBulkEntry x + uptoBulkEntries r
def uptoBulkEntry {H : Type} : Lit × DataW H → Nat
  | (.string bytes, d) => bytes.length + uptoBulk d + 1
  | (_, d) => uptoBulk d + 1
 end
def uptoSmall : (H : Type) → List (DataW H) → Bool := fun _ ds => decide (uptoBulkAll ds ≤ 1048576)
def OpenSpec.upto (s : _root_.Go.ChangeSpec) : _root_.Go.OpenSpec := { _root_.Go.OpenSpec.ofChange s with cond := some uptoSmall }

/-- 'castellanlaw18.ElectLeaves', WHERE WHAT IT READS IS OF BULK AT MOST 1048576: true; the input reads as it did. -/
def electLeavesUptoRow : OpenClaim := { program := "yteijffflinnccaa", sum := "963df0398d744fb568a37d9d3deb51f2bff7e2c2d11cf5c5707aa0032bbb6a99", func := "castellan/castellanlaw18.ElectLeaves", spec := "electLeaves", inPlace := ["internal/reflectlite.TypeOf"], unfollowed := true, recurses := true, apart := false, narrowed := true }
def ElectLeavesUptoSaid : Prop := electLeavesUptoRow.holds Try.pinned (OpenSpec.upto electLeavesSpec)

/-- 'castellanlaw18.ElectComes', WHERE WHAT IT READS IS OF BULK AT MOST 1048576: true; the input reads as it did. -/
def electComesUptoRow : OpenClaim := { program := "yteijffflinnccaa", sum := "963df0398d744fb568a37d9d3deb51f2bff7e2c2d11cf5c5707aa0032bbb6a99", func := "castellan/castellanlaw18.ElectComes", spec := "electComes", inPlace := ["internal/reflectlite.TypeOf"], unfollowed := true, recurses := true, apart := false, narrowed := true }
def ElectComesUptoSaid : Prop := electComesUptoRow.holds Try.pinned (OpenSpec.upto electComesSpec)

/-- 'castellanlaw18.ElectSyncs', WHERE WHAT IT READS IS OF BULK AT MOST 1048576: true; the input reads as it did. -/
def electSyncsUptoRow : OpenClaim := { program := "yteijffflinnccaa", sum := "963df0398d744fb568a37d9d3deb51f2bff7e2c2d11cf5c5707aa0032bbb6a99", func := "castellan/castellanlaw18.ElectSyncs", spec := "electSyncs", inPlace := ["internal/reflectlite.TypeOf"], unfollowed := true, recurses := true, apart := false, narrowed := true }
def ElectSyncsUptoSaid : Prop := electSyncsUptoRow.holds Try.pinned (OpenSpec.upto electSyncsSpec)

/-- 'castellanlaw17.PlaceRight', WHERE WHAT IT READS IS OF BULK AT MOST 1048576: true; the input reads as it did. -/
def placeRightUptoRow : OpenClaim := { program := "yteijffflinnccaa", sum := "963df0398d744fb568a37d9d3deb51f2bff7e2c2d11cf5c5707aa0032bbb6a99", func := "castellan/castellanlaw17.PlaceRight", spec := "placeRight", inPlace := ["slices.overlaps[castellan/place.rack]", "internal/reflectlite.TypeOf"], unfollowed := true, recurses := true, apart := false, narrowed := true }
def PlaceRightUptoSaid : Prop := placeRightUptoRow.holds Try.pinned (OpenSpec.upto placeRightSpec)

/-- 'castellanlaw17.PlaceRacks', WHERE WHAT IT READS IS OF BULK AT MOST 1048576: true; the input reads as it did. -/
def placeRacksUptoRow : OpenClaim := { program := "yteijffflinnccaa", sum := "963df0398d744fb568a37d9d3deb51f2bff7e2c2d11cf5c5707aa0032bbb6a99", func := "castellan/castellanlaw17.PlaceRacks", spec := "placeRacks", inPlace := ["slices.overlaps[castellan/place.rack]", "internal/reflectlite.TypeOf"], unfollowed := true, recurses := true, apart := false, narrowed := true }
def PlaceRacksUptoSaid : Prop := placeRacksUptoRow.holds Try.pinned (OpenSpec.upto placeRacksSpec)

/-- 'castellanlaw17.PlaceSpreads', WHERE WHAT IT READS IS OF BULK AT MOST 1048576: true; the input reads as it did. -/
def placeSpreadsUptoRow : OpenClaim := { program := "yteijffflinnccaa", sum := "963df0398d744fb568a37d9d3deb51f2bff7e2c2d11cf5c5707aa0032bbb6a99", func := "castellan/castellanlaw17.PlaceSpreads", spec := "placeSpreads", inPlace := ["slices.overlaps[castellan/place.rack]", "internal/reflectlite.TypeOf"], unfollowed := true, recurses := true, apart := false, narrowed := true }
def PlaceSpreadsUptoSaid : Prop := placeSpreadsUptoRow.holds Try.pinned (OpenSpec.upto placeSpreadsSpec)

/-- 'castellanlaw24.DeltaTells', WHERE WHAT IT READS IS OF BULK AT MOST 1048576: true; the input reads as it did. -/
def deltaTellsUptoRow : OpenClaim := { program := "yteijffflinnccaa", sum := "963df0398d744fb568a37d9d3deb51f2bff7e2c2d11cf5c5707aa0032bbb6a99", func := "castellan/castellanlaw24.DeltaTells", spec := "deltaTells", inPlace := ["slices.overlaps[castellan/api.Config]"], unfollowed := true, recurses := true, apart := false, narrowed := true }
def DeltaTellsUptoSaid : Prop := deltaTellsUptoRow.holds Try.pinned (OpenSpec.upto deltaTellsSpec)

/-- 'castellanlaw24.DeltaApplies', WHERE WHAT IT READS IS OF BULK AT MOST 1048576: true; the input reads as it did. -/
def deltaAppliesUptoRow : OpenClaim := { program := "yteijffflinnccaa", sum := "963df0398d744fb568a37d9d3deb51f2bff7e2c2d11cf5c5707aa0032bbb6a99", func := "castellan/castellanlaw24.DeltaApplies", spec := "deltaApplies", inPlace := ["slices.overlaps[castellan/api.Config]"], unfollowed := true, recurses := true, apart := false, narrowed := true }
def DeltaAppliesUptoSaid : Prop := deltaAppliesUptoRow.holds Try.pinned (OpenSpec.upto deltaAppliesSpec)

/-- 'castellanlaw24.DeltaAlong', WHERE WHAT IT READS IS OF BULK AT MOST 1048576: true; the input reads as it did. -/
def deltaAlongUptoRow : OpenClaim := { program := "yteijffflinnccaa", sum := "963df0398d744fb568a37d9d3deb51f2bff7e2c2d11cf5c5707aa0032bbb6a99", func := "castellan/castellanlaw24.DeltaAlong", spec := "deltaAlong", inPlace := ["slices.overlaps[castellan/api.Config]"], unfollowed := true, recurses := true, apart := false, narrowed := true }
def DeltaAlongUptoSaid : Prop := deltaAlongUptoRow.holds Try.pinned (OpenSpec.upto deltaAlongSpec)

/-- 'castellanlaw24.DeltaRoles', WHERE WHAT IT READS IS OF BULK AT MOST 1048576: true; the input reads as it did. -/
def deltaRolesUptoRow : OpenClaim := { program := "yteijffflinnccaa", sum := "963df0398d744fb568a37d9d3deb51f2bff7e2c2d11cf5c5707aa0032bbb6a99", func := "castellan/castellanlaw24.DeltaRoles", spec := "deltaRoles", inPlace := ["slices.overlaps[castellan/api.Config]"], unfollowed := true, recurses := true, apart := false, narrowed := true }
def DeltaRolesUptoSaid : Prop := deltaRolesUptoRow.holds Try.pinned (OpenSpec.upto deltaRolesSpec)

/-- 'castellanlaw24.DeltaLeads', WHERE WHAT IT READS IS OF BULK AT MOST 1048576: true; the input reads as it did. -/
def deltaLeadsUptoRow : OpenClaim := { program := "yteijffflinnccaa", sum := "963df0398d744fb568a37d9d3deb51f2bff7e2c2d11cf5c5707aa0032bbb6a99", func := "castellan/castellanlaw24.DeltaLeads", spec := "deltaLeads", inPlace := ["slices.overlaps[castellan/api.Config]"], unfollowed := true, recurses := true, apart := false, narrowed := true }
def DeltaLeadsUptoSaid : Prop := deltaLeadsUptoRow.holds Try.pinned (OpenSpec.upto deltaLeadsSpec)

end Rows
end Go.Proofs.Yteijffflinnccaa
