/- Part of the proof of a law of moving. -/
import Derived.Test.YtmnheledelnbfaaGreatDoorQAA
import Derived.Test.YtmnheledelnbfaaGreatDoorQPV
set_option linter.all false
section
set_option maxRecDepth 100000
set_option maxHeartbeats 0
namespace Go.Am
open Go
noncomputable section
def encSel : Option (Int × Nat × Part) → V
  | some x => .tup [I x.1, I x.2.1, encP x.2.2, B true]
  | none => .tup [I 0, I 0, encP zP, B false]
@[simp] theorem encSel_some (a : Int) (b : Nat) (p : Part) : encSel (some (a, b, p)) = .tup [I a, I b, encP p, B true] := rfl
@[simp] theorem encSel_none : encSel none = .tup [I 0, I 0, encP zP, B false] := rfl
theorem at_mod' (n : Int) (k : Nat) (hk : 0 < k) (hk2 : k ≤ 1000000) : ∃ j : Nat, j < k ∧ IntKind.i64.wrap ((IntKind.u64.wrap n).tmod (k : Int)) = j := by
  have h0 : 0 ≤ IntKind.u64.wrap n := by simp [IntKind.wrap, IntKind.signed, IntKind.bits]; omega
  obtain ⟨a, ha⟩ := Int.eq_ofNat_of_zero_le h0
  rw [ha]
  refine ⟨a % k, Nat.mod_lt _ hk, ?_⟩
  have : (a : Int).tmod (k : Int) = ((a % k : Nat) : Int) := rfl
  rw [this, i64_wrap]
  have := Nat.mod_lt a hk
  omega
end
end Go.Am
end
section
set_option maxRecDepth 100000
set_option maxHeartbeats 0
namespace Go.Am
open Go
noncomputable section
def c53 : SC := (.seq (.reg [oD 0 (.assign (.const (.slice none 0 0)))] []) (.seq (.reg [oD 1 (.build 76 #[(0,.const (.int .i64 2)),(1,.const (.int .i64 1)),(2,.const (.int .i64 1)),(13,.const (.string ⟨#[97]⟩))]),oD 2 (.build 76 #[(0,.const (.int .i64 4)),(1,.const (.int .i64 1)),(2,.const (.int .i64 1))]),oD 3 (.build 76 #[(0,.const (.int .i64 2)),(1,.const (.int .i64 2)),(2,.const (.int .i64 1)),(13,.const (.string ⟨#[98]⟩))]),oD 4 (.build 76 #[(0,.const (.int .i64 4)),(1,.const (.int .i64 2)),(2,.const (.int .i64 1))]),oD 5 (.build 76 #[(0,.const (.int .i64 7)),(3,.const (.int .i64 1)),(10,.const (.string ⟨#[116]⟩))]),oD 6 (.buildSlice 23 2 #[(0,.const (.int .i64 1)),(1,.const (.int .i64 2))]),oD 7 (.buildSlice 23 2 #[(0,.const (.int .i64 1)),(1,.const (.int .i64 2))]),oD 8 (.build 76 #[(0,.const (.int .i64 8)),(3,.const (.int .i64 1)),(14,.tmp 6),(15,.tmp 7),(5,.const (.int .i64 1))]),oD 9 (.buildSlice 22 6 #[(0,.tmp 1),(1,.tmp 2),(2,.tmp 3),(3,.tmp 4),(4,.tmp 5),(5,.tmp 8)]),oG 0 9] [0,9]) .ret))
theorem s53 : TextK Proofs.Tryz.prog 0 53 10 [ResultVar.tmp 0] c53 := .mk' Proofs.Tryz.f53 _ (by kernel_rfl) rfl rfl rfl (by kernel_rfl) rfl (by kernel_rfl)
end
end Go.Am
end
