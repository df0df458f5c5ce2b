/- Part of the proof of a law of moving. -/
import Derived.Test.YtmnheledelnbfaaGreatQAA
import Derived.Test.YtmnheledelnbfaaGreatQPV
set_option linter.all false
set_option maxRecDepth 100000
set_option maxHeartbeats 0
namespace Go.Am
open Go
noncomputable section
def encSel : Option (Int × Nat × Part) → V
  | some x => .tup [I x.1, I x.2.1, encP x.2.2, B true]
  | none => .tup [I 0, I 0, encP zP, B false]
@[simp] theorem encSel_some (a : Int) (b : Nat) (p : Part) : encSel (some (a, b, p)) = .tup [I a, I b, encP p, B true] := rfl
@[simp] theorem encSel_none : encSel none = .tup [I 0, I 0, encP zP, B false] := rfl
theorem at_mod' (n : Int) (k : Nat) (hk : 0 < k) (hk2 : k ≤ 1000000) : ∃ j : Nat, j < k ∧ IntKind.i64.wrap ((IntKind.u64.wrap n).tmod (k : Int)) = j := by
  have h0 : 0 ≤ IntKind.u64.wrap n := by simp [IntKind.wrap, IntKind.signed, IntKind.bits]; omega
  obtain ⟨a, ha⟩ := Int.eq_ofNat_of_zero_le h0
  rw [ha]
  refine ⟨a % k, Nat.mod_lt _ hk, ?_⟩
  have : (a : Int).tmod (k : Int) = ((a % k : Nat) : Int) := rfl
  rw [this, i64_wrap]
  have := Nat.mod_lt a hk
  omega
end
end Go.Am
