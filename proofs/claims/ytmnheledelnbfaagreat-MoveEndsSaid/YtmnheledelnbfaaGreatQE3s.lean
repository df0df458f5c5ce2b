/- Part of the proof of a law of moving. -/
import Derived.Test.YtmnheledelnbfaaGreatQE3
set_option linter.all false
set_option maxRecDepth 100000
set_option maxHeartbeats 0
namespace Go.Am
open Go
noncomputable section
def c54 : SC := (.seq (.reg [⟨some 2, .box 52 (.tmp 0), none, []⟩,
  ⟨some 3, .box 52 (.tmp 1), none, []⟩,
  ⟨some 4, .assign (.const (.bool false)), none, []⟩] [2, 3]) (.seq (.reg [⟨some 5, .fieldAddr 52 (.tmp 2) 2, none, []⟩,
  ⟨some 6, .load 3 (.tmp 5), none, []⟩,
  ⟨some 7, .fieldAddr 52 (.tmp 3) 2, none, []⟩,
  ⟨some 8, .load 3 (.tmp 7), none, []⟩,
  ⟨some 9, .binOp .eql 3 (.tmp 6) (.tmp 8) 3, none, []⟩,
  ⟨some 10, .move (.tmp 9), none, []⟩,
  ⟨some 11, .fieldAddr 52 (.tmp 2) 3, (some (10, true)), []⟩,
  ⟨some 12, .load 3 (.tmp 11), (some (10, true)), []⟩,
  ⟨some 13, .fieldAddr 52 (.tmp 3) 3, (some (10, true)), []⟩,
  ⟨some 14, .load 3 (.tmp 13), (some (10, true)), []⟩,
  ⟨some 15, .binOp .eql 3 (.tmp 12) (.tmp 14) 3, (some (10, true)), []⟩,
  ⟨some 16, .pick (.tmp 10) (.tmp 15) (.const (.bool false)), none, []⟩,
  ⟨some 17, .move (.tmp 16), none, []⟩,
  ⟨some 18, .fieldAddr 52 (.tmp 2) 0, (some (17, true)), []⟩,
  ⟨some 19, .load 23 (.tmp 18), (some (17, true)), []⟩,
  ⟨some 20, .fieldAddr 52 (.tmp 3) 0, (some (17, true)), []⟩,
  ⟨some 21, .load 23 (.tmp 20), (some (17, true)), []⟩,
  ⟨some 22, .call { callee := .value (.func 41), args := #[.tmp 19, .tmp 21], argTypes := #[23, 23] }, (some (17, true)), []⟩,
  ⟨some 23, .pick (.tmp 17) (.tmp 22) (.const (.bool false)), none, []⟩,
  ⟨some 24, .move (.tmp 23), none, []⟩,
  ⟨some 25, .fieldAddr 52 (.tmp 2) 1, (some (24, true)), []⟩,
  ⟨some 26, .load 23 (.tmp 25), (some (24, true)), []⟩,
  ⟨some 27, .fieldAddr 52 (.tmp 3) 1, (some (24, true)), []⟩,
  ⟨some 28, .load 23 (.tmp 27), (some (24, true)), []⟩,
  ⟨some 29, .call { callee := .value (.func 41), args := #[.tmp 26, .tmp 28], argTypes := #[23, 23] }, (some (24, true)), []⟩,
  ⟨some 30, .pick (.tmp 24) (.tmp 29) (.const (.bool false)), none, []⟩,
  ⟨some 31, .move (.tmp 30), none, []⟩,
  ⟨some 32, .fieldAddr 52 (.tmp 2) 4, (some (31, true)), []⟩,
  ⟨some 33, .load 23 (.tmp 32), (some (31, true)), []⟩,
  ⟨some 34, .fieldAddr 52 (.tmp 3) 4, (some (31, true)), []⟩,
  ⟨some 35, .load 23 (.tmp 34), (some (31, true)), []⟩,
  ⟨some 36, .call { callee := .value (.func 41), args := #[.tmp 33, .tmp 35], argTypes := #[23, 23] }, (some (31, true)), []⟩,
  ⟨some 37, .pick (.tmp 31) (.tmp 36) (.const (.bool false)), none, []⟩,
  ⟨some 38, .move (.tmp 37), none, []⟩,
  ⟨some 39, .fieldAddr 52 (.tmp 2) 5, (some (38, true)), []⟩,
  ⟨some 40, .load 23 (.tmp 39), (some (38, true)), []⟩,
  ⟨some 41, .fieldAddr 52 (.tmp 3) 5, (some (38, true)), []⟩,
  ⟨some 42, .load 23 (.tmp 41), (some (38, true)), []⟩,
  ⟨some 43, .call { callee := .value (.func 41), args := #[.tmp 40, .tmp 42], argTypes := #[23, 23] }, (some (38, true)), []⟩,
  ⟨some 44, .pick (.tmp 38) (.tmp 43) (.const (.bool false)), none, []⟩,
  ⟨some 4, .assign (.tmp 44), none, []⟩] [4, 9, 10, 15, 16, 17, 22, 23, 24, 29, 30, 31, 36, 37, 38, 43, 44]) .ret))
theorem s54 : TextK Proofs.Tryz.prog 0 54 45 [ResultVar.tmp 4] c54 := .mk' Proofs.Tryz.f54 _ (by kernel_rfl) rfl rfl rfl (by kernel_rfl) rfl (by kernel_rfl)
theorem same_ok (a b : Part) (ha : a.Small) (hb : b.Small) : ACall pg 54 [encP a, encP b] (B (a.same b)) := by
  refine s54.call mo (by simp) fun hxs => ?_
  clear hxs
  unfold c54
  repeat' first | (with_reducible first | refine awRet ?_) | ((with_reducible refine awReg fun K hok hK => ?_); clear hok; (try simp (maxSteps := 10000000) (disch := first | omega | simp) []); (repeat' first | (with_reducible refine hK _ (by simp) ?_) | ((with_reducible refine gdT (fun h => ?_) (fun h => ?_)) <;> (simp (maxSteps := 10000000) (disch := first | omega | simp) [h]; (try simp at h); (try (exfalso; omega)))) | ((with_reducible refine callS' fun K2 hK2 => ?_); (try simp (maxSteps := 10000000) (disch := first | omega | simp) []); (first | refine hK2 _ _ (equal_ok a.ids b.ids ha.ids hb.ids) rfl fun hk9 => ?_ | refine hK2 _ _ (equal_ok a.isr b.isr ha.isr hb.isr) rfl fun hk9 => ?_ | refine hK2 _ _ (equal_ok a.add b.add ha.add hb.add) rfl fun hk9 => ?_ | refine hK2 _ _ (equal_ok a.drop b.drop ha.drop hb.drop) rfl fun hk9 => ?_); clear hk9; clear hK2 K2; (try simp (maxSteps := 10000000) (disch := first | omega | simp) []))) <;> clear hK K) | ((with_reducible refine awCond fun A B hA hB => ?_); simp (maxSteps := 10000000) (disch := first | omega | simp) []; (first | refine ⟨fun h => hA ?_, fun h => hB ?_⟩ | refine hA ?_ | refine hB ?_) <;> (clear hA hB A B; (try (exfalso; omega))))
  all_goals (refine aEnR (aRes [] fun K hK => ?_); simp (maxSteps := 10000000) (disch := first | omega | simp) [Part.same]; refine hK _ ?_ (by simp); clear hK; first | done | (simp (maxSteps := 10000000) (disch := first | omega | simp) [Part.same, *]; done) | (simp (maxSteps := 10000000) (disch := first | omega | simp) [Part.same, *]; omega) | (simp_all [Part.same]; done) | (simp_all [Part.same]; omega))
end
end Go.Am
