/- Part of the proof of a law of moving. -/
import Derived.Test.YtmnheledelnbfaaGreatQE3
import Derived.Test.YtmnheledelnbfaaGreatQFz
set_option linter.all false
set_option maxRecDepth 100000
set_option maxHeartbeats 0
namespace Go.Am
open Go
noncomputable section
def c31 : SC := (.seq (.reg [⟨some 5, .box 52 (.tmp 2), none, []⟩,
  ⟨some 6, .alloc 73, none, []⟩] [0, 1, 5, 6]) (.seq (.reg [⟨some 7, .load 52 (.tmp 5), none, []⟩,
  ⟨some 8, .call { callee := .value (.func 42), args := #[.tmp 7], argTypes := #[52] }, none, []⟩,
  ⟨none, .store 52 (.tmp 5) (.tmp 8), none, []⟩] [0, 1, 5, 6]) (.seq (.reg [⟨some 9, .move (.tmp 0), none, []⟩,
  ⟨some 10, .move (.tmp 1), none, []⟩,
  ⟨some 11, .fieldAddr 52 (.tmp 5) 3, none, []⟩,
  ⟨some 12, .load 3 (.tmp 11), none, []⟩,
  ⟨some 13, .fieldAddr 52 (.tmp 5) 2, none, []⟩,
  ⟨some 14, .load 3 (.tmp 13), none, []⟩,
  ⟨some 15, .fieldAddr 52 (.tmp 5) 0, none, []⟩,
  ⟨some 16, .load 23 (.tmp 15), none, []⟩,
  ⟨some 17, .fieldAddr 52 (.tmp 5) 1, none, []⟩,
  ⟨some 18, .load 23 (.tmp 17), none, []⟩,
  ⟨some 19, .fieldAddr 52 (.tmp 5) 4, none, []⟩,
  ⟨some 20, .load 23 (.tmp 19), none, []⟩,
  ⟨some 21, .fieldAddr 52 (.tmp 5) 5, none, []⟩,
  ⟨some 22, .load 23 (.tmp 21), none, []⟩,
  ⟨some 23, .build 73 #[(0, .const (.int .i64 9)), (3, .tmp 9), (4, .tmp 10), (2, .tmp 12), (5, .tmp 14), (14, .tmp 16), (15, .tmp 18), (16, .tmp 20), (17, .tmp 22)], none, []⟩,
  ⟨none, .store 73 (.tmp 6) (.tmp 23), none, []⟩] [6]) .ret)))
theorem s31 : TextK Proofs.Tryz.prog 0 31 24 [ResultVar.cell 6 73] c31 := .mk' Proofs.Tryz.f31 _ (by kernel_rfl) rfl rfl rfl (by kernel_rfl) rfl (by kernel_rfl)
theorem change_ok (t : Int) (n : Nat) (p : Part) (h : p.Small) : ACall pg 31 [I t, I n, encP p] (encR (change t n p)) := by
  refine s31.call mo (by simp) fun hxs => ?_
  clear hxs
  unfold c31
  iterate 2 (
      skip
      ((with_reducible refine awReg fun K hok hK => ?_); clear hok; (try simp (maxSteps := 10000000) (disch := first | omega | simp) []); (repeat' first | (with_reducible refine hK _ (by simp) ?_) | ((with_reducible refine callF' fun K2 hK2 => ?_); (try simp (maxSteps := 10000000) (disch := first | omega | simp) []); (refine hK2 _ _ _ (alone_ok p h) fun _ => ?_); clear hK2 K2; (try simp (maxSteps := 10000000) (disch := first | omega | simp) []))) <;> clear hK K))
  refine awWk (ofA [(6, .p (.own [I 0, I 0, I 0, I 0, I 0, I 0, I 0, I 0, I 0, B false, St ⟨#[]⟩, St ⟨#[]⟩, St ⟨#[]⟩, St ⟨#[]⟩, .uq [], .uq [], .uq [], .uq []])), (5, .p (.own (encP p).cells)), (1, .p (I n)), (0, .p (I t))]) ((Wk.frzPart (r := 5) rfl).trans (Wk.ofA (by simp))) ?_
  repeat' first | (with_reducible first | refine awRet ?_) | ((with_reducible refine awReg fun K hok hK => ?_); clear hok; (try simp (maxSteps := 10000000) (disch := first | omega | simp) []); (repeat' first | (with_reducible refine hK _ (by simp) ?_)) <;> clear hK K) | ((with_reducible refine awCond fun A B hA hB => ?_); simp (maxSteps := 10000000) (disch := first | omega | simp) []; (first | refine ⟨fun h => hA ?_, fun h => hB ?_⟩ | refine hA ?_ | refine hB ?_) <;> (clear hA hB A B; (try (exfalso; omega))))
  (refine aEnR (aRes [true] fun K hK => ?_); simp (maxSteps := 10000000) (disch := first | omega | simp) [change]; refine hK _ ?_ (by simp); clear hK; first | done | (simp (maxSteps := 10000000) (disch := first | omega | simp) [change, *]; done) | (simp (maxSteps := 10000000) (disch := first | omega | simp) [change, *]; omega) | (simp_all [change]; done) | (simp_all [change]; omega))
end
end Go.Am
