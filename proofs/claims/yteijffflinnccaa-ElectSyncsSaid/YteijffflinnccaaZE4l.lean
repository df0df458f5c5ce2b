/- Part of the proof of ElectLeaves. -/
import Derived.Test.YteijffflinnccaaZDe
import Derived.Test.YteijffflinnccaaZE3p
import Derived.Test.YteijffflinnccaaZE3w
import Derived.Test.YteijffflinnccaaZFz
import Derived.Test.YteijffflinnccaaZPU
set_option linter.all false
set_option maxRecDepth 100000
set_option maxHeartbeats 0
namespace Go.Am
open Go
noncomputable section
def c51 : SC := (.seq (.reg [⟨some 3, .box 30 (.tmp 0), none, []⟩,
  ⟨some 4, .box 48 (.tmp 1), none, []⟩,
  ⟨some 6, .alloc 48, none, []⟩] [2, 3, 4, 6]) (.seq (.reg [⟨some 9, .load 48 (.tmp 4), none, []⟩,
  ⟨some 10, .call { callee := .value (.func 72), args := #[.tmp 9], argTypes := #[48] }, none, []⟩,
  ⟨some 7, .alloc 48, none, []⟩,
  ⟨none, .store 48 (.tmp 7) (.tmp 10), none, []⟩] [2, 3, 4, 6, 7]) (.seq (.reg [⟨some 11, .fieldAddr 48 (.tmp 7) 2, none, []⟩,
  ⟨some 12, .load 3 (.tmp 11), none, []⟩,
  ⟨some 13, .move (.tmp 2), none, []⟩,
  ⟨some 14, .binOp .eql 3 (.tmp 12) (.tmp 13) 3, none, []⟩] [2, 3, 4, 6, 7, 14]) (.seq (.cond (.tmp 14) (.seq (.reg [⟨some 15, .load 48 (.tmp 7), none, [16, 17, 18, 19]⟩,
  ⟨some 16, .load 30 (.tmp 3), none, [15, 17, 18]⟩,
  ⟨some 17, .load 48 (.tmp 4), none, [15, 16, 18]⟩,
  ⟨some 18, .move (.tmp 2), none, [15, 16, 17]⟩,
  ⟨some 19, .call { callee := .value (.func 54), args := #[.tmp 16, .tmp 17, .tmp 18], argTypes := #[30, 48, 3] }, none, [15]⟩,
  ⟨some 20, .call { callee := .value (.func 114), args := #[.tmp 15, .tmp 19], argTypes := #[48, 3] }, none, []⟩,
  ⟨none, .store 48 (.tmp 7) (.tmp 20), none, []⟩] [2, 6, 7]) .skip) .skip) (.seq (.reg [⟨some 21, .fieldAddr 48 (.tmp 7) 1, none, []⟩,
  ⟨some 22, .load 41 (.tmp 21), none, []⟩,
  ⟨some 23, .move (.tmp 2), none, []⟩,
  ⟨some 24, .call { callee := .value (.func 115), args := #[.tmp 22, .tmp 23], argTypes := #[41, 3] }, none, []⟩,
  ⟨some 8, .assign (.tmp 24), none, []⟩] [6, 7, 8, 24]) (.seq (.reg [⟨some 25, .move (.tmp 8), none, []⟩,
  ⟨some 26, .binOp .geq 3 (.tmp 25) (.const (.int .i64 0)) 3, none, []⟩,
  ⟨some 27, .move (.tmp 26), none, []⟩,
  ⟨some 28, .fieldAddr 48 (.tmp 7) 1, (some (27, true)), []⟩,
  ⟨some 29, .load 41 (.tmp 28), (some (27, true)), []⟩,
  ⟨some 30, .call { callee := .builtin .len, args := #[.tmp 29], argTypes := #[41] }, (some (27, true)), []⟩,
  ⟨some 31, .binOp .gtr 3 (.tmp 30) (.const (.int .i64 1)) 3, (some (27, true)), []⟩,
  ⟨some 32, .pick (.tmp 27) (.tmp 31) (.const (.bool false)), none, []⟩,
  ⟨some 33, .move (.tmp 32), none, []⟩,
  ⟨some 34, .fieldAddr 48 (.tmp 7) 2, (some (33, true)), []⟩,
  ⟨some 35, .load 3 (.tmp 34), (some (33, true)), []⟩,
  ⟨some 36, .binOp .neq 3 (.tmp 35) (.const (.int .i64 0)) 3, (some (33, true)), []⟩,
  ⟨some 37, .pick (.tmp 33) (.tmp 36) (.const (.bool false)), none, []⟩] [6, 7, 8, 24, 26, 27, 31, 32, 33, 36, 37]) (.seq (.cond (.tmp 37) (.seq (.reg [⟨some 38, .fieldAddr 48 (.tmp 7) 1, none, []⟩,
  ⟨some 39, .load 41 (.tmp 38), none, []⟩,
  ⟨some 40, .move (.tmp 8), none, []⟩,
  ⟨some 41, .move (.tmp 8), none, []⟩,
  ⟨some 42, .binOp .add 3 (.tmp 41) (.const (.int .i64 1)) 3, none, []⟩,
  ⟨some 43, .call { callee := .value (.func 116), args := #[.tmp 39, .tmp 40, .tmp 42], argTypes := #[41, 3, 3] }, none, []⟩,
  ⟨some 44, .fieldAddr 48 (.tmp 7) 1, none, []⟩,
  ⟨none, .store 41 (.tmp 44) (.tmp 43), none, []⟩] [6, 7]) .skip) .skip) (.seq (.reg [⟨some 45, .load 48 (.tmp 7), none, []⟩,
  ⟨none, .store 48 (.tmp 6) (.tmp 45), none, []⟩] [6]) .ret))))))))
theorem s51 : TextK Proofs.Try.prog 0 51 46 [ResultVar.cell 6 48] c51 := .mk' Proofs.Try.f51 _ (by kernel_rfl) rfl rfl rfl (by kernel_rfl) rfl (by kernel_rfl)
theorem lose_ok (m : Image) (p : Part) (id : Int) (hbk : m.Brk) (hp : p.Small) (hb : ∀ n ∈ p.ids, big62 n) (he : 0 ≤ p.epoch ∧ p.epoch ≤ 1000000) : ACall pg 51 [encM m, encP p, I id] (encP (m.lose p id)) := by
  refine s51.call mo (by simp) fun hxs => ?_
  clear hxs
  unfold c51
  by_cases hmem : id ∈ p.isr
  · obtain ⟨k, hk, hke, hkd⟩ := idxI_at hmem
    have hdel := delete_ok p.isr k hk hp.isr
    rw [hkd] at hdel
    have hpi := hp.isr
    repeat' first
        | (with_reducible first | refine thN ?_ | refine thR ?_ | refine thE ?_ | refine inN ?_ | refine inR ?_ | refine inH ?_ | refine fF ?_ | refine fS ?_ | refine fR ?_ | refine fQ ?_ | refine fC ?_ | refine fB ?_ | refine fL ?_ | refine fE ?_ | refine fT ?_ | refine awBlock ?_ | refine awExit ?_ | refine awRet ?_ | refine awSkip ?_ | refine inM (by decide) ?_)
        | ((with_reducible refine awReg fun K hok hK => ?_); clear hok; (try simp (maxSteps := 10000000) (disch := first | omega | simp) [with_isr, hke]); (repeat' first
            | (with_reducible refine hK _ (by simp) ?_)
            | ((with_reducible refine gdT (fun h => ?_) (fun h => ?_)) <;> (simp (maxSteps := 10000000) (disch := first | omega | simp) [h, with_isr, hke]; (try simp at h); (try (exfalso; omega))))
            | ((with_reducible refine gdF (fun h => ?_) (fun h => ?_)) <;> (simp (maxSteps := 10000000) (disch := first | omega | simp) [h, with_isr, hke]; (try simp at h); (try (exfalso; omega))))
            | ((with_reducible refine callS' fun K2 hK2 => ?_); (try simp (maxSteps := 10000000) (disch := first | omega | simp) [with_isr, hke]); (first | (refine hK2 _ _ (alone_ok p hp) rfl fun hk9 => ?_; clear hk9) | (refine hK2 _ _ (chooseP_ok m p id hbk hp hb) rfl fun hk9 => ?_; clear hk9) | (refine hK2 _ _ (index_ok p.isr id hp.isr) rfl fun hk9 => ?_; clear hk9) | (refine hK2 _ _ (hdel) rfl fun hk9 => ?_; clear hk9)); clear hK2 K2; (try simp (maxSteps := 10000000) (disch := first | omega | simp) [with_isr, hke]))
            | ((with_reducible refine callF' fun K2 hK2 => ?_); (try simp (maxSteps := 10000000) (disch := first | omega | simp) [with_isr, hke]); (first | refine hK2 _ _ _ (alone_ok p hp) fun _ => ?_ | refine hK2 _ _ _ (chooseP_ok m p id hbk hp hb) fun _ => ?_ | refine hK2 _ _ _ (index_ok p.isr id hp.isr) fun _ => ?_ | refine hK2 _ _ _ (hdel) fun _ => ?_); clear hK2 K2; (try simp (maxSteps := 10000000) (disch := first | omega | simp) [with_isr, hke]))
            | ((with_reducible refine sideS' fun K2 hK2 => ?_); (try simp (maxSteps := 10000000) (disch := first | omega | simp) [with_isr, hke]); (first | refine hK2 _ _ (alone_ok p hp) rfl ?_ | refine hK2 _ _ (chooseP_ok m p id hbk hp hb) rfl ?_ | refine hK2 _ _ (index_ok p.isr id hp.isr) rfl ?_ | refine hK2 _ _ (hdel) rfl ?_); clear hK2 K2; (try simp (maxSteps := 10000000) (disch := first | omega | simp) [with_isr, hke]))
            | ((with_reducible refine sideF' fun K2 hK2 => ?_); (try simp (maxSteps := 10000000) (disch := first | omega | simp) [with_isr, hke]); (first | refine hK2 _ _ _ (alone_ok p hp) (by simp) ?_ | refine hK2 _ _ _ (chooseP_ok m p id hbk hp hb) (by simp) ?_ | refine hK2 _ _ _ (index_ok p.isr id hp.isr) (by simp) ?_ | refine hK2 _ _ _ (hdel) (by simp) ?_); clear hK2 K2; (try simp (maxSteps := 10000000) (disch := first | omega | simp) [with_isr, hke]))
            | ((with_reducible refine callT' rfl fun K2 hK2 => ?_); (try simp (maxSteps := 10000000) (disch := first | omega | simp) [with_isr, hke]); (first | refine hK2 _ _ _ _ _ (with_ok p (m.chooseP p id) he) fun _ => ?_ | refine hK2 _ _ _ _ _ (hdel) fun _ => ?_); clear hK2 K2; (try simp (maxSteps := 10000000) (disch := first | omega | simp) [with_isr, hke]))
            | ((with_reducible refine callM' rfl fun K2 hK2 => ?_); (try simp (maxSteps := 10000000) (disch := first | omega | simp) [with_isr, hke]); (first | refine hK2 _ _ _ _ _ _ _ (with_ok p (m.chooseP p id) he) rfl fun _ _ => ?_ | refine hK2 _ _ _ _ _ _ _ (hdel) rfl fun _ _ => ?_); clear hK2 K2; (try simp (maxSteps := 10000000) (disch := first | omega | simp) [with_isr, hke]))
            | ((with_reducible refine sideSt' fun K2 hK2 => ?_); (try simp (maxSteps := 10000000) (disch := first | omega | simp) [with_isr, hke]); refine hK2 _ ?_; clear hK2 K2; (try simp (maxSteps := 10000000) (disch := first | omega | simp) [with_isr, hke]))
            | ((with_reducible refine gdU ?_); (try simp (maxSteps := 10000000) (disch := first | omega | simp) [with_isr, hke]))
            | ((with_reducible refine sideQ' ?_ ?_ fun K2 hK2 => ?_); exact rfl; exact rfl; (try simp (maxSteps := 10000000) (disch := first | omega | simp) [with_isr, hke]); with_reducible refine hK2 _ _ ?_; clear hK2 K2; (try simp (maxSteps := 10000000) (disch := first | omega | simp) [with_isr, hke]))
            | ((with_reducible refine side' ?_ fun K2 hK2 => ?_); exact rfl; (try simp (maxSteps := 10000000) (disch := first | omega | simp) [with_isr, hke]); refine hK2 _ _ (by simp) ?_; clear hK2 K2; (try simp (maxSteps := 10000000) (disch := first | omega | simp) [with_isr, hke]))) <;> clear hK K)
        | ((with_reducible refine awCond fun A B hA hB => ?_); simp (maxSteps := 10000000) (disch := first | omega | simp) [with_isr, hke]; (first | refine ⟨fun h => hA ?_, fun h => hB ?_⟩ | refine hA ?_ | refine hB ?_) <;> (clear hA hB A B; (try (exfalso; omega))))
    all_goals (refine aEnR (aRes [true] fun K hK => ?_); simp (maxSteps := 10000000) (disch := first | omega | simp) [with_ids, with_isr, with_add, with_drop]; refine hK _ ?_ (by simp); clear hK; (try simp only [lose_eq, with_ids, with_isr, with_add, with_drop]); ((repeat' split) <;> first | with_reducible rfl | contradiction | (exfalso; omega) | (simp [with_ids, with_isr, with_add, with_drop]; done) | grind))
  · have hneg : ¬ 0 ≤ idxI p.isr id 0 := fun h => hmem ((idxI_nonneg _ _ _).1 h)
    have hneg : (0 ≤ idxI p.isr id 0) = False := by simp at hneg; simp; omega
    repeat' first
        | (with_reducible first | refine thN ?_ | refine thR ?_ | refine thE ?_ | refine inN ?_ | refine inR ?_ | refine inH ?_ | refine fF ?_ | refine fS ?_ | refine fR ?_ | refine fQ ?_ | refine fC ?_ | refine fB ?_ | refine fL ?_ | refine fE ?_ | refine fT ?_ | refine awBlock ?_ | refine awExit ?_ | refine awRet ?_ | refine awSkip ?_ | refine inM (by decide) ?_)
        | ((with_reducible refine awReg fun K hok hK => ?_); clear hok; (try simp (maxSteps := 10000000) (disch := first | omega | simp) [with_isr, hneg]); (repeat' first
            | (with_reducible refine hK _ (by simp) ?_)
            | ((with_reducible refine gdT (fun h => ?_) (fun h => ?_)) <;> (simp (maxSteps := 10000000) (disch := first | omega | simp) [h, with_isr, hneg]; (try simp at h); (try (exfalso; omega))))
            | ((with_reducible refine gdF (fun h => ?_) (fun h => ?_)) <;> (simp (maxSteps := 10000000) (disch := first | omega | simp) [h, with_isr, hneg]; (try simp at h); (try (exfalso; omega))))
            | ((with_reducible refine callS' fun K2 hK2 => ?_); (try simp (maxSteps := 10000000) (disch := first | omega | simp) [with_isr, hneg]); (first | (refine hK2 _ _ (alone_ok p hp) rfl fun hk9 => ?_; clear hk9) | (refine hK2 _ _ (chooseP_ok m p id hbk hp hb) rfl fun hk9 => ?_; clear hk9) | (refine hK2 _ _ (index_ok p.isr id hp.isr) rfl fun hk9 => ?_; clear hk9)); clear hK2 K2; (try simp (maxSteps := 10000000) (disch := first | omega | simp) [with_isr, hneg]))
            | ((with_reducible refine callF' fun K2 hK2 => ?_); (try simp (maxSteps := 10000000) (disch := first | omega | simp) [with_isr, hneg]); (first | refine hK2 _ _ _ (alone_ok p hp) fun _ => ?_ | refine hK2 _ _ _ (chooseP_ok m p id hbk hp hb) fun _ => ?_ | refine hK2 _ _ _ (index_ok p.isr id hp.isr) fun _ => ?_); clear hK2 K2; (try simp (maxSteps := 10000000) (disch := first | omega | simp) [with_isr, hneg]))
            | ((with_reducible refine sideS' fun K2 hK2 => ?_); (try simp (maxSteps := 10000000) (disch := first | omega | simp) [with_isr, hneg]); (first | refine hK2 _ _ (alone_ok p hp) rfl ?_ | refine hK2 _ _ (chooseP_ok m p id hbk hp hb) rfl ?_ | refine hK2 _ _ (index_ok p.isr id hp.isr) rfl ?_); clear hK2 K2; (try simp (maxSteps := 10000000) (disch := first | omega | simp) [with_isr, hneg]))
            | ((with_reducible refine sideF' fun K2 hK2 => ?_); (try simp (maxSteps := 10000000) (disch := first | omega | simp) [with_isr, hneg]); (first | refine hK2 _ _ _ (alone_ok p hp) (by simp) ?_ | refine hK2 _ _ _ (chooseP_ok m p id hbk hp hb) (by simp) ?_ | refine hK2 _ _ _ (index_ok p.isr id hp.isr) (by simp) ?_); clear hK2 K2; (try simp (maxSteps := 10000000) (disch := first | omega | simp) [with_isr, hneg]))
            | ((with_reducible refine callT' rfl fun K2 hK2 => ?_); (try simp (maxSteps := 10000000) (disch := first | omega | simp) [with_isr, hneg]); (first | refine hK2 _ _ _ _ _ (with_ok p (m.chooseP p id) he) fun _ => ?_); clear hK2 K2; (try simp (maxSteps := 10000000) (disch := first | omega | simp) [with_isr, hneg]))
            | ((with_reducible refine callM' rfl fun K2 hK2 => ?_); (try simp (maxSteps := 10000000) (disch := first | omega | simp) [with_isr, hneg]); (first | refine hK2 _ _ _ _ _ _ _ (with_ok p (m.chooseP p id) he) rfl fun _ _ => ?_); clear hK2 K2; (try simp (maxSteps := 10000000) (disch := first | omega | simp) [with_isr, hneg]))
            | ((with_reducible refine sideSt' fun K2 hK2 => ?_); (try simp (maxSteps := 10000000) (disch := first | omega | simp) [with_isr, hneg]); refine hK2 _ ?_; clear hK2 K2; (try simp (maxSteps := 10000000) (disch := first | omega | simp) [with_isr, hneg]))
            | ((with_reducible refine gdU ?_); (try simp (maxSteps := 10000000) (disch := first | omega | simp) [with_isr, hneg]))
            | ((with_reducible refine sideQ' ?_ ?_ fun K2 hK2 => ?_); exact rfl; exact rfl; (try simp (maxSteps := 10000000) (disch := first | omega | simp) [with_isr, hneg]); with_reducible refine hK2 _ _ ?_; clear hK2 K2; (try simp (maxSteps := 10000000) (disch := first | omega | simp) [with_isr, hneg]))
            | ((with_reducible refine side' ?_ fun K2 hK2 => ?_); exact rfl; (try simp (maxSteps := 10000000) (disch := first | omega | simp) [with_isr, hneg]); refine hK2 _ _ (by simp) ?_; clear hK2 K2; (try simp (maxSteps := 10000000) (disch := first | omega | simp) [with_isr, hneg]))) <;> clear hK K)
        | ((with_reducible refine awCond fun A B hA hB => ?_); simp (maxSteps := 10000000) (disch := first | omega | simp) [with_isr, hneg]; (first | refine ⟨fun h => hA ?_, fun h => hB ?_⟩ | refine hA ?_ | refine hB ?_) <;> (clear hA hB A B; (try (exfalso; omega))))
    all_goals (refine aEnR (aRes [true] fun K hK => ?_); simp (maxSteps := 10000000) (disch := first | omega | simp) [with_ids, with_isr, with_add, with_drop]; refine hK _ ?_ (by simp); clear hK; (try simp only [lose_eq, with_ids, with_isr, with_add, with_drop]); ((repeat' split) <;> first | with_reducible rfl | contradiction | (exfalso; omega) | (simp [with_ids, with_isr, with_add, with_drop]; done) | grind))
end
end Go.Am
