/- Part of the proof of a law of placing. -/
import Derived.Test.YteijffflinnccaaDoorQAA
import Derived.Test.YteijffflinnccaaDoorQPU
set_option linter.all false
set_option maxRecDepth 100000
set_option maxHeartbeats 0
namespace Go.Am
open Go
noncomputable section
def c41 : SC := (.seq (.reg [⟨some 4, .assign (.const (.int .i64 0)), none, []⟩] [0, 1, 5, 8, 10, 17, 18]) (.seq (.reg [⟨some 6, .move (.tmp 0), none, []⟩,
  ⟨some 7, .call { callee := .builtin .len, args := #[.tmp 6], argTypes := #[23] }, none, []⟩,
  ⟨some 8, .move (.const (.int .i64 0)), none, []⟩] [0, 1, 5, 7, 8, 10, 17, 18]) (.seq (.block 0 (.seq (.loop (.seq (.reg [⟨some 9, .binOp .lss 3 (.tmp 8) (.tmp 7) 3, none, []⟩] [0, 1, 5, 7, 8, 9, 10, 17, 18]) (.seq (.cond (.tmp 9) .skip (.exit 0)) (.seq (.block 1 (.seq (.reg [⟨some 10, .move (.tmp 8), none, []⟩,
  ⟨some 5, .assign (.tmp 10), none, []⟩] [0, 1, 5, 7, 8, 10, 17, 18]) (.seq (.reg [⟨some 11, .move (.tmp 1), none, []⟩,
  ⟨some 12, .move (.tmp 0), none, []⟩,
  ⟨some 13, .move (.tmp 5), none, []⟩,
  ⟨some 14, .indexAddr 23 (.tmp 12) (.tmp 13), none, []⟩,
  ⟨some 15, .load 3 (.tmp 14), none, []⟩,
  ⟨some 16, .binOp .eql 3 (.tmp 11) (.tmp 15) 3, none, []⟩] [0, 1, 5, 7, 8, 10, 16, 17, 18]) (.seq (.cond (.tmp 16) (.seq (.reg [⟨some 17, .move (.tmp 5), none, []⟩,
  ⟨some 4, .assign (.tmp 17), none, []⟩] [4, 5, 8, 10, 17, 18]) .ret) .skip) .skip)))) (.seq (.reg [⟨some 18, .binOp .add 3 (.tmp 8) (.const (.int .i64 1)) 3, none, []⟩,
  ⟨some 8, .move (.tmp 18), none, []⟩] [0, 1, 5, 7, 8, 10, 17, 18]) .skip))))) .skip)) (.seq (.reg [⟨some 4, .assign (.const (.int .i64 (-1))), none, []⟩] [4, 5, 8, 10, 17, 18]) .ret))))
theorem s41 : TextK Proofs.Tryd.prog 0 41 19 [ResultVar.tmp 4] c41 := .mk' Proofs.Tryd.f41 _ (by kernel_rfl) rfl rfl rfl (by kernel_rfl) rfl (by kernel_rfl)
def c24 : SC := (.seq (.reg [⟨some 4, .assign (.const (.bool false)), none, []⟩] [0, 1]) (.seq (.reg [⟨some 5, .move (.tmp 0), none, []⟩,
  ⟨some 6, .move (.tmp 1), none, []⟩,
  ⟨some 7, .call { callee := .value (.func 41), args := #[.tmp 5, .tmp 6], argTypes := #[23, 3] }, none, []⟩,
  ⟨some 8, .binOp .geq 3 (.tmp 7) (.const (.int .i64 0)) 3, none, []⟩,
  ⟨some 4, .assign (.tmp 8), none, []⟩] [4, 8]) .ret))
theorem s24 : TextK Proofs.Tryd.prog 0 24 9 [ResultVar.tmp 4] c24 := .mk' Proofs.Tryd.f24 _ (by kernel_rfl) rfl rfl rfl (by kernel_rfl) rfl (by kernel_rfl)
theorem index_ok (l : List Int) (v : Int) (hl : l.length ≤ 1000000) : ACall pg 41 [Li l, I v] (I (idxI l v 0)) := by
  refine s41.call mo (by simp) fun hxs => ?_
  clear hxs
  unfold c41
  repeat' first
      | (with_reducible first | refine thN ?_ | refine thR ?_ | refine thE ?_ | refine inN ?_ | refine inR ?_ | refine inH ?_ | refine fF ?_ | refine fS ?_ | refine fR ?_ | refine fQ ?_ | refine fC ?_ | refine fB ?_ | refine fL ?_ | refine fE ?_ | refine fT ?_ | refine awBlock ?_ | refine awExit ?_ | refine awRet ?_ | refine awSkip ?_ | refine inM (by decide) ?_)
      | ((with_reducible refine awReg fun K hok hK => ?_); clear hok; (try simp (maxSteps := 10000000) (disch := first | omega | simp) []); (repeat' first
          | (with_reducible refine hK _ (by simp) ?_)
          | ((with_reducible refine gdT (fun h => ?_) (fun h => ?_)) <;> (simp (maxSteps := 10000000) (disch := first | omega | simp) [h]; (try simp at h); (try (exfalso; omega))))
          | ((with_reducible refine gdF (fun h => ?_) (fun h => ?_)) <;> (simp (maxSteps := 10000000) (disch := first | omega | simp) [h]; (try simp at h); (try (exfalso; omega))))
          | ((with_reducible refine gdU ?_); (try simp (maxSteps := 10000000) (disch := first | omega | simp) []))) <;> clear hK K)
      | ((with_reducible refine awCond fun A B hA hB => ?_); simp (maxSteps := 10000000) (disch := first | omega | simp) []; (first | refine ⟨fun h => hA ?_, fun h => hB ?_⟩ | refine hA ?_ | refine hB ?_) <;> (clear hA hB A B; (try (exfalso; omega))))
  refine awFor l.length (fun i (_ : Unit) => idxI (l.drop i) v i = idxI l v 0) (fun i _ => [(8, .p (I i)), (7, .p (I l.length)), (0, .p (Li l)), (1, .p (I v))]) () (Wk.ofA (by simp)) (by simp) fun i _ hi hs => ?_
  by_cases hlt : i < l.length
  · rw [drop_cons hlt] at hs
    simp only [idxI] at hs
    repeat' first
        | (with_reducible first | refine thN ?_ | refine thR ?_ | refine thE ?_ | refine inN ?_ | refine inR ?_ | refine inH ?_ | refine fF ?_ | refine fS ?_ | refine fR ?_ | refine fQ ?_ | refine fC ?_ | refine fB ?_ | refine fL ?_ | refine fE ?_ | refine fT ?_ | refine awBlock ?_ | refine awExit ?_ | refine awRet ?_ | refine awSkip ?_ | refine inM (by decide) ?_)
        | ((with_reducible refine awReg fun K hok hK => ?_); clear hok; (try simp (maxSteps := 10000000) (disch := first | omega | simp) []); (repeat' first
            | (with_reducible refine hK _ (by simp) ?_)
            | ((with_reducible refine gdT (fun h => ?_) (fun h => ?_)) <;> (simp (maxSteps := 10000000) (disch := first | omega | simp) [h]; (try simp at h); (try (exfalso; omega))))
            | ((with_reducible refine gdF (fun h => ?_) (fun h => ?_)) <;> (simp (maxSteps := 10000000) (disch := first | omega | simp) [h]; (try simp at h); (try (exfalso; omega))))
            | ((with_reducible refine gdU ?_); (try simp (maxSteps := 10000000) (disch := first | omega | simp) []))) <;> clear hK K)
        | ((with_reducible refine awCond fun A B hA hB => ?_); simp (maxSteps := 10000000) (disch := first | omega | simp) []; (first | refine ⟨fun h => hA ?_, fun h => hB ?_⟩ | refine hA ?_ | refine hB ?_) <;> (clear hA hB A B; (try (exfalso; omega))))
    · rw [if_pos h] at hs
      have e := hs.symm; clear hs; (refine aEnR (aRes [] fun K hK => ?_); simp (maxSteps := 10000000) (disch := first | omega | simp) [e]; refine hK _ ?_ (by simp); clear hK; first | done | (simp (maxSteps := 10000000) (disch := first | omega | simp) [e, *]; done) | (simp (maxSteps := 10000000) (disch := first | omega | simp) [e, *]; omega) | (simp_all [e]; done) | (simp_all [e]; omega))
    · rw [if_neg h] at hs
      (refine ⟨?_, (), ?_, Wk.ofA ?_⟩; assumption; rotate_left; focus (simp []; done))
      exact hs
  · rw [drop_nil (by omega)] at hs
    simp only [idxI] at hs
    repeat' first
        | (with_reducible first | refine thN ?_ | refine thR ?_ | refine thE ?_ | refine inN ?_ | refine inR ?_ | refine inH ?_ | refine fF ?_ | refine fS ?_ | refine fR ?_ | refine fQ ?_ | refine fC ?_ | refine fB ?_ | refine fL ?_ | refine fE ?_ | refine fT ?_ | refine awBlock ?_ | refine awExit ?_ | refine awRet ?_ | refine awSkip ?_ | refine inM (by decide) ?_)
        | ((with_reducible refine awReg fun K hok hK => ?_); clear hok; (try simp (maxSteps := 10000000) (disch := first | omega | simp) []); (repeat' first
            | (with_reducible refine hK _ (by simp) ?_)
            | ((with_reducible refine gdT (fun h => ?_) (fun h => ?_)) <;> (simp (maxSteps := 10000000) (disch := first | omega | simp) [h]; (try simp at h); (try (exfalso; omega))))
            | ((with_reducible refine gdF (fun h => ?_) (fun h => ?_)) <;> (simp (maxSteps := 10000000) (disch := first | omega | simp) [h]; (try simp at h); (try (exfalso; omega))))
            | ((with_reducible refine gdU ?_); (try simp (maxSteps := 10000000) (disch := first | omega | simp) []))) <;> clear hK K)
        | ((with_reducible refine awCond fun A B hA hB => ?_); simp (maxSteps := 10000000) (disch := first | omega | simp) []; (first | refine ⟨fun h => hA ?_, fun h => hB ?_⟩ | refine hA ?_ | refine hB ?_) <;> (clear hA hB A B; (try (exfalso; omega))))
    have e := hs.symm; clear hs; (refine aEnR (aRes [] fun K hK => ?_); simp (maxSteps := 10000000) (disch := first | omega | simp) [e]; refine hK _ ?_ (by simp); clear hK; first | done | (simp (maxSteps := 10000000) (disch := first | omega | simp) [e, *]; done) | (simp (maxSteps := 10000000) (disch := first | omega | simp) [e, *]; omega) | (simp_all [e]; done) | (simp_all [e]; omega))
theorem contains_ok (l : List Int) (v : Int) (hl : l.length ≤ 1000000) : ACall pg 24 [Li l, I v] (B (l.contains v)) := by
  refine s24.call mo (by simp) fun hxs => ?_
  clear hxs
  unfold c24
  have e : decide (0 ≤ idxI l v 0) = l.contains v := by
    rw [Bool.eq_iff_iff]; simp [idxI_nonneg]
  repeat' first
      | (with_reducible first | refine thN ?_ | refine thR ?_ | refine thE ?_ | refine inN ?_ | refine inR ?_ | refine inH ?_ | refine fF ?_ | refine fS ?_ | refine fR ?_ | refine fQ ?_ | refine fC ?_ | refine fB ?_ | refine fL ?_ | refine fE ?_ | refine fT ?_ | refine awBlock ?_ | refine awExit ?_ | refine awRet ?_ | refine awSkip ?_ | refine inM (by decide) ?_)
      | ((with_reducible refine awReg fun K hok hK => ?_); clear hok; (try simp (maxSteps := 10000000) (disch := first | omega | simp) []); (repeat' first
          | (with_reducible refine hK _ (by simp) ?_)
          | ((with_reducible refine gdT (fun h => ?_) (fun h => ?_)) <;> (simp (maxSteps := 10000000) (disch := first | omega | simp) [h]; (try simp at h); (try (exfalso; omega))))
          | ((with_reducible refine gdF (fun h => ?_) (fun h => ?_)) <;> (simp (maxSteps := 10000000) (disch := first | omega | simp) [h]; (try simp at h); (try (exfalso; omega))))
          | ((with_reducible refine callS' fun K2 hK2 => ?_); (try simp (maxSteps := 10000000) (disch := first | omega | simp) []); (first | (refine hK2 _ _ (index_ok l v hl) rfl fun hk9 => ?_; clear hk9)); clear hK2 K2; (try simp (maxSteps := 10000000) (disch := first | omega | simp) []))
          | ((with_reducible refine callF' fun K2 hK2 => ?_); (try simp (maxSteps := 10000000) (disch := first | omega | simp) []); (first | refine hK2 _ _ _ (index_ok l v hl) fun _ => ?_); clear hK2 K2; (try simp (maxSteps := 10000000) (disch := first | omega | simp) []))
          | ((with_reducible refine gdU ?_); (try simp (maxSteps := 10000000) (disch := first | omega | simp) []))) <;> clear hK K)
      | ((with_reducible refine awCond fun A B hA hB => ?_); simp (maxSteps := 10000000) (disch := first | omega | simp) []; (first | refine ⟨fun h => hA ?_, fun h => hB ?_⟩ | refine hA ?_ | refine hB ?_) <;> (clear hA hB A B; (try (exfalso; omega))))
  (refine aEnR (aRes [] fun K hK => ?_); simp (maxSteps := 10000000) (disch := first | omega | simp) [e]; refine hK _ ?_ (by simp); clear hK; first | done | (simp (maxSteps := 10000000) (disch := first | omega | simp) [e, *]; done) | (simp (maxSteps := 10000000) (disch := first | omega | simp) [e, *]; omega) | (simp_all [e]; done) | (simp_all [e]; omega))
end
end Go.Am
