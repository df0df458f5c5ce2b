/- Part of the proof of a law of placing. -/
import Derived.Test.YteijffflinnccaaDoorQE0a
import Derived.Test.YteijffflinnccaaDoorQP13
import Derived.Test.YteijffflinnccaaDoorQP17
set_option linter.all false
set_option maxRecDepth 100000
set_option maxHeartbeats 0
namespace Go.Am
open Go
noncomputable section
def c3 : SC := (.seq (.reg [⟨some 4, .assign (.const (.bool false)), none, []⟩] [0, 1, 10, 37, 38, 46, 47, 48, 49, 50]) (.seq (.reg [⟨some 7, .move (.tmp 1), none, []⟩,
  ⟨some 8, .call { callee := .builtin .len, args := #[.tmp 7], argTypes := #[23] }, none, []⟩,
  ⟨some 9, .binOp .gtr 3 (.tmp 8) (.const (.int .i64 100)) 3, none, []⟩] [0, 1, 9, 10, 37, 38, 46, 47, 48, 49, 50]) (.seq (.cond (.tmp 9) (.seq (.reg [⟨some 10, .call { callee := .value (.func 5), args := #[], argTypes := #[] }, none, []⟩,
  ⟨some 4, .assign (.tmp 10), none, []⟩] [4, 10, 37, 38, 46, 47, 48, 49, 50]) .ret) .skip) (.seq (.reg [⟨some 11, .move (.tmp 0), none, []⟩,
  ⟨some 12, .call { callee := .value (.func 6), args := #[.tmp 11], argTypes := #[22] }, none, []⟩,
  ⟨some 5, .alloc 30, none, []⟩,
  ⟨none, .store 30 (.tmp 5) (.tmp 12), none, []⟩] [1, 5, 10, 37, 38, 46, 47, 48, 49, 50]) (.seq (.reg [⟨some 6, .assign (.const (.int .i64 0)), none, []⟩] [1, 5, 6, 10, 19, 37, 38, 46, 47, 48, 49, 50]) (.seq (.block 0 (.seq (.loop (.seq (.reg [⟨some 13, .move (.tmp 6), none, []⟩,
  ⟨some 14, .fieldAddr 30 (.tmp 5) 0, none, []⟩,
  ⟨some 15, .load 25 (.tmp 14), none, []⟩,
  ⟨some 16, .call { callee := .builtin .len, args := #[.tmp 15], argTypes := #[25] }, none, []⟩,
  ⟨some 17, .binOp .lss 3 (.tmp 13) (.tmp 16) 3, none, []⟩] [1, 5, 6, 10, 17, 19, 37, 38, 46, 47, 48, 49, 50]) (.seq (.cond (.tmp 17) .skip (.exit 0)) (.seq (.block 1 (.seq (.reg [⟨some 20, .fieldAddr 30 (.tmp 5) 0, none, [22, 26, 27, 28, 29, 30]⟩,
  ⟨some 21, .load 25 (.tmp 20), none, [22, 26, 27, 28, 29, 30]⟩,
  ⟨some 22, .move (.tmp 6), none, [20, 21, 26, 27, 28, 29, 30]⟩,
  ⟨some 23, .indexAddr 25 (.tmp 21) (.tmp 22), none, [26, 27, 28, 29, 30]⟩,
  ⟨some 24, .load 34 (.tmp 23), none, [26, 27, 28, 29, 30]⟩,
  ⟨some 25, .call { callee := .value (.func 7), args := #[.tmp 24], argTypes := #[34] }, none, [26, 27, 28, 29, 30]⟩,
  ⟨some 26, .fieldAddr 30 (.tmp 5) 0, none, [20, 21, 22, 23, 24, 25, 28]⟩,
  ⟨some 27, .load 25 (.tmp 26), none, [20, 21, 22, 23, 24, 25, 28]⟩,
  ⟨some 28, .move (.tmp 6), none, [20, 21, 22, 23, 24, 25, 26, 27]⟩,
  ⟨some 29, .indexAddr 25 (.tmp 27) (.tmp 28), none, [20, 21, 22, 23, 24, 25]⟩,
  ⟨some 30, .load 34 (.tmp 29), none, [20, 21, 22, 23, 24, 25]⟩,
  ⟨some 31, .call { callee := .value (.func 8), args := #[.tmp 30], argTypes := #[34] }, none, []⟩,
  ⟨some 32, .binOp .neq 4 (.tmp 25) (.tmp 31) 4, none, []⟩] [1, 5, 6, 10, 19, 32, 37, 38, 46, 47, 48, 49, 50]) (.seq (.cond (.tmp 32) (.seq (.reg [⟨some 4, .assign (.const (.bool false)), none, []⟩] [4, 10, 37, 38, 46, 47, 48, 49, 50]) .ret) .skip) .skip))) (.seq (.reg [⟨some 18, .move (.tmp 6), none, []⟩,
  ⟨some 19, .binOp .add 3 (.tmp 18) (.const (.int .i64 1)) 3, none, []⟩,
  ⟨some 6, .assign (.tmp 19), none, []⟩] [1, 5, 6, 10, 19, 37, 38, 46, 47, 48, 49, 50]) .skip))))) .skip)) (.seq (.reg [⟨some 33, .load 30 (.tmp 5), none, [35]⟩,
  ⟨some 34, .call { callee := .value (.func 10), args := #[.tmp 33], argTypes := #[30] }, none, [35]⟩,
  ⟨some 35, .load 30 (.tmp 5), none, [33, 34]⟩,
  ⟨some 36, .call { callee := .value (.func 11), args := #[.tmp 35], argTypes := #[30] }, none, []⟩,
  ⟨some 37, .call { callee := .value (.func 9), args := #[.tmp 34, .tmp 36], argTypes := #[23, 23] }, none, []⟩,
  ⟨some 38, .move (.tmp 37), none, []⟩,
  ⟨some 39, .load 30 (.tmp 5), (some (38, true)), [40, 43, 44]⟩,
  ⟨some 40, .move (.tmp 1), (some (38, true)), [39, 43, 44]⟩,
  ⟨some 41, .call { callee := .value (.func 13), args := #[.tmp 39, .tmp 40], argTypes := #[30, 23] }, (some (38, true)), [43, 44]⟩,
  ⟨some 42, .call { callee := .value (.func 12), args := #[.tmp 41], argTypes := #[40] }, (some (38, true)), [43, 44]⟩,
  ⟨some 43, .load 30 (.tmp 5), (some (38, true)), [39, 40, 41, 42, 44]⟩,
  ⟨some 44, .move (.tmp 1), (some (38, true)), [39, 40, 41, 42, 43]⟩,
  ⟨some 45, .call { callee := .value (.func 14), args := #[.tmp 43, .tmp 44], argTypes := #[30, 23] }, (some (38, true)), []⟩,
  ⟨some 46, .binOp .eql 37 (.tmp 42) (.tmp 45) 37, (some (38, true)), []⟩,
  ⟨some 47, .pick (.tmp 38) (.tmp 46) (.const (.bool false)), none, []⟩,
  ⟨some 48, .move (.tmp 47), none, []⟩,
  ⟨some 49, .call { callee := .value (.func 5), args := #[], argTypes := #[] }, (some (48, true)), []⟩,
  ⟨some 50, .pick (.tmp 48) (.tmp 49) (.const (.bool false)), none, []⟩,
  ⟨some 4, .assign (.tmp 50), none, []⟩] [4, 10, 37, 38, 46, 47, 48, 49, 50]) .ret)))))))
theorem s3 : TextK Proofs.Tryd.prog 0 3 51 [ResultVar.tmp 4] c3 := .mk' Proofs.Tryd.f3 _ (by kernel_rfl) rfl rfl rfl (by kernel_rfl) rfl (by kernel_rfl)
theorem ofO_ok (x : Option Bad') : ACall pg 12 [errO x] (I (codeO x)) := by
  cases x with
  | none => exact ofNil_ok
  | some b => exact of_ok (.fault b.1 b.2.1 (.code b.2.2))
theorem lawM_asc (l : List Int) : (lawM l).brokers.Pairwise fun a b => a.id < b.id := by
  simp only [lawM, lawBs]
  rw [List.pairwise_map]
  refine List.Pairwise.imp ?_ List.pairwise_lt_range
  intro a b hab
  simp only [lawB]
  omega
theorem orders_walk (l ids : List Int) : ACall pg 3 [.sl (l.map U8), Li ids] (B true) := by
  refine s3.call mo (by simp) fun hxs => ?_
  clear hxs
  unfold c3
  have hb := brokersL_ok l
  have few := lawM_few l
  have asc := lawM_asc l
  have fl := few.len
  generalize lawM l = m at hb few asc fl
  have hw := worksP_ok
  by_cases hlen : 100 < ids.length
  · have h1 : 100 < (ids.length : Int) := by omega
    repeat' first
        | (with_reducible first | refine thN ?_ | refine thR ?_ | refine thE ?_ | refine inN ?_ | refine inR ?_ | refine inH ?_ | refine fF ?_ | refine fS ?_ | refine fR ?_ | refine fQ ?_ | refine fC ?_ | refine fB ?_ | refine fL ?_ | refine fE ?_ | refine fT ?_ | refine awBlock ?_ | refine awExit ?_ | refine awRet ?_ | refine awSkip ?_ | refine inM (by decide) ?_)
        | ((with_reducible refine awReg fun K hok hK => ?_); clear hok; (try simp (maxSteps := 10000000) (disch := first | omega | simp) [h1]); (repeat' first
            | (with_reducible refine hK _ (by simp) ?_)
            | ((with_reducible refine gdT (fun h => ?_) (fun h => ?_)) <;> (simp (maxSteps := 10000000) (disch := first | omega | simp) [h, h1]; (try simp at h); (try (exfalso; omega))))
            | ((with_reducible refine gdF (fun h => ?_) (fun h => ?_)) <;> (simp (maxSteps := 10000000) (disch := first | omega | simp) [h, h1]; (try simp at h); (try (exfalso; omega))))
            | ((with_reducible refine callS' fun K2 hK2 => ?_); (try simp (maxSteps := 10000000) (disch := first | omega | simp) [h1]); (first | (refine hK2 _ _ (hw) rfl fun hk9 => ?_; clear hk9)); clear hK2 K2; (try simp (maxSteps := 10000000) (disch := first | omega | simp) [h1]))
            | ((with_reducible refine callF' fun K2 hK2 => ?_); (try simp (maxSteps := 10000000) (disch := first | omega | simp) [h1]); (first | refine hK2 _ _ _ (hw) fun _ => ?_); clear hK2 K2; (try simp (maxSteps := 10000000) (disch := first | omega | simp) [h1]))
            | ((with_reducible refine sideS' fun K2 hK2 => ?_); (try simp (maxSteps := 10000000) (disch := first | omega | simp) [h1]); (first | refine hK2 _ _ (hw) rfl ?_); clear hK2 K2; (try simp (maxSteps := 10000000) (disch := first | omega | simp) [h1]))
            | ((with_reducible refine sideF' fun K2 hK2 => ?_); (try simp (maxSteps := 10000000) (disch := first | omega | simp) [h1]); (first | refine hK2 _ _ _ (hw) (by simp) ?_); clear hK2 K2; (try simp (maxSteps := 10000000) (disch := first | omega | simp) [h1]))
            | ((with_reducible refine callM' rfl fun K2 hK2 => ?_); (try simp (maxSteps := 10000000) (disch := first | omega | simp) [h1]); (first | refine hK2 _ _ _ _ _ _ _ (hw) rfl fun _ _ => ?_); clear hK2 K2; (try simp (maxSteps := 10000000) (disch := first | omega | simp) [h1]))
            | ((with_reducible refine callT' rfl fun K2 hK2 => ?_); (try simp (maxSteps := 10000000) (disch := first | omega | simp) [h1]); (first | refine hK2 _ _ _ _ _ (hw) fun _ => ?_); clear hK2 K2; (try simp (maxSteps := 10000000) (disch := first | omega | simp) [h1]))
            | ((with_reducible refine sideSt' fun K2 hK2 => ?_); (try simp (maxSteps := 10000000) (disch := first | omega | simp) [h1]); refine hK2 _ ?_; clear hK2 K2; (try simp (maxSteps := 10000000) (disch := first | omega | simp) [h1]))
            | ((with_reducible refine gdU ?_); (try simp (maxSteps := 10000000) (disch := first | omega | simp) [h1]))
            | ((with_reducible refine sideQ' ?_ ?_ fun K2 hK2 => ?_); exact rfl; exact rfl; (try simp (maxSteps := 10000000) (disch := first | omega | simp) [h1]); with_reducible refine hK2 _ _ ?_; clear hK2 K2; (try simp (maxSteps := 10000000) (disch := first | omega | simp) [h1]))
            | ((with_reducible refine side' ?_ fun K2 hK2 => ?_); exact rfl; (try simp (maxSteps := 10000000) (disch := first | omega | simp) [h1]); refine hK2 _ _ (by simp) ?_; clear hK2 K2; (try simp (maxSteps := 10000000) (disch := first | omega | simp) [h1]))) <;> clear hK K)
        | ((with_reducible refine awCond fun A B hA hB => ?_); simp (maxSteps := 10000000) (disch := first | omega | simp) [h1]; (first | refine ⟨fun h => hA ?_, fun h => hB ?_⟩ | refine hA ?_ | refine hB ?_) <;> (clear hA hB A B; (try (exfalso; omega))))
    (refine aEnR (aRes [] fun K hK => ?_); simp (maxSteps := 10000000) (disch := first | omega | simp) []; refine hK _ ?_ (by simp); simp (maxSteps := 10000000) (disch := first | omega | simp) [])
  · have h1 : ¬ 100 < (ids.length : Int) := by omega
    repeat' first
        | (with_reducible first | refine thN ?_ | refine thR ?_ | refine thE ?_ | refine inN ?_ | refine inR ?_ | refine inH ?_ | refine fF ?_ | refine fS ?_ | refine fR ?_ | refine fQ ?_ | refine fC ?_ | refine fB ?_ | refine fL ?_ | refine fE ?_ | refine fT ?_ | refine awBlock ?_ | refine awExit ?_ | refine awRet ?_ | refine awSkip ?_ | refine inM (by decide) ?_)
        | ((with_reducible refine awReg fun K hok hK => ?_); clear hok; (try simp (maxSteps := 10000000) (disch := first | omega | simp) [h1]); (repeat' first
            | (with_reducible refine hK _ (by simp) ?_)
            | ((with_reducible refine gdT (fun h => ?_) (fun h => ?_)) <;> (simp (maxSteps := 10000000) (disch := first | omega | simp) [h, h1]; (try simp at h); (try (exfalso; omega))))
            | ((with_reducible refine gdF (fun h => ?_) (fun h => ?_)) <;> (simp (maxSteps := 10000000) (disch := first | omega | simp) [h, h1]; (try simp at h); (try (exfalso; omega))))
            | ((with_reducible refine callS' fun K2 hK2 => ?_); (try simp (maxSteps := 10000000) (disch := first | omega | simp) [h1]); (first | (refine hK2 _ _ (hb) rfl fun hk9 => ?_; clear hk9)); clear hK2 K2; (try simp (maxSteps := 10000000) (disch := first | omega | simp) [h1]))
            | ((with_reducible refine callF' fun K2 hK2 => ?_); (try simp (maxSteps := 10000000) (disch := first | omega | simp) [h1]); (first | refine hK2 _ _ _ (hb) fun _ => ?_); clear hK2 K2; (try simp (maxSteps := 10000000) (disch := first | omega | simp) [h1]))
            | ((with_reducible refine sideS' fun K2 hK2 => ?_); (try simp (maxSteps := 10000000) (disch := first | omega | simp) [h1]); (first | refine hK2 _ _ (hb) rfl ?_); clear hK2 K2; (try simp (maxSteps := 10000000) (disch := first | omega | simp) [h1]))
            | ((with_reducible refine sideF' fun K2 hK2 => ?_); (try simp (maxSteps := 10000000) (disch := first | omega | simp) [h1]); (first | refine hK2 _ _ _ (hb) (by simp) ?_); clear hK2 K2; (try simp (maxSteps := 10000000) (disch := first | omega | simp) [h1]))
            | ((with_reducible refine callM' rfl fun K2 hK2 => ?_); (try simp (maxSteps := 10000000) (disch := first | omega | simp) [h1]); (first | refine hK2 _ _ _ _ _ _ _ (hb) rfl fun _ _ => ?_); clear hK2 K2; (try simp (maxSteps := 10000000) (disch := first | omega | simp) [h1]))
            | ((with_reducible refine callT' rfl fun K2 hK2 => ?_); (try simp (maxSteps := 10000000) (disch := first | omega | simp) [h1]); (first | refine hK2 _ _ _ _ _ (hb) fun _ => ?_); clear hK2 K2; (try simp (maxSteps := 10000000) (disch := first | omega | simp) [h1]))
            | ((with_reducible refine sideSt' fun K2 hK2 => ?_); (try simp (maxSteps := 10000000) (disch := first | omega | simp) [h1]); refine hK2 _ ?_; clear hK2 K2; (try simp (maxSteps := 10000000) (disch := first | omega | simp) [h1]))
            | ((with_reducible refine gdU ?_); (try simp (maxSteps := 10000000) (disch := first | omega | simp) [h1]))
            | ((with_reducible refine sideQ' ?_ ?_ fun K2 hK2 => ?_); exact rfl; exact rfl; (try simp (maxSteps := 10000000) (disch := first | omega | simp) [h1]); with_reducible refine hK2 _ _ ?_; clear hK2 K2; (try simp (maxSteps := 10000000) (disch := first | omega | simp) [h1]))
            | ((with_reducible refine side' ?_ fun K2 hK2 => ?_); exact rfl; (try simp (maxSteps := 10000000) (disch := first | omega | simp) [h1]); refine hK2 _ _ (by simp) ?_; clear hK2 K2; (try simp (maxSteps := 10000000) (disch := first | omega | simp) [h1]))) <;> clear hK K)
        | ((with_reducible refine awCond fun A B hA hB => ?_); simp (maxSteps := 10000000) (disch := first | omega | simp) [h1]; (first | refine ⟨fun h => hA ?_, fun h => hB ?_⟩ | refine hA ?_ | refine hB ?_) <;> (clear hA hB A B; (try (exfalso; omega))))
    refine awFor m.brokers.length (fun i (_ : Unit) => True) (fun i _ => [(6, .p (I i)), (5, .p (.own (encM m).cells)), (1, .p (Li ids))]) () (Wk.ofA (by simp)) trivial fun i _ hi _ => ?_
    by_cases hlt : i < m.brokers.length
    · have r1 := placeReady_ok m.brokers[i]
      have r2 := refReady_ok m.brokers[i]
      cases hr : readyB m.brokers[i] with
      | true =>
        rw [hr] at r1 r2
        repeat' first
            | (with_reducible first | refine thN ?_ | refine thR ?_ | refine thE ?_ | refine inN ?_ | refine inR ?_ | refine inH ?_ | refine fF ?_ | refine fS ?_ | refine fR ?_ | refine fQ ?_ | refine fC ?_ | refine fB ?_ | refine fL ?_ | refine fE ?_ | refine fT ?_ | refine awBlock ?_ | refine awExit ?_ | refine awRet ?_ | refine awSkip ?_ | refine inM (by decide) ?_)
            | ((with_reducible refine awReg fun K hok hK => ?_); clear hok; (try simp (maxSteps := 10000000) (disch := first | omega | simp) [hlt]); (repeat' first
                | (with_reducible refine hK _ (by simp) ?_)
                | ((with_reducible refine gdT (fun h => ?_) (fun h => ?_)) <;> (simp (maxSteps := 10000000) (disch := first | omega | simp) [h, hlt]; (try simp at h); (try (exfalso; omega))))
                | ((with_reducible refine gdF (fun h => ?_) (fun h => ?_)) <;> (simp (maxSteps := 10000000) (disch := first | omega | simp) [h, hlt]; (try simp at h); (try (exfalso; omega))))
                | ((with_reducible refine callS' fun K2 hK2 => ?_); (try simp (maxSteps := 10000000) (disch := first | omega | simp) [hlt]); (first | (refine hK2 _ _ (r1) rfl fun hk9 => ?_; clear hk9) | (refine hK2 _ _ (r2) rfl fun hk9 => ?_; clear hk9)); clear hK2 K2; (try simp (maxSteps := 10000000) (disch := first | omega | simp) [hlt]))
                | ((with_reducible refine callF' fun K2 hK2 => ?_); (try simp (maxSteps := 10000000) (disch := first | omega | simp) [hlt]); (first | refine hK2 _ _ _ (r1) fun _ => ?_ | refine hK2 _ _ _ (r2) fun _ => ?_); clear hK2 K2; (try simp (maxSteps := 10000000) (disch := first | omega | simp) [hlt]))
                | ((with_reducible refine sideS' fun K2 hK2 => ?_); (try simp (maxSteps := 10000000) (disch := first | omega | simp) [hlt]); (first | refine hK2 _ _ (r1) rfl ?_ | refine hK2 _ _ (r2) rfl ?_); clear hK2 K2; (try simp (maxSteps := 10000000) (disch := first | omega | simp) [hlt]))
                | ((with_reducible refine sideF' fun K2 hK2 => ?_); (try simp (maxSteps := 10000000) (disch := first | omega | simp) [hlt]); (first | refine hK2 _ _ _ (r1) (by simp) ?_ | refine hK2 _ _ _ (r2) (by simp) ?_); clear hK2 K2; (try simp (maxSteps := 10000000) (disch := first | omega | simp) [hlt]))
                | ((with_reducible refine callM' rfl fun K2 hK2 => ?_); (try simp (maxSteps := 10000000) (disch := first | omega | simp) [hlt]); (first | refine hK2 _ _ _ _ _ _ _ (r1) rfl fun _ _ => ?_ | refine hK2 _ _ _ _ _ _ _ (r2) rfl fun _ _ => ?_); clear hK2 K2; (try simp (maxSteps := 10000000) (disch := first | omega | simp) [hlt]))
                | ((with_reducible refine callT' rfl fun K2 hK2 => ?_); (try simp (maxSteps := 10000000) (disch := first | omega | simp) [hlt]); (first | refine hK2 _ _ _ _ _ (r1) fun _ => ?_ | refine hK2 _ _ _ _ _ (r2) fun _ => ?_); clear hK2 K2; (try simp (maxSteps := 10000000) (disch := first | omega | simp) [hlt]))
                | ((with_reducible refine sideSt' fun K2 hK2 => ?_); (try simp (maxSteps := 10000000) (disch := first | omega | simp) [hlt]); refine hK2 _ ?_; clear hK2 K2; (try simp (maxSteps := 10000000) (disch := first | omega | simp) [hlt]))
                | ((with_reducible refine gdU ?_); (try simp (maxSteps := 10000000) (disch := first | omega | simp) [hlt]))
                | ((with_reducible refine sideQ' ?_ ?_ fun K2 hK2 => ?_); exact rfl; exact rfl; (try simp (maxSteps := 10000000) (disch := first | omega | simp) [hlt]); with_reducible refine hK2 _ _ ?_; clear hK2 K2; (try simp (maxSteps := 10000000) (disch := first | omega | simp) [hlt]))
                | ((with_reducible refine side' ?_ fun K2 hK2 => ?_); exact rfl; (try simp (maxSteps := 10000000) (disch := first | omega | simp) [hlt]); refine hK2 _ _ (by simp) ?_; clear hK2 K2; (try simp (maxSteps := 10000000) (disch := first | omega | simp) [hlt]))) <;> clear hK K)
            | ((with_reducible refine awCond fun A B hA hB => ?_); simp (maxSteps := 10000000) (disch := first | omega | simp) [hlt]; (first | refine ⟨fun h => hA ?_, fun h => hB ?_⟩ | refine hA ?_ | refine hB ?_) <;> (clear hA hB A B; (try (exfalso; omega))))
        (refine ⟨?_, (), ?_, Wk.ofA ?_⟩; assumption; rotate_left; focus (simp []; done))
        trivial
      | false =>
        rw [hr] at r1 r2
        repeat' first
            | (with_reducible first | refine thN ?_ | refine thR ?_ | refine thE ?_ | refine inN ?_ | refine inR ?_ | refine inH ?_ | refine fF ?_ | refine fS ?_ | refine fR ?_ | refine fQ ?_ | refine fC ?_ | refine fB ?_ | refine fL ?_ | refine fE ?_ | refine fT ?_ | refine awBlock ?_ | refine awExit ?_ | refine awRet ?_ | refine awSkip ?_ | refine inM (by decide) ?_)
            | ((with_reducible refine awReg fun K hok hK => ?_); clear hok; (try simp (maxSteps := 10000000) (disch := first | omega | simp) [hlt]); (repeat' first
                | (with_reducible refine hK _ (by simp) ?_)
                | ((with_reducible refine gdT (fun h => ?_) (fun h => ?_)) <;> (simp (maxSteps := 10000000) (disch := first | omega | simp) [h, hlt]; (try simp at h); (try (exfalso; omega))))
                | ((with_reducible refine gdF (fun h => ?_) (fun h => ?_)) <;> (simp (maxSteps := 10000000) (disch := first | omega | simp) [h, hlt]; (try simp at h); (try (exfalso; omega))))
                | ((with_reducible refine callS' fun K2 hK2 => ?_); (try simp (maxSteps := 10000000) (disch := first | omega | simp) [hlt]); (first | (refine hK2 _ _ (r1) rfl fun hk9 => ?_; clear hk9) | (refine hK2 _ _ (r2) rfl fun hk9 => ?_; clear hk9)); clear hK2 K2; (try simp (maxSteps := 10000000) (disch := first | omega | simp) [hlt]))
                | ((with_reducible refine callF' fun K2 hK2 => ?_); (try simp (maxSteps := 10000000) (disch := first | omega | simp) [hlt]); (first | refine hK2 _ _ _ (r1) fun _ => ?_ | refine hK2 _ _ _ (r2) fun _ => ?_); clear hK2 K2; (try simp (maxSteps := 10000000) (disch := first | omega | simp) [hlt]))
                | ((with_reducible refine sideS' fun K2 hK2 => ?_); (try simp (maxSteps := 10000000) (disch := first | omega | simp) [hlt]); (first | refine hK2 _ _ (r1) rfl ?_ | refine hK2 _ _ (r2) rfl ?_); clear hK2 K2; (try simp (maxSteps := 10000000) (disch := first | omega | simp) [hlt]))
                | ((with_reducible refine sideF' fun K2 hK2 => ?_); (try simp (maxSteps := 10000000) (disch := first | omega | simp) [hlt]); (first | refine hK2 _ _ _ (r1) (by simp) ?_ | refine hK2 _ _ _ (r2) (by simp) ?_); clear hK2 K2; (try simp (maxSteps := 10000000) (disch := first | omega | simp) [hlt]))
                | ((with_reducible refine callM' rfl fun K2 hK2 => ?_); (try simp (maxSteps := 10000000) (disch := first | omega | simp) [hlt]); (first | refine hK2 _ _ _ _ _ _ _ (r1) rfl fun _ _ => ?_ | refine hK2 _ _ _ _ _ _ _ (r2) rfl fun _ _ => ?_); clear hK2 K2; (try simp (maxSteps := 10000000) (disch := first | omega | simp) [hlt]))
                | ((with_reducible refine callT' rfl fun K2 hK2 => ?_); (try simp (maxSteps := 10000000) (disch := first | omega | simp) [hlt]); (first | refine hK2 _ _ _ _ _ (r1) fun _ => ?_ | refine hK2 _ _ _ _ _ (r2) fun _ => ?_); clear hK2 K2; (try simp (maxSteps := 10000000) (disch := first | omega | simp) [hlt]))
                | ((with_reducible refine sideSt' fun K2 hK2 => ?_); (try simp (maxSteps := 10000000) (disch := first | omega | simp) [hlt]); refine hK2 _ ?_; clear hK2 K2; (try simp (maxSteps := 10000000) (disch := first | omega | simp) [hlt]))
                | ((with_reducible refine gdU ?_); (try simp (maxSteps := 10000000) (disch := first | omega | simp) [hlt]))
                | ((with_reducible refine sideQ' ?_ ?_ fun K2 hK2 => ?_); exact rfl; exact rfl; (try simp (maxSteps := 10000000) (disch := first | omega | simp) [hlt]); with_reducible refine hK2 _ _ ?_; clear hK2 K2; (try simp (maxSteps := 10000000) (disch := first | omega | simp) [hlt]))
                | ((with_reducible refine side' ?_ fun K2 hK2 => ?_); exact rfl; (try simp (maxSteps := 10000000) (disch := first | omega | simp) [hlt]); refine hK2 _ _ (by simp) ?_; clear hK2 K2; (try simp (maxSteps := 10000000) (disch := first | omega | simp) [hlt]))) <;> clear hK K)
            | ((with_reducible refine awCond fun A B hA hB => ?_); simp (maxSteps := 10000000) (disch := first | omega | simp) [hlt]; (first | refine ⟨fun h => hA ?_, fun h => hB ?_⟩ | refine hA ?_ | refine hB ?_) <;> (clear hA hB A B; (try (exfalso; omega))))
        (refine ⟨?_, (), ?_, Wk.ofA ?_⟩; assumption; rotate_left; focus (simp []; done))
        trivial
    · have ho := order_ok m few.len
      have hro := refOrder_ok m few.len
      rw [← order_eq few asc] at hro
      have hie : ACall pg 9 [Li m.order, Li m.order] (B true) := by
        have := ints_ok m.order m.order
        rwa [show (m.order == m.order) = true from by simp] at this
      have hck := check_ok m ids few.len (by omega)
      have hrc := refCheck_ok m ids (by omega)
      rw [← ck_code few ids] at hrc
      have hof := ofO_ok (ckP m.order ids)
      clear few asc
      cases hx : ckP m.order ids with
      | none =>
        rw [hx] at hck hrc hof
        repeat' first
            | (with_reducible first | refine thN ?_ | refine thR ?_ | refine thE ?_ | refine inN ?_ | refine inR ?_ | refine inH ?_ | refine fF ?_ | refine fS ?_ | refine fR ?_ | refine fQ ?_ | refine fC ?_ | refine fB ?_ | refine fL ?_ | refine fE ?_ | refine fT ?_ | refine awBlock ?_ | refine awExit ?_ | refine awRet ?_ | refine awSkip ?_ | refine inM (by decide) ?_)
            | ((with_reducible refine awReg fun K hok hK => ?_); clear hok; (try simp (maxSteps := 10000000) (disch := first | omega | simp) [hlt, codeO]); (repeat' first
                | (with_reducible refine hK _ (by simp) ?_)
                | ((with_reducible refine gdT (fun h => ?_) (fun h => ?_)) <;> (simp (maxSteps := 10000000) (disch := first | omega | simp) [h, hlt, codeO]; (try simp at h); (try (exfalso; omega))))
                | ((with_reducible refine gdF (fun h => ?_) (fun h => ?_)) <;> (simp (maxSteps := 10000000) (disch := first | omega | simp) [h, hlt, codeO]; (try simp at h); (try (exfalso; omega))))
                | ((with_reducible refine callS' fun K2 hK2 => ?_); (try simp (maxSteps := 10000000) (disch := first | omega | simp) [hlt, codeO]); (first | (refine hK2 _ _ (ho) rfl fun hk9 => ?_; clear hk9) | (refine hK2 _ _ (hro) rfl fun hk9 => ?_; clear hk9) | (refine hK2 _ _ (hie) rfl fun hk9 => ?_; clear hk9) | (refine hK2 _ _ (hck) rfl fun hk9 => ?_; clear hk9) | (refine hK2 _ _ (hrc) rfl fun hk9 => ?_; clear hk9) | (refine hK2 _ _ (hof) rfl fun hk9 => ?_; clear hk9) | (refine hK2 _ _ (hw) rfl fun hk9 => ?_; clear hk9)); clear hK2 K2; (try simp (maxSteps := 10000000) (disch := first | omega | simp) [hlt, codeO]))
                | ((with_reducible refine callF' fun K2 hK2 => ?_); (try simp (maxSteps := 10000000) (disch := first | omega | simp) [hlt, codeO]); (first | refine hK2 _ _ _ (ho) fun _ => ?_ | refine hK2 _ _ _ (hro) fun _ => ?_ | refine hK2 _ _ _ (hie) fun _ => ?_ | refine hK2 _ _ _ (hck) fun _ => ?_ | refine hK2 _ _ _ (hrc) fun _ => ?_ | refine hK2 _ _ _ (hof) fun _ => ?_ | refine hK2 _ _ _ (hw) fun _ => ?_); clear hK2 K2; (try simp (maxSteps := 10000000) (disch := first | omega | simp) [hlt, codeO]))
                | ((with_reducible refine sideS' fun K2 hK2 => ?_); (try simp (maxSteps := 10000000) (disch := first | omega | simp) [hlt, codeO]); (first | refine hK2 _ _ (ho) rfl ?_ | refine hK2 _ _ (hro) rfl ?_ | refine hK2 _ _ (hie) rfl ?_ | refine hK2 _ _ (hck) rfl ?_ | refine hK2 _ _ (hrc) rfl ?_ | refine hK2 _ _ (hof) rfl ?_ | refine hK2 _ _ (hw) rfl ?_); clear hK2 K2; (try simp (maxSteps := 10000000) (disch := first | omega | simp) [hlt, codeO]))
                | ((with_reducible refine sideF' fun K2 hK2 => ?_); (try simp (maxSteps := 10000000) (disch := first | omega | simp) [hlt, codeO]); (first | refine hK2 _ _ _ (ho) (by simp) ?_ | refine hK2 _ _ _ (hro) (by simp) ?_ | refine hK2 _ _ _ (hie) (by simp) ?_ | refine hK2 _ _ _ (hck) (by simp) ?_ | refine hK2 _ _ _ (hrc) (by simp) ?_ | refine hK2 _ _ _ (hof) (by simp) ?_ | refine hK2 _ _ _ (hw) (by simp) ?_); clear hK2 K2; (try simp (maxSteps := 10000000) (disch := first | omega | simp) [hlt, codeO]))
                | ((with_reducible refine callM' rfl fun K2 hK2 => ?_); (try simp (maxSteps := 10000000) (disch := first | omega | simp) [hlt, codeO]); (first | refine hK2 _ _ _ _ _ _ _ (ho) rfl fun _ _ => ?_ | refine hK2 _ _ _ _ _ _ _ (hro) rfl fun _ _ => ?_ | refine hK2 _ _ _ _ _ _ _ (hie) rfl fun _ _ => ?_ | refine hK2 _ _ _ _ _ _ _ (hck) rfl fun _ _ => ?_ | refine hK2 _ _ _ _ _ _ _ (hrc) rfl fun _ _ => ?_ | refine hK2 _ _ _ _ _ _ _ (hof) rfl fun _ _ => ?_ | refine hK2 _ _ _ _ _ _ _ (hw) rfl fun _ _ => ?_); clear hK2 K2; (try simp (maxSteps := 10000000) (disch := first | omega | simp) [hlt, codeO]))
                | ((with_reducible refine callT' rfl fun K2 hK2 => ?_); (try simp (maxSteps := 10000000) (disch := first | omega | simp) [hlt, codeO]); (first | refine hK2 _ _ _ _ _ (ho) fun _ => ?_ | refine hK2 _ _ _ _ _ (hro) fun _ => ?_ | refine hK2 _ _ _ _ _ (hie) fun _ => ?_ | refine hK2 _ _ _ _ _ (hck) fun _ => ?_ | refine hK2 _ _ _ _ _ (hrc) fun _ => ?_ | refine hK2 _ _ _ _ _ (hof) fun _ => ?_ | refine hK2 _ _ _ _ _ (hw) fun _ => ?_); clear hK2 K2; (try simp (maxSteps := 10000000) (disch := first | omega | simp) [hlt, codeO]))
                | ((with_reducible refine sideSt' fun K2 hK2 => ?_); (try simp (maxSteps := 10000000) (disch := first | omega | simp) [hlt, codeO]); refine hK2 _ ?_; clear hK2 K2; (try simp (maxSteps := 10000000) (disch := first | omega | simp) [hlt, codeO]))
                | ((with_reducible refine gdU ?_); (try simp (maxSteps := 10000000) (disch := first | omega | simp) [hlt, codeO]))
                | ((with_reducible refine sideQ' ?_ ?_ fun K2 hK2 => ?_); exact rfl; exact rfl; (try simp (maxSteps := 10000000) (disch := first | omega | simp) [hlt, codeO]); with_reducible refine hK2 _ _ ?_; clear hK2 K2; (try simp (maxSteps := 10000000) (disch := first | omega | simp) [hlt, codeO]))
                | ((with_reducible refine side' ?_ fun K2 hK2 => ?_); exact rfl; (try simp (maxSteps := 10000000) (disch := first | omega | simp) [hlt, codeO]); refine hK2 _ _ (by simp) ?_; clear hK2 K2; (try simp (maxSteps := 10000000) (disch := first | omega | simp) [hlt, codeO]))) <;> clear hK K)
            | ((with_reducible refine awCond fun A B hA hB => ?_); simp (maxSteps := 10000000) (disch := first | omega | simp) [hlt, codeO]; (first | refine ⟨fun h => hA ?_, fun h => hB ?_⟩ | refine hA ?_ | refine hB ?_) <;> (clear hA hB A B; (try (exfalso; omega))))
        (refine aEnR (aRes [] fun K hK => ?_); simp (maxSteps := 10000000) (disch := first | omega | simp) []; refine hK _ ?_ (by simp); simp (maxSteps := 10000000) (disch := first | omega | simp) [])
      | some b =>
        obtain ⟨b1, b2, b3⟩ := b
        rw [hx] at hck hrc hof
        simp only [errO_some, errF_eq, codeO] at hck hrc hof
        repeat' first
            | (with_reducible first | refine thN ?_ | refine thR ?_ | refine thE ?_ | refine inN ?_ | refine inR ?_ | refine inH ?_ | refine fF ?_ | refine fS ?_ | refine fR ?_ | refine fQ ?_ | refine fC ?_ | refine fB ?_ | refine fL ?_ | refine fE ?_ | refine fT ?_ | refine awBlock ?_ | refine awExit ?_ | refine awRet ?_ | refine awSkip ?_ | refine inM (by decide) ?_)
            | ((with_reducible refine awReg fun K hok hK => ?_); clear hok; (try simp (maxSteps := 10000000) (disch := first | omega | simp) [hlt, codeO]); (repeat' first
                | (with_reducible refine hK _ (by simp) ?_)
                | ((with_reducible refine gdT (fun h => ?_) (fun h => ?_)) <;> (simp (maxSteps := 10000000) (disch := first | omega | simp) [h, hlt, codeO]; (try simp at h); (try (exfalso; omega))))
                | ((with_reducible refine gdF (fun h => ?_) (fun h => ?_)) <;> (simp (maxSteps := 10000000) (disch := first | omega | simp) [h, hlt, codeO]; (try simp at h); (try (exfalso; omega))))
                | ((with_reducible refine callS' fun K2 hK2 => ?_); (try simp (maxSteps := 10000000) (disch := first | omega | simp) [hlt, codeO]); (first | (refine hK2 _ _ (ho) rfl fun hk9 => ?_; clear hk9) | (refine hK2 _ _ (hro) rfl fun hk9 => ?_; clear hk9) | (refine hK2 _ _ (hie) rfl fun hk9 => ?_; clear hk9) | (refine hK2 _ _ (hck) rfl fun hk9 => ?_; clear hk9) | (refine hK2 _ _ (hrc) rfl fun hk9 => ?_; clear hk9) | (refine hK2 _ _ (hof) rfl fun hk9 => ?_; clear hk9) | (refine hK2 _ _ (hw) rfl fun hk9 => ?_; clear hk9)); clear hK2 K2; (try simp (maxSteps := 10000000) (disch := first | omega | simp) [hlt, codeO]))
                | ((with_reducible refine callF' fun K2 hK2 => ?_); (try simp (maxSteps := 10000000) (disch := first | omega | simp) [hlt, codeO]); (first | refine hK2 _ _ _ (ho) fun _ => ?_ | refine hK2 _ _ _ (hro) fun _ => ?_ | refine hK2 _ _ _ (hie) fun _ => ?_ | refine hK2 _ _ _ (hck) fun _ => ?_ | refine hK2 _ _ _ (hrc) fun _ => ?_ | refine hK2 _ _ _ (hof) fun _ => ?_ | refine hK2 _ _ _ (hw) fun _ => ?_); clear hK2 K2; (try simp (maxSteps := 10000000) (disch := first | omega | simp) [hlt, codeO]))
                | ((with_reducible refine sideS' fun K2 hK2 => ?_); (try simp (maxSteps := 10000000) (disch := first | omega | simp) [hlt, codeO]); (first | refine hK2 _ _ (ho) rfl ?_ | refine hK2 _ _ (hro) rfl ?_ | refine hK2 _ _ (hie) rfl ?_ | refine hK2 _ _ (hck) rfl ?_ | refine hK2 _ _ (hrc) rfl ?_ | refine hK2 _ _ (hof) rfl ?_ | refine hK2 _ _ (hw) rfl ?_); clear hK2 K2; (try simp (maxSteps := 10000000) (disch := first | omega | simp) [hlt, codeO]))
                | ((with_reducible refine sideF' fun K2 hK2 => ?_); (try simp (maxSteps := 10000000) (disch := first | omega | simp) [hlt, codeO]); (first | refine hK2 _ _ _ (ho) (by simp) ?_ | refine hK2 _ _ _ (hro) (by simp) ?_ | refine hK2 _ _ _ (hie) (by simp) ?_ | refine hK2 _ _ _ (hck) (by simp) ?_ | refine hK2 _ _ _ (hrc) (by simp) ?_ | refine hK2 _ _ _ (hof) (by simp) ?_ | refine hK2 _ _ _ (hw) (by simp) ?_); clear hK2 K2; (try simp (maxSteps := 10000000) (disch := first | omega | simp) [hlt, codeO]))
                | ((with_reducible refine callM' rfl fun K2 hK2 => ?_); (try simp (maxSteps := 10000000) (disch := first | omega | simp) [hlt, codeO]); (first | refine hK2 _ _ _ _ _ _ _ (ho) rfl fun _ _ => ?_ | refine hK2 _ _ _ _ _ _ _ (hro) rfl fun _ _ => ?_ | refine hK2 _ _ _ _ _ _ _ (hie) rfl fun _ _ => ?_ | refine hK2 _ _ _ _ _ _ _ (hck) rfl fun _ _ => ?_ | refine hK2 _ _ _ _ _ _ _ (hrc) rfl fun _ _ => ?_ | refine hK2 _ _ _ _ _ _ _ (hof) rfl fun _ _ => ?_ | refine hK2 _ _ _ _ _ _ _ (hw) rfl fun _ _ => ?_); clear hK2 K2; (try simp (maxSteps := 10000000) (disch := first | omega | simp) [hlt, codeO]))
                | ((with_reducible refine callT' rfl fun K2 hK2 => ?_); (try simp (maxSteps := 10000000) (disch := first | omega | simp) [hlt, codeO]); (first | refine hK2 _ _ _ _ _ (ho) fun _ => ?_ | refine hK2 _ _ _ _ _ (hro) fun _ => ?_ | refine hK2 _ _ _ _ _ (hie) fun _ => ?_ | refine hK2 _ _ _ _ _ (hck) fun _ => ?_ | refine hK2 _ _ _ _ _ (hrc) fun _ => ?_ | refine hK2 _ _ _ _ _ (hof) fun _ => ?_ | refine hK2 _ _ _ _ _ (hw) fun _ => ?_); clear hK2 K2; (try simp (maxSteps := 10000000) (disch := first | omega | simp) [hlt, codeO]))
                | ((with_reducible refine sideSt' fun K2 hK2 => ?_); (try simp (maxSteps := 10000000) (disch := first | omega | simp) [hlt, codeO]); refine hK2 _ ?_; clear hK2 K2; (try simp (maxSteps := 10000000) (disch := first | omega | simp) [hlt, codeO]))
                | ((with_reducible refine gdU ?_); (try simp (maxSteps := 10000000) (disch := first | omega | simp) [hlt, codeO]))
                | ((with_reducible refine sideQ' ?_ ?_ fun K2 hK2 => ?_); exact rfl; exact rfl; (try simp (maxSteps := 10000000) (disch := first | omega | simp) [hlt, codeO]); with_reducible refine hK2 _ _ ?_; clear hK2 K2; (try simp (maxSteps := 10000000) (disch := first | omega | simp) [hlt, codeO]))
                | ((with_reducible refine side' ?_ fun K2 hK2 => ?_); exact rfl; (try simp (maxSteps := 10000000) (disch := first | omega | simp) [hlt, codeO]); refine hK2 _ _ (by simp) ?_; clear hK2 K2; (try simp (maxSteps := 10000000) (disch := first | omega | simp) [hlt, codeO]))) <;> clear hK K)
            | ((with_reducible refine awCond fun A B hA hB => ?_); simp (maxSteps := 10000000) (disch := first | omega | simp) [hlt, codeO]; (first | refine ⟨fun h => hA ?_, fun h => hB ?_⟩ | refine hA ?_ | refine hB ?_) <;> (clear hA hB A B; (try (exfalso; omega))))
        (refine aEnR (aRes [] fun K hK => ?_); simp (maxSteps := 10000000) (disch := first | omega | simp) []; refine hK _ ?_ (by simp); simp (maxSteps := 10000000) (disch := first | omega | simp) [])
end
end Go.Am
