/- Part of the proof of ElectLeaves. -/
import Derived.Test.YteijffflinnccaaZAB
set_option linter.all false
set_option maxRecDepth 100000
set_option maxHeartbeats 0
namespace Go.Am
open Go
noncomputable section
def c63 : SC := (.seq (.reg [⟨some 2, .box 30 (.tmp 0), none, []⟩,
  ⟨some 4, .alloc 30, none, []⟩,
  ⟨some 5, .assign (.const (.int .i64 0)), none, []⟩] [1, 2, 4]) (.seq (.reg [⟨some 12, .load 30 (.tmp 2), none, []⟩,
  ⟨some 13, .move (.tmp 1), none, []⟩,
  ⟨some 14, .call { callee := .value (.func 98), args := #[.tmp 12, .tmp 13], argTypes := #[30, 3] }, none, []⟩,
  ⟨some 11, .move (.tmp 14), none, []⟩,
  ⟨some 15, .extract (.tmp 11) 0, none, []⟩,
  ⟨some 16, .extract (.tmp 11) 1, none, []⟩,
  ⟨some 6, .alloc 46, none, []⟩,
  ⟨none, .store 46 (.tmp 6) (.tmp 15), none, []⟩,
  ⟨some 7, .assign (.tmp 16), none, []⟩] [1, 2, 4, 7, 11, 14, 16]) (.seq (.reg [⟨some 17, .move (.tmp 7), none, []⟩,
  ⟨some 18, .unOp .not 4 (.tmp 17), none, []⟩] [1, 2, 4, 18]) (.seq (.cond (.tmp 18) (.seq (.reg [⟨some 19, .load 30 (.tmp 2), none, []⟩,
  ⟨none, .store 30 (.tmp 4) (.tmp 19), none, []⟩,
  ⟨some 5, .assign (.const (.int .i64 8)), none, []⟩] [4, 5]) .ret) .skip) (.seq (.reg [⟨some 20, .load 30 (.tmp 2), none, []⟩,
  ⟨some 8, .alloc 30, none, []⟩,
  ⟨none, .store 30 (.tmp 8) (.tmp 20), none, []⟩] [1, 2, 4, 8]) (.seq (.reg [⟨some 21, .fieldAddr 30 (.tmp 8) 1, none, []⟩,
  ⟨none, .store 26 (.tmp 21) (.const (.slice none 0 0)), none, []⟩] [1, 2, 4, 8]) (.seq (.reg [⟨some 9, .assign (.const (.int .i64 0)), none, []⟩] [1, 2, 4, 8, 9, 28]) (.seq (.block 0 (.seq (.loop (.seq (.reg [⟨some 22, .move (.tmp 9), none, []⟩,
  ⟨some 23, .fieldAddr 30 (.tmp 2) 1, none, []⟩,
  ⟨some 24, .load 26 (.tmp 23), none, []⟩,
  ⟨some 25, .call { callee := .builtin .len, args := #[.tmp 24], argTypes := #[26] }, none, []⟩,
  ⟨some 26, .binOp .lss 3 (.tmp 22) (.tmp 25) 3, none, []⟩] [1, 2, 4, 8, 9, 26, 28]) (.seq (.cond (.tmp 26) .skip (.exit 0)) (.seq (.block 1 (.seq (.reg [⟨some 29, .fieldAddr 30 (.tmp 2) 1, none, []⟩,
  ⟨some 30, .load 26 (.tmp 29), none, []⟩,
  ⟨some 31, .move (.tmp 9), none, []⟩,
  ⟨some 32, .indexAddr 26 (.tmp 30) (.tmp 31), none, []⟩,
  ⟨some 33, .fieldAddr 46 (.tmp 32) 0, none, []⟩,
  ⟨some 34, .load 3 (.tmp 33), none, []⟩,
  ⟨some 35, .move (.tmp 1), none, []⟩,
  ⟨some 36, .binOp .neq 3 (.tmp 34) (.tmp 35) 3, none, []⟩] [1, 2, 4, 8, 9, 28, 36]) (.seq (.cond (.tmp 36) (.seq (.reg [⟨some 37, .fieldAddr 30 (.tmp 8) 1, none, [39, 40, 41, 42, 43, 44]⟩,
  ⟨some 38, .load 26 (.tmp 37), none, [39, 40, 41, 42, 43, 44]⟩,
  ⟨some 39, .fieldAddr 30 (.tmp 2) 1, none, [37, 38, 41]⟩,
  ⟨some 40, .load 26 (.tmp 39), none, [37, 38, 41]⟩,
  ⟨some 41, .move (.tmp 9), none, [37, 38, 39, 40]⟩,
  ⟨some 42, .indexAddr 26 (.tmp 40) (.tmp 41), none, [37, 38]⟩,
  ⟨some 43, .load 46 (.tmp 42), none, [37, 38]⟩,
  ⟨some 44, .buildSlice 26 1 #[(0, .tmp 43)], none, [37, 38]⟩,
  ⟨some 45, .call { callee := .builtin .append, args := #[.tmp 38, .tmp 44], argTypes := #[26, 26] }, none, []⟩,
  ⟨some 46, .fieldAddr 30 (.tmp 8) 1, none, []⟩,
  ⟨none, .store 26 (.tmp 46) (.tmp 45), none, []⟩] [1, 2, 4, 8, 9, 28]) .skip) .skip) .skip))) (.seq (.reg [⟨some 27, .move (.tmp 9), none, []⟩,
  ⟨some 28, .binOp .add 3 (.tmp 27) (.const (.int .i64 1)) 3, none, []⟩,
  ⟨some 9, .assign (.tmp 28), none, []⟩] [1, 2, 4, 8, 9, 28]) .skip))))) .skip)) (.seq (.reg [⟨some 47, .fieldAddr 30 (.tmp 8) 2, none, []⟩,
  ⟨none, .store 27 (.tmp 47) (.const (.slice none 0 0)), none, []⟩] [1, 2, 4, 8]) (.seq (.reg [⟨some 10, .assign (.const (.int .i64 0)), none, []⟩] [1, 2, 4, 8, 10, 54]) (.seq (.block 2 (.seq (.loop (.seq (.reg [⟨some 48, .move (.tmp 10), none, []⟩,
  ⟨some 49, .fieldAddr 30 (.tmp 2) 2, none, []⟩,
  ⟨some 50, .load 27 (.tmp 49), none, []⟩,
  ⟨some 51, .call { callee := .builtin .len, args := #[.tmp 50], argTypes := #[27] }, none, []⟩,
  ⟨some 52, .binOp .lss 3 (.tmp 48) (.tmp 51) 3, none, []⟩] [1, 2, 4, 8, 10, 52, 54]) (.seq (.cond (.tmp 52) .skip (.exit 2)) (.seq (.block 3 (.seq (.reg [⟨some 55, .fieldAddr 30 (.tmp 2) 2, none, []⟩,
  ⟨some 56, .load 27 (.tmp 55), none, []⟩,
  ⟨some 57, .move (.tmp 10), none, []⟩,
  ⟨some 58, .indexAddr 27 (.tmp 56) (.tmp 57), none, []⟩,
  ⟨some 59, .fieldAddr 131 (.tmp 58) 0, none, []⟩,
  ⟨some 60, .load 3 (.tmp 59), none, []⟩,
  ⟨some 61, .move (.tmp 1), none, []⟩,
  ⟨some 62, .binOp .neq 3 (.tmp 60) (.tmp 61) 3, none, []⟩] [1, 2, 4, 8, 10, 54, 62]) (.seq (.cond (.tmp 62) (.seq (.reg [⟨some 63, .fieldAddr 30 (.tmp 8) 2, none, [65, 66, 67, 68, 69, 70]⟩,
  ⟨some 64, .load 27 (.tmp 63), none, [65, 66, 67, 68, 69, 70]⟩,
  ⟨some 65, .fieldAddr 30 (.tmp 2) 2, none, [63, 64, 67]⟩,
  ⟨some 66, .load 27 (.tmp 65), none, [63, 64, 67]⟩,
  ⟨some 67, .move (.tmp 10), none, [63, 64, 65, 66]⟩,
  ⟨some 68, .indexAddr 27 (.tmp 66) (.tmp 67), none, [63, 64]⟩,
  ⟨some 69, .load 131 (.tmp 68), none, [63, 64]⟩,
  ⟨some 70, .buildSlice 27 1 #[(0, .tmp 69)], none, [63, 64]⟩,
  ⟨some 71, .call { callee := .builtin .append, args := #[.tmp 64, .tmp 70], argTypes := #[27, 27] }, none, []⟩,
  ⟨some 72, .fieldAddr 30 (.tmp 8) 2, none, []⟩,
  ⟨none, .store 27 (.tmp 72) (.tmp 71), none, []⟩] [1, 2, 4, 8, 10, 54]) .skip) .skip) .skip))) (.seq (.reg [⟨some 53, .move (.tmp 10), none, []⟩,
  ⟨some 54, .binOp .add 3 (.tmp 53) (.const (.int .i64 1)) 3, none, []⟩,
  ⟨some 10, .assign (.tmp 54), none, []⟩] [1, 2, 4, 8, 10, 54]) .skip))))) .skip)) (.seq (.reg [⟨some 73, .load 30 (.tmp 8), none, []⟩,
  ⟨none, .store 30 (.tmp 4) (.tmp 73), none, []⟩,
  ⟨some 5, .assign (.const (.int .i64 0)), none, []⟩] [4, 5]) .ret))))))))))))
theorem s63 : TextK Proofs.Try.prog 0 63 74 [ResultVar.cell 4 30, ResultVar.tmp 5] c63 := .mk' Proofs.Try.f63 _ (by kernel_rfl) rfl rfl rfl (by kernel_rfl) rfl (by kernel_rfl)
theorem dropRec_ok (m : Image) (id : Int) (hm : m.Pre) : ACall pg 63 [encM m, I id] (.tup [encM (m.dropRec id).1, I (m.dropRec id).2]) := by
  refine s63.call mo (by simp) fun hxs => ?_
  clear hxs
  have htl := hm.tl
  have hcl := hm.cl
  unfold c63
  repeat' first
      | (with_reducible first | refine thN ?_ | refine thR ?_ | refine thE ?_ | refine inN ?_ | refine inR ?_ | refine inH ?_ | refine fF ?_ | refine fS ?_ | refine fR ?_ | refine fQ ?_ | refine fC ?_ | refine fB ?_ | refine fL ?_ | refine fE ?_ | refine fT ?_ | refine awBlock ?_ | refine awExit ?_ | refine awRet ?_ | refine awSkip ?_ | refine inM (by decide) ?_)
      | ((with_reducible refine awReg fun K hok hK => ?_); clear hok; (try simp (maxSteps := 10000000) (disch := first | omega | simp) []); (repeat' first
          | (with_reducible refine hK _ (by simp) ?_)
          | ((with_reducible refine gdT (fun h => ?_) (fun h => ?_)) <;> (simp (maxSteps := 10000000) (disch := first | omega | simp) [h]; (try simp at h); (try (exfalso; omega))))
          | ((with_reducible refine gdF (fun h => ?_) (fun h => ?_)) <;> (simp (maxSteps := 10000000) (disch := first | omega | simp) [h]; (try simp at h); (try (exfalso; omega))))
          | ((with_reducible refine callS' fun K2 hK2 => ?_); (try simp (maxSteps := 10000000) (disch := first | omega | simp) []); (first | (refine hK2 _ _ (topic_ok m id) rfl fun hk9 => ?_; clear hk9)); clear hK2 K2; (try simp (maxSteps := 10000000) (disch := first | omega | simp) []))
          | ((with_reducible refine callF' fun K2 hK2 => ?_); (try simp (maxSteps := 10000000) (disch := first | omega | simp) []); (first | refine hK2 _ _ _ (topic_ok m id) fun _ => ?_); clear hK2 K2; (try simp (maxSteps := 10000000) (disch := first | omega | simp) []))
          | ((with_reducible refine sideSt' fun K2 hK2 => ?_); (try simp (maxSteps := 10000000) (disch := first | omega | simp) []); refine hK2 _ ?_; clear hK2 K2; (try simp (maxSteps := 10000000) (disch := first | omega | simp) []))
          | ((with_reducible refine gdU ?_); (try simp (maxSteps := 10000000) (disch := first | omega | simp) []))
          | ((with_reducible refine sideQ' ?_ ?_ fun K2 hK2 => ?_); exact rfl; exact rfl; (try simp (maxSteps := 10000000) (disch := first | omega | simp) []); with_reducible refine hK2 _ _ ?_; clear hK2 K2; (try simp (maxSteps := 10000000) (disch := first | omega | simp) []))
          | ((with_reducible refine side' ?_ fun K2 hK2 => ?_); exact rfl; (try simp (maxSteps := 10000000) (disch := first | omega | simp) []); refine hK2 _ _ (by simp) ?_; clear hK2 K2; (try simp (maxSteps := 10000000) (disch := first | omega | simp) []))) <;> clear hK K)
      | ((with_reducible refine awCond fun A B hA hB => ?_); simp (maxSteps := 10000000) (disch := first | omega | simp) []; (first | refine ⟨fun h => hA ?_, fun h => hB ?_⟩ | refine hA ?_ | refine hB ?_) <;> (clear hA hB A B; (try (exfalso; omega))))
  · (refine aEnR (aRes [true] fun K hK => ?_); simp (maxSteps := 10000000) (disch := first | omega | simp) []; refine hK _ ?_ (by simp); clear hK; (try unfold Image.dropRec); ((repeat' split) <;> first | rfl | (exfalso; omega) | (exfalso; simp only [*, Bool.false_eq_true, Bool.true_eq_false, not_true, not_false_iff] at *; done) | (simp_all; done) | (exfalso; simp_all; omega)))
  refine awFor m.topics.length (fun i (s : List Topic) => s ++ (m.topics.drop i).filter (fun t => t.id != id) = m.topics.filter (fun t => t.id != id) ∧ s.length ≤ i) (fun i s => [(9, .p (I i)), (8, .p (.own [.sl (m.brokers.map encB), .uq (s.map encT), .sl (m.configs.map encC), .sl (m.done.map encD), I m.last])), (4, .p (.own [.uq [], .uq [], .uq [], .uq [], I 0])), (2, .p (.own (encM m).cells)), (1, .p (I id))]) [] (Wk.ofA (by simp)) (by simp) fun i s hi hs => ?_
  obtain ⟨hs, hsl⟩ := hs
  repeat' first
      | (with_reducible first | refine thN ?_ | refine thR ?_ | refine thE ?_ | refine inN ?_ | refine inR ?_ | refine inH ?_ | refine fF ?_ | refine fS ?_ | refine fR ?_ | refine fQ ?_ | refine fC ?_ | refine fB ?_ | refine fL ?_ | refine fE ?_ | refine fT ?_ | refine awBlock ?_ | refine awExit ?_ | refine awRet ?_ | refine awSkip ?_ | refine inM (by decide) ?_)
      | ((with_reducible refine awReg fun K hok hK => ?_); clear hok; (try simp (maxSteps := 10000000) (disch := first | omega | simp) []); (repeat' first
          | (with_reducible refine hK _ (by simp) ?_)
          | ((with_reducible refine gdT (fun h => ?_) (fun h => ?_)) <;> (simp (maxSteps := 10000000) (disch := first | omega | simp) [h]; (try simp at h); (try (exfalso; omega))))
          | ((with_reducible refine gdF (fun h => ?_) (fun h => ?_)) <;> (simp (maxSteps := 10000000) (disch := first | omega | simp) [h]; (try simp at h); (try (exfalso; omega))))
          | ((with_reducible refine sideSt' fun K2 hK2 => ?_); (try simp (maxSteps := 10000000) (disch := first | omega | simp) []); refine hK2 _ ?_; clear hK2 K2; (try simp (maxSteps := 10000000) (disch := first | omega | simp) []))
          | ((with_reducible refine gdU ?_); (try simp (maxSteps := 10000000) (disch := first | omega | simp) []))
          | ((with_reducible refine sideQ' ?_ ?_ fun K2 hK2 => ?_); exact rfl; exact rfl; (try simp (maxSteps := 10000000) (disch := first | omega | simp) []); with_reducible refine hK2 _ _ ?_; clear hK2 K2; (try simp (maxSteps := 10000000) (disch := first | omega | simp) []))
          | ((with_reducible refine side' ?_ fun K2 hK2 => ?_); exact rfl; (try simp (maxSteps := 10000000) (disch := first | omega | simp) []); refine hK2 _ _ (by simp) ?_; clear hK2 K2; (try simp (maxSteps := 10000000) (disch := first | omega | simp) []))) <;> clear hK K)
      | ((with_reducible refine awCond fun A B hA hB => ?_); simp (maxSteps := 10000000) (disch := first | omega | simp) []; (first | refine ⟨fun h => hA ?_, fun h => hB ?_⟩ | refine hA ?_ | refine hB ?_) <;> (clear hA hB A B; (try (exfalso; omega))))
  · rw [drop_cons (by assumption)] at hs
    refine ⟨by assumption, s ++ [m.topics[i]], ⟨?_, by simp; omega⟩, Wk.ofA (by simp; done)⟩
    rw [← hs]; clear hs; simp [*, -List.getElem_cons_drop]
  · rw [drop_cons (by assumption)] at hs
    refine ⟨by assumption, s, ⟨?_, by omega⟩, Wk.ofA (by simp; done)⟩
    rw [← hs]; clear hs; simp [*, -List.getElem_cons_drop]
  rw [drop_nil (by assumption)] at hs
  simp at hs
  subst hs
  clear hi hsl
  refine awFor m.configs.length (fun i (s : List Config) => s ++ (m.configs.drop i).filter (fun t => t.topic != id) = m.configs.filter (fun t => t.topic != id) ∧ s.length ≤ i) (fun i s => [(10, .p (I i)), (8, .p (.own [.sl (m.brokers.map encB), .uq ((m.topics.filter fun t => t.id != id).map encT), .uq (s.map encC), .sl (m.done.map encD), I m.last])), (4, .p (.own [.uq [], .uq [], .uq [], .uq [], I 0])), (2, .p (.own (encM m).cells)), (1, .p (I id))]) [] (Wk.ofA (by simp)) (by simp) fun i s hi hs => ?_
  obtain ⟨hs, hsl⟩ := hs
  repeat' first
      | (with_reducible first | refine thN ?_ | refine thR ?_ | refine thE ?_ | refine inN ?_ | refine inR ?_ | refine inH ?_ | refine fF ?_ | refine fS ?_ | refine fR ?_ | refine fQ ?_ | refine fC ?_ | refine fB ?_ | refine fL ?_ | refine fE ?_ | refine fT ?_ | refine awBlock ?_ | refine awExit ?_ | refine awRet ?_ | refine awSkip ?_ | refine inM (by decide) ?_)
      | ((with_reducible refine awReg fun K hok hK => ?_); clear hok; (try simp (maxSteps := 10000000) (disch := first | omega | simp) []); (repeat' first
          | (with_reducible refine hK _ (by simp) ?_)
          | ((with_reducible refine gdT (fun h => ?_) (fun h => ?_)) <;> (simp (maxSteps := 10000000) (disch := first | omega | simp) [h]; (try simp at h); (try (exfalso; omega))))
          | ((with_reducible refine gdF (fun h => ?_) (fun h => ?_)) <;> (simp (maxSteps := 10000000) (disch := first | omega | simp) [h]; (try simp at h); (try (exfalso; omega))))
          | ((with_reducible refine sideSt' fun K2 hK2 => ?_); (try simp (maxSteps := 10000000) (disch := first | omega | simp) []); refine hK2 _ ?_; clear hK2 K2; (try simp (maxSteps := 10000000) (disch := first | omega | simp) []))
          | ((with_reducible refine gdU ?_); (try simp (maxSteps := 10000000) (disch := first | omega | simp) []))
          | ((with_reducible refine sideQ' ?_ ?_ fun K2 hK2 => ?_); exact rfl; exact rfl; (try simp (maxSteps := 10000000) (disch := first | omega | simp) []); with_reducible refine hK2 _ _ ?_; clear hK2 K2; (try simp (maxSteps := 10000000) (disch := first | omega | simp) []))
          | ((with_reducible refine side' ?_ fun K2 hK2 => ?_); exact rfl; (try simp (maxSteps := 10000000) (disch := first | omega | simp) []); refine hK2 _ _ (by simp) ?_; clear hK2 K2; (try simp (maxSteps := 10000000) (disch := first | omega | simp) []))) <;> clear hK K)
      | ((with_reducible refine awCond fun A B hA hB => ?_); simp (maxSteps := 10000000) (disch := first | omega | simp) []; (first | refine ⟨fun h => hA ?_, fun h => hB ?_⟩ | refine hA ?_ | refine hB ?_) <;> (clear hA hB A B; (try (exfalso; omega))))
  · rw [drop_cons (by assumption)] at hs
    refine ⟨by assumption, s ++ [m.configs[i]], ⟨?_, by simp; omega⟩, Wk.ofA (by simp; done)⟩
    rw [← hs]; clear hs; simp [*, -List.getElem_cons_drop]
  · rw [drop_cons (by assumption)] at hs
    refine ⟨by assumption, s, ⟨?_, by omega⟩, Wk.ofA (by simp; done)⟩
    rw [← hs]; clear hs; simp [*, -List.getElem_cons_drop]
  rw [drop_nil (by assumption)] at hs
  simp at hs
  subst hs
  (refine aEnR (aRes [true] fun K hK => ?_); simp (maxSteps := 10000000) (disch := first | omega | simp) []; refine hK _ ?_ (by simp); clear hK; (try unfold Image.dropRec); ((repeat' split) <;> first | rfl | (exfalso; omega) | (exfalso; simp only [*, Bool.false_eq_true, Bool.true_eq_false, not_true, not_false_iff] at *; done) | (simp_all; done) | (exfalso; simp_all; omega)))
end
end Go.Am
