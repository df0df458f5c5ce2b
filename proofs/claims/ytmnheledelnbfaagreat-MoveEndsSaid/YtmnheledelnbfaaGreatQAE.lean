/- Part of the proof of a law of moving. -/
import Derived.Test.YtmnheledelnbfaaGreatQAA
set_option linter.all false
section
set_option maxRecDepth 100000
set_option maxHeartbeats 0
namespace Go.Am
open Go
noncomputable section
def c50 : SC := (.seq (.reg [⟨some 2, .box 36 (.tmp 0), none, []⟩,
  ⟨some 4, .alloc 36, none, []⟩,
  ⟨some 5, .assign (.const (.int .i64 0)), none, []⟩] [1, 2, 4]) (.seq (.reg [⟨some 12, .load 36 (.tmp 2), none, []⟩,
  ⟨some 13, .move (.tmp 1), none, []⟩,
  ⟨some 14, .call { callee := .value (.func 34), args := #[.tmp 12, .tmp 13], argTypes := #[36, 3] }, none, []⟩,
  ⟨some 11, .move (.tmp 14), none, []⟩,
  ⟨some 15, .extract (.tmp 11) 0, none, []⟩,
  ⟨some 16, .extract (.tmp 11) 1, none, []⟩,
  ⟨some 6, .alloc 50, none, []⟩,
  ⟨none, .store 50 (.tmp 6) (.tmp 15), none, []⟩,
  ⟨some 7, .assign (.tmp 16), none, []⟩] [1, 2, 4, 7, 11, 14, 16]) (.seq (.reg [⟨some 17, .move (.tmp 7), none, []⟩,
  ⟨some 18, .unOp .not 4 (.tmp 17), none, []⟩] [1, 2, 4, 18]) (.seq (.cond (.tmp 18) (.seq (.reg [⟨some 19, .load 36 (.tmp 2), none, []⟩,
  ⟨none, .store 36 (.tmp 4) (.tmp 19), none, []⟩,
  ⟨some 5, .assign (.const (.int .i64 8)), none, []⟩] [4, 5]) .ret) .skip) (.seq (.reg [⟨some 20, .load 36 (.tmp 2), none, []⟩,
  ⟨some 8, .alloc 36, none, []⟩,
  ⟨none, .store 36 (.tmp 8) (.tmp 20), none, []⟩] [1, 2, 4, 8]) (.seq (.reg [⟨some 21, .fieldAddr 36 (.tmp 8) 1, none, []⟩,
  ⟨none, .store 32 (.tmp 21) (.const (.slice none 0 0)), none, []⟩] [1, 2, 4, 8]) (.seq (.reg [⟨some 9, .assign (.const (.int .i64 0)), none, []⟩] [1, 2, 4, 8, 9, 28]) (.seq (.block 0 (.seq (.loop (.seq (.reg [⟨some 22, .move (.tmp 9), none, []⟩,
  ⟨some 23, .fieldAddr 36 (.tmp 2) 1, none, []⟩,
  ⟨some 24, .load 32 (.tmp 23), none, []⟩,
  ⟨some 25, .call { callee := .builtin .len, args := #[.tmp 24], argTypes := #[32] }, none, []⟩,
  ⟨some 26, .binOp .lss 3 (.tmp 22) (.tmp 25) 3, none, []⟩] [1, 2, 4, 8, 9, 26, 28]) (.seq (.cond (.tmp 26) .skip (.exit 0)) (.seq (.block 1 (.seq (.reg [⟨some 29, .fieldAddr 36 (.tmp 2) 1, none, []⟩,
  ⟨some 30, .load 32 (.tmp 29), none, []⟩,
  ⟨some 31, .move (.tmp 9), none, []⟩,
  ⟨some 32, .indexAddr 32 (.tmp 30) (.tmp 31), none, []⟩,
  ⟨some 33, .fieldAddr 50 (.tmp 32) 0, none, []⟩,
  ⟨some 34, .load 3 (.tmp 33), none, []⟩,
  ⟨some 35, .move (.tmp 1), none, []⟩,
  ⟨some 36, .binOp .neq 3 (.tmp 34) (.tmp 35) 3, none, []⟩] [1, 2, 4, 8, 9, 28, 36]) (.seq (.cond (.tmp 36) (.seq (.reg [⟨some 37, .fieldAddr 36 (.tmp 8) 1, none, [39, 40, 41, 42, 43, 44]⟩,
  ⟨some 38, .load 32 (.tmp 37), none, [39, 40, 41, 42, 43, 44]⟩,
  ⟨some 39, .fieldAddr 36 (.tmp 2) 1, none, [37, 38, 41]⟩,
  ⟨some 40, .load 32 (.tmp 39), none, [37, 38, 41]⟩,
  ⟨some 41, .move (.tmp 9), none, [37, 38, 39, 40]⟩,
  ⟨some 42, .indexAddr 32 (.tmp 40) (.tmp 41), none, [37, 38]⟩,
  ⟨some 43, .load 50 (.tmp 42), none, [37, 38]⟩,
  ⟨some 44, .buildSlice 32 1 #[(0, .tmp 43)], none, [37, 38]⟩,
  ⟨some 45, .call { callee := .builtin .append, args := #[.tmp 38, .tmp 44], argTypes := #[32, 32] }, none, []⟩,
  ⟨some 46, .fieldAddr 36 (.tmp 8) 1, none, []⟩,
  ⟨none, .store 32 (.tmp 46) (.tmp 45), none, []⟩] [1, 2, 4, 8, 9, 28]) .skip) .skip) .skip))) (.seq (.reg [⟨some 27, .move (.tmp 9), none, []⟩,
  ⟨some 28, .binOp .add 3 (.tmp 27) (.const (.int .i64 1)) 3, none, []⟩,
  ⟨some 9, .assign (.tmp 28), none, []⟩] [1, 2, 4, 8, 9, 28]) .skip))))) .skip)) (.seq (.reg [⟨some 47, .fieldAddr 36 (.tmp 8) 2, none, []⟩,
  ⟨none, .store 33 (.tmp 47) (.const (.slice none 0 0)), none, []⟩] [1, 2, 4, 8]) (.seq (.reg [⟨some 10, .assign (.const (.int .i64 0)), none, []⟩] [1, 2, 4, 8, 10, 54]) (.seq (.block 2 (.seq (.loop (.seq (.reg [⟨some 48, .move (.tmp 10), none, []⟩,
  ⟨some 49, .fieldAddr 36 (.tmp 2) 2, none, []⟩,
  ⟨some 50, .load 33 (.tmp 49), none, []⟩,
  ⟨some 51, .call { callee := .builtin .len, args := #[.tmp 50], argTypes := #[33] }, none, []⟩,
  ⟨some 52, .binOp .lss 3 (.tmp 48) (.tmp 51) 3, none, []⟩] [1, 2, 4, 8, 10, 52, 54]) (.seq (.cond (.tmp 52) .skip (.exit 2)) (.seq (.block 3 (.seq (.reg [⟨some 55, .fieldAddr 36 (.tmp 2) 2, none, []⟩,
  ⟨some 56, .load 33 (.tmp 55), none, []⟩,
  ⟨some 57, .move (.tmp 10), none, []⟩,
  ⟨some 58, .indexAddr 33 (.tmp 56) (.tmp 57), none, []⟩,
  ⟨some 59, .fieldAddr 115 (.tmp 58) 0, none, []⟩,
  ⟨some 60, .load 3 (.tmp 59), none, []⟩,
  ⟨some 61, .move (.tmp 1), none, []⟩,
  ⟨some 62, .binOp .neq 3 (.tmp 60) (.tmp 61) 3, none, []⟩] [1, 2, 4, 8, 10, 54, 62]) (.seq (.cond (.tmp 62) (.seq (.reg [⟨some 63, .fieldAddr 36 (.tmp 8) 2, none, [65, 66, 67, 68, 69, 70]⟩,
  ⟨some 64, .load 33 (.tmp 63), none, [65, 66, 67, 68, 69, 70]⟩,
  ⟨some 65, .fieldAddr 36 (.tmp 2) 2, none, [63, 64, 67]⟩,
  ⟨some 66, .load 33 (.tmp 65), none, [63, 64, 67]⟩,
  ⟨some 67, .move (.tmp 10), none, [63, 64, 65, 66]⟩,
  ⟨some 68, .indexAddr 33 (.tmp 66) (.tmp 67), none, [63, 64]⟩,
  ⟨some 69, .load 115 (.tmp 68), none, [63, 64]⟩,
  ⟨some 70, .buildSlice 33 1 #[(0, .tmp 69)], none, [63, 64]⟩,
  ⟨some 71, .call { callee := .builtin .append, args := #[.tmp 64, .tmp 70], argTypes := #[33, 33] }, none, []⟩,
  ⟨some 72, .fieldAddr 36 (.tmp 8) 2, none, []⟩,
  ⟨none, .store 33 (.tmp 72) (.tmp 71), none, []⟩] [1, 2, 4, 8, 10, 54]) .skip) .skip) .skip))) (.seq (.reg [⟨some 53, .move (.tmp 10), none, []⟩,
  ⟨some 54, .binOp .add 3 (.tmp 53) (.const (.int .i64 1)) 3, none, []⟩,
  ⟨some 10, .assign (.tmp 54), none, []⟩] [1, 2, 4, 8, 10, 54]) .skip))))) .skip)) (.seq (.reg [⟨some 73, .load 36 (.tmp 8), none, []⟩,
  ⟨none, .store 36 (.tmp 4) (.tmp 73), none, []⟩,
  ⟨some 5, .assign (.const (.int .i64 0)), none, []⟩] [4, 5]) .ret))))))))))))
theorem s50 : TextK Proofs.Tryz.prog 0 50 74 [ResultVar.cell 4 36, ResultVar.tmp 5] c50 := .mk' Proofs.Tryz.f50 _ (by kernel_rfl) rfl rfl rfl (by kernel_rfl) rfl (by kernel_rfl)
theorem dropRec_ok (m : Image) (id : Int) (hm : m.Pre) : ACall pg 50 [encM m, I id] (.tup [encM (m.dropRec id).1, I (m.dropRec id).2]) := by
  refine s50.call mo (by simp) fun hxs => ?_
  clear hxs
  have htl := hm.tl
  have hcl := hm.cl
  unfold c50
  repeat' first | (with_reducible first | refine thN ?_ | refine thE ?_ | refine inN ?_ | refine inH ?_ | refine fS ?_ | refine fR ?_ | refine fQ ?_ | refine fE ?_ | refine fT ?_ | refine awBlock ?_ | refine awExit ?_ | refine awRet ?_ | refine awSkip ?_) | ((with_reducible refine awReg fun K hok hK => ?_); clear hok; (try simp (maxSteps := 10000000) (disch := first | omega | simp) []); (repeat' first | (with_reducible refine hK _ (by simp) ?_) | ((first | ((with_reducible refine callF' fun K2 hK2 => ?_); (try simp (maxSteps := 10000000) (disch := first | omega | simp) []); (refine hK2 _ _ _ (topic_ok m id) fun _ => ?_); clear hK2 K2) | ((with_reducible refine sideQ' ?_ ?_ fun K2 hK2 => ?_); exact rfl; exact rfl; (try simp (maxSteps := 10000000) (disch := first | omega | simp) []); with_reducible refine hK2 _ _ ?_; clear hK2 K2) | ((with_reducible refine side' ?_ fun K2 hK2 => ?_); exact rfl; (try simp (maxSteps := 10000000) (disch := first | omega | simp) []); refine hK2 _ _ (by simp) ?_; clear hK2 K2)); (try simp (maxSteps := 10000000) (disch := first | omega | simp) []))) <;> clear hK K) | ((with_reducible refine awCond fun A B hA hB => ?_); simp (maxSteps := 10000000) (disch := first | omega | simp) []; (first | refine ⟨fun h => hA ?_, fun h => hB ?_⟩ | refine hA ?_ | refine hB ?_) <;> (clear hA hB A B; (try (exfalso; omega))))
  · (refine aEnR (aRes [true] fun K hK => ?_); simp (maxSteps := 10000000) (disch := first | omega | simp) []; refine hK _ ?_ (by simp); clear hK; (try unfold Image.dropRec); ((repeat' split) <;> first | rfl | (exfalso; omega) | (exfalso; simp only [*, Bool.false_eq_true, Bool.true_eq_false, not_true, not_false_iff] at *; done) | (simp_all; done) | (exfalso; simp_all; omega)))
  refine awFor m.topics.length (fun i (s : List Topic) => s ++ (m.topics.drop i).filter (fun t => t.id != id) = m.topics.filter (fun t => t.id != id) ∧ s.length ≤ i) (fun i s => [(9, .p (I i)), (8, .p (.own [.sl (m.brokers.map encB), .uq (s.map encT), .sl (m.configs.map encC), .sl (m.done.map encD), I m.last])), (4, .p (.own [.uq [], .uq [], .uq [], .uq [], I 0])), (2, .p (.own (encM m).cells)), (1, .p (I id))]) [] (Wk.ofA (by simp)) (by simp) fun i s hi hs => ?_
  obtain ⟨hs, hsl⟩ := hs
  repeat' first | (with_reducible first | refine thN ?_ | refine thE ?_ | refine inN ?_ | refine inH ?_ | refine fS ?_ | refine fR ?_ | refine fQ ?_ | refine fE ?_ | refine fT ?_ | refine awBlock ?_ | refine awExit ?_ | refine awRet ?_ | refine awSkip ?_) | ((with_reducible refine awReg fun K hok hK => ?_); clear hok; (try simp (maxSteps := 10000000) (disch := first | omega | simp) []); (repeat' first | (with_reducible refine hK _ (by simp) ?_) | ((first | ((with_reducible refine sideQ' ?_ ?_ fun K2 hK2 => ?_); exact rfl; exact rfl; (try simp (maxSteps := 10000000) (disch := first | omega | simp) []); with_reducible refine hK2 _ _ ?_; clear hK2 K2) | ((with_reducible refine side' ?_ fun K2 hK2 => ?_); exact rfl; (try simp (maxSteps := 10000000) (disch := first | omega | simp) []); refine hK2 _ _ (by simp) ?_; clear hK2 K2)); (try simp (maxSteps := 10000000) (disch := first | omega | simp) []))) <;> clear hK K) | ((with_reducible refine awCond fun A B hA hB => ?_); simp (maxSteps := 10000000) (disch := first | omega | simp) []; (first | refine ⟨fun h => hA ?_, fun h => hB ?_⟩ | refine hA ?_ | refine hB ?_) <;> (clear hA hB A B; (try (exfalso; omega))))
  · rw [drop_cons (by assumption)] at hs
    refine ⟨by assumption, s ++ [m.topics[i]], ⟨?_, by simp; omega⟩, Wk.ofA (by simp; done)⟩
    rw [← hs]; clear hs; simp [*, -List.getElem_cons_drop]
  · rw [drop_cons (by assumption)] at hs
    refine ⟨by assumption, s, ⟨?_, by omega⟩, Wk.ofA (by simp; done)⟩
    rw [← hs]; clear hs; simp [*, -List.getElem_cons_drop]
  rw [drop_nil (by assumption)] at hs
  simp at hs
  subst hs
  clear hi hsl
  refine awFor m.configs.length (fun i (s : List Config) => s ++ (m.configs.drop i).filter (fun t => t.topic != id) = m.configs.filter (fun t => t.topic != id) ∧ s.length ≤ i) (fun i s => [(10, .p (I i)), (8, .p (.own [.sl (m.brokers.map encB), .uq ((m.topics.filter fun t => t.id != id).map encT), .uq (s.map encC), .sl (m.done.map encD), I m.last])), (4, .p (.own [.uq [], .uq [], .uq [], .uq [], I 0])), (2, .p (.own (encM m).cells)), (1, .p (I id))]) [] (Wk.ofA (by simp)) (by simp) fun i s hi hs => ?_
  obtain ⟨hs, hsl⟩ := hs
  repeat' first | (with_reducible first | refine thN ?_ | refine thE ?_ | refine inN ?_ | refine inH ?_ | refine fS ?_ | refine fR ?_ | refine fQ ?_ | refine fE ?_ | refine fT ?_ | refine awBlock ?_ | refine awExit ?_ | refine awRet ?_ | refine awSkip ?_) | ((with_reducible refine awReg fun K hok hK => ?_); clear hok; (try simp (maxSteps := 10000000) (disch := first | omega | simp) []); (repeat' first | (with_reducible refine hK _ (by simp) ?_) | ((first | ((with_reducible refine sideQ' ?_ ?_ fun K2 hK2 => ?_); exact rfl; exact rfl; (try simp (maxSteps := 10000000) (disch := first | omega | simp) []); with_reducible refine hK2 _ _ ?_; clear hK2 K2) | ((with_reducible refine side' ?_ fun K2 hK2 => ?_); exact rfl; (try simp (maxSteps := 10000000) (disch := first | omega | simp) []); refine hK2 _ _ (by simp) ?_; clear hK2 K2)); (try simp (maxSteps := 10000000) (disch := first | omega | simp) []))) <;> clear hK K) | ((with_reducible refine awCond fun A B hA hB => ?_); simp (maxSteps := 10000000) (disch := first | omega | simp) []; (first | refine ⟨fun h => hA ?_, fun h => hB ?_⟩ | refine hA ?_ | refine hB ?_) <;> (clear hA hB A B; (try (exfalso; omega))))
  · rw [drop_cons (by assumption)] at hs
    refine ⟨by assumption, s ++ [m.configs[i]], ⟨?_, by simp; omega⟩, Wk.ofA (by simp; done)⟩
    rw [← hs]; clear hs; simp [*, -List.getElem_cons_drop]
  · rw [drop_cons (by assumption)] at hs
    refine ⟨by assumption, s, ⟨?_, by omega⟩, Wk.ofA (by simp; done)⟩
    rw [← hs]; clear hs; simp [*, -List.getElem_cons_drop]
  rw [drop_nil (by assumption)] at hs
  simp at hs
  subst hs
  (refine aEnR (aRes [true] fun K hK => ?_); simp (maxSteps := 10000000) (disch := first | omega | simp) []; refine hK _ ?_ (by simp); clear hK; (try unfold Image.dropRec); ((repeat' split) <;> first | rfl | (exfalso; omega) | (exfalso; simp only [*, Bool.false_eq_true, Bool.true_eq_false, not_true, not_false_iff] at *; done) | (simp_all; done) | (exfalso; simp_all; omega)))
end
end Go.Am
end
section
set_option maxRecDepth 100000
set_option maxHeartbeats 0
namespace Go.Am
open Go
noncomputable section
def c69 : SC := (.seq (.reg [⟨some 4, .box 36 (.tmp 0), none, []⟩,
  ⟨some 7, .box 52 (.tmp 3), none, []⟩,
  ⟨some 8, .alloc 36, none, []⟩] [1, 2, 4, 7, 8]) (.seq (.reg [⟨some 13, .load 36 (.tmp 4), none, []⟩,
  ⟨some 9, .alloc 36, none, []⟩,
  ⟨none, .store 36 (.tmp 9) (.tmp 13), none, []⟩] [1, 2, 4, 7, 8, 9]) (.seq (.reg [⟨some 14, .fieldAddr 36 (.tmp 9) 1, none, []⟩,
  ⟨none, .store 32 (.tmp 14) (.const (.slice none 0 0)), none, []⟩] [1, 2, 4, 7, 8, 9]) (.seq (.reg [⟨some 10, .assign (.const (.int .i64 0)), none, []⟩] [1, 2, 4, 7, 8, 9, 10, 21]) (.seq (.block 0 (.seq (.loop (.seq (.reg [⟨some 15, .move (.tmp 10), none, []⟩,
  ⟨some 16, .fieldAddr 36 (.tmp 4) 1, none, []⟩,
  ⟨some 17, .load 32 (.tmp 16), none, []⟩,
  ⟨some 18, .call { callee := .builtin .len, args := #[.tmp 17], argTypes := #[32] }, none, []⟩,
  ⟨some 19, .binOp .lss 3 (.tmp 15) (.tmp 18) 3, none, []⟩] [1, 2, 4, 7, 8, 9, 10, 19, 21]) (.seq (.cond (.tmp 19) .skip (.exit 0)) (.seq (.block 1 (.seq (.reg [⟨some 22, .fieldAddr 36 (.tmp 4) 1, none, []⟩,
  ⟨some 23, .load 32 (.tmp 22), none, []⟩,
  ⟨some 24, .move (.tmp 10), none, []⟩,
  ⟨some 25, .indexAddr 32 (.tmp 23) (.tmp 24), none, []⟩,
  ⟨some 26, .load 50 (.tmp 25), none, []⟩,
  ⟨some 11, .alloc 50, none, []⟩,
  ⟨none, .store 50 (.tmp 11) (.tmp 26), none, []⟩] [1, 2, 4, 7, 8, 9, 10, 11, 21]) (.seq (.reg [⟨some 27, .fieldAddr 50 (.tmp 11) 0, none, []⟩,
  ⟨some 28, .load 3 (.tmp 27), none, []⟩,
  ⟨some 29, .move (.tmp 1), none, []⟩,
  ⟨some 30, .binOp .eql 3 (.tmp 28) (.tmp 29) 3, none, []⟩] [1, 2, 4, 7, 8, 9, 10, 11, 21, 30]) (.seq (.cond (.tmp 30) (.seq (.reg [⟨some 12, .assign (.const (.slice none 0 0)), none, []⟩] [1, 2, 4, 7, 8, 9, 10, 11, 12, 21, 36, 40, 52]) (.seq (.reg [⟨some 31, .move (.tmp 12), none, []⟩,
  ⟨some 32, .fieldAddr 50 (.tmp 11) 2, none, []⟩,
  ⟨some 33, .load 48 (.tmp 32), none, []⟩,
  ⟨some 34, .move (.tmp 2), none, []⟩,
  ⟨some 35, .slice 48 (.tmp 33) none (some (.tmp 34)) none, none, []⟩,
  ⟨some 36, .call { callee := .builtin .append, args := #[.tmp 31, .tmp 35], argTypes := #[48, 48] }, none, []⟩,
  ⟨some 12, .assign (.tmp 36), none, []⟩] [1, 2, 4, 7, 8, 9, 10, 11, 12, 21, 36, 40, 52]) (.seq (.reg [⟨some 37, .move (.tmp 12), none, []⟩,
  ⟨some 38, .load 52 (.tmp 7), none, []⟩,
  ⟨some 39, .buildSlice 48 1 #[(0, .tmp 38)], none, []⟩,
  ⟨some 40, .call { callee := .builtin .append, args := #[.tmp 37, .tmp 39], argTypes := #[48, 48] }, none, []⟩,
  ⟨some 12, .assign (.tmp 40), none, []⟩] [1, 2, 4, 7, 8, 9, 10, 11, 12, 21, 36, 40, 52]) (.seq (.reg [⟨some 41, .move (.tmp 2), none, []⟩,
  ⟨some 42, .fieldAddr 50 (.tmp 11) 2, none, []⟩,
  ⟨some 43, .load 48 (.tmp 42), none, []⟩,
  ⟨some 44, .call { callee := .builtin .len, args := #[.tmp 43], argTypes := #[48] }, none, []⟩,
  ⟨some 45, .binOp .lss 3 (.tmp 41) (.tmp 44) 3, none, []⟩] [1, 2, 4, 7, 8, 9, 10, 11, 12, 21, 36, 40, 45, 52]) (.seq (.cond (.tmp 45) (.seq (.reg [⟨some 46, .move (.tmp 12), none, []⟩,
  ⟨some 47, .fieldAddr 50 (.tmp 11) 2, none, []⟩,
  ⟨some 48, .load 48 (.tmp 47), none, []⟩,
  ⟨some 49, .move (.tmp 2), none, []⟩,
  ⟨some 50, .binOp .add 3 (.tmp 49) (.const (.int .i64 1)) 3, none, []⟩,
  ⟨some 51, .slice 48 (.tmp 48) (some (.tmp 50)) none none, none, []⟩,
  ⟨some 52, .call { callee := .builtin .append, args := #[.tmp 46, .tmp 51], argTypes := #[48, 48] }, none, []⟩,
  ⟨some 12, .assign (.tmp 52), none, []⟩] [1, 2, 4, 7, 8, 9, 10, 11, 12, 21, 36, 40, 52]) .skip) .skip) (.seq (.reg [⟨some 53, .move (.tmp 12), none, []⟩,
  ⟨some 54, .fieldAddr 50 (.tmp 11) 2, none, []⟩,
  ⟨none, .store 48 (.tmp 54) (.tmp 53), none, []⟩] [1, 2, 4, 7, 8, 9, 10, 11, 21]) .skip)))))) .skip) (.seq (.reg [⟨some 55, .fieldAddr 36 (.tmp 9) 1, none, []⟩,
  ⟨some 56, .load 32 (.tmp 55), none, []⟩,
  ⟨some 57, .load 50 (.tmp 11), none, []⟩,
  ⟨some 58, .buildSlice 32 1 #[(0, .tmp 57)], none, []⟩,
  ⟨some 59, .call { callee := .builtin .append, args := #[.tmp 56, .tmp 58], argTypes := #[32, 32] }, none, []⟩,
  ⟨some 60, .fieldAddr 36 (.tmp 9) 1, none, []⟩,
  ⟨none, .store 32 (.tmp 60) (.tmp 59), none, []⟩] [1, 2, 4, 7, 8, 9, 10, 21]) .skip))))) (.seq (.reg [⟨some 20, .move (.tmp 10), none, []⟩,
  ⟨some 21, .binOp .add 3 (.tmp 20) (.const (.int .i64 1)) 3, none, []⟩,
  ⟨some 10, .assign (.tmp 21), none, []⟩] [1, 2, 4, 7, 8, 9, 10, 21]) .skip))))) .skip)) (.seq (.reg [⟨some 61, .load 36 (.tmp 9), none, []⟩,
  ⟨none, .store 36 (.tmp 8) (.tmp 61), none, []⟩] [8]) .ret))))))
theorem s69 : TextK Proofs.Tryz.prog 0 69 62 [ResultVar.cell 8 36] c69 := .mk' Proofs.Tryz.f69 _ (by kernel_rfl) rfl rfl rfl (by kernel_rfl) rfl (by kernel_rfl)
theorem putPart_ok (m : Image) (id : Int) (n : Nat) (p : Part) (hm : m.Pre) (hn : ∀ t ∈ m.topics, t.id = id → n ≤ t.parts.length) : ACall pg 69 [encM m, I id, I n, encP p] (encM (m.putPart id n p)) := by
  refine s69.call mo (by simp) fun hxs => ?_
  clear hxs
  have htl := hm.tl
  unfold c69
  repeat' first | (with_reducible first | refine thN ?_ | refine thE ?_ | refine inN ?_ | refine inH ?_ | refine fF ?_ | refine fS ?_ | refine fR ?_ | refine fQ ?_ | refine fC ?_ | refine fE ?_ | refine awBlock ?_ | refine awExit ?_ | refine awRet ?_ | refine awSkip ?_) | ((with_reducible refine awReg fun K hok hK => ?_); clear hok; (try simp (maxSteps := 10000000) (disch := first | omega | simp) []); (repeat' first | (with_reducible refine hK _ (by simp) ?_)) <;> clear hK K) | ((with_reducible refine awCond fun A B hA hB => ?_); simp (maxSteps := 10000000) (disch := first | omega | simp) []; (first | refine ⟨fun h => hA ?_, fun h => hB ?_⟩ | refine hA ?_ | refine hB ?_) <;> (clear hA hB A B; (try (exfalso; omega))))
  refine awFor m.topics.length (fun i (s : List Topic) => s ++ (m.topics.drop i).map (fun t => if t.id = id then { t with parts := setAt t.parts n p } else t) = (m.putPart id n p).topics ∧ s.length ≤ i) (fun i s => [(10, .p (I i)), (9, .p (.own [.sl (m.brokers.map encB), .uq (s.map encT), .sl (m.configs.map encC), .sl (m.done.map encD), I m.last])), (8, .p (.own [.uq [], .uq [], .uq [], .uq [], I 0])), (7, .p (.own (encP p).cells)), (4, .p (.own (encM m).cells)), (2, .p (I n)), (1, .p (I id))]) [] (Wk.ofA (by simp)) (by simp [Image.putPart]) fun i s hi hs => ?_
  obtain ⟨hs, hsl⟩ := hs
  repeat' first | (with_reducible first | refine thN ?_ | refine thE ?_ | refine inN ?_ | refine inH ?_ | refine fF ?_ | refine fS ?_ | refine fR ?_ | refine fQ ?_ | refine fC ?_ | refine fE ?_ | refine awBlock ?_ | refine awExit ?_ | refine awRet ?_ | refine awSkip ?_) | ((with_reducible refine awReg fun K hok hK => ?_); clear hok; (try simp (maxSteps := 10000000) (disch := first | omega | simp) []); (repeat' first | (with_reducible refine hK _ (by simp) ?_)) <;> clear hK K) | ((with_reducible refine awCond fun A B hA hB => ?_); simp (maxSteps := 10000000) (disch := first | omega | simp) []; (first | refine ⟨fun h => hA ?_, fun h => hB ?_⟩ | refine hA ?_ | refine hB ?_) <;> (clear hA hB A B; (try (exfalso; omega))))
  · have hnn := hn m.topics[i] (List.getElem_mem _) (by assumption)
    have hpp := hm.pl m.topics[i] (List.getElem_mem _)
    repeat' first | (with_reducible first | refine thN ?_ | refine thE ?_ | refine inN ?_ | refine inH ?_ | refine fF ?_ | refine fS ?_ | refine fR ?_ | refine fQ ?_ | refine fC ?_ | refine fE ?_ | refine awBlock ?_ | refine awExit ?_ | refine awRet ?_ | refine awSkip ?_) | ((with_reducible refine awReg fun K hok hK => ?_); clear hok; (try simp (maxSteps := 10000000) (disch := first | omega | simp) []); (repeat' first | (with_reducible refine hK _ (by simp) ?_)) <;> clear hK K) | ((with_reducible refine awCond fun A B hA hB => ?_); simp (maxSteps := 10000000) (disch := first | omega | simp) []; (first | refine ⟨fun h => hA ?_, fun h => hB ?_⟩ | refine hA ?_ | refine hB ?_) <;> (clear hA hB A B; (try (exfalso; omega))))
    all_goals
      have hi2 : i < m.topics.length := by assumption
      rw [drop_cons hi2] at hs
      refine ⟨hi2, s ++ [⟨m.topics[i].id, m.topics[i].name, setAt m.topics[i].parts n p⟩], ⟨?_, by simp; omega⟩, Wk.ofA ?_⟩
      · rw [← hs]; clear hs; simp [*, -List.getElem_cons_drop]
      · clear hs; simp [setAt, drop_nil, *]
        try omega
  · rw [drop_cons (by assumption)] at hs
    refine ⟨by assumption, s ++ [m.topics[i]], ⟨?_, by simp; omega⟩, Wk.ofA (by simp; done)⟩
    rw [← hs]; clear hs; simp [*, -List.getElem_cons_drop]
  · rw [drop_nil (by assumption)] at hs
    simp at hs
    subst hs
    (refine aEnR (aRes [true] fun K hK => ?_); simp (maxSteps := 10000000) (disch := first | omega | simp) []; refine hK _ ?_ (by simp); clear hK; (try unfold Image.putPart); ((repeat' split) <;> first | rfl | (exfalso; omega) | (exfalso; simp only [*, Bool.false_eq_true, Bool.true_eq_false, not_true, not_false_iff] at *; done) | (simp_all; done) | (exfalso; simp_all; omega)))
end
end Go.Am
end
section
set_option maxRecDepth 100000
set_option maxHeartbeats 0
namespace Go.Am
open Go
noncomputable section
def c68 : SC := (.seq (.reg [⟨some 2, .box 36 (.tmp 0), none, []⟩,
  ⟨some 3, .box 52 (.tmp 1), none, []⟩,
  ⟨some 4, .assign (.const (.int .i64 0)), none, []⟩] [2, 3]) (.seq (.reg [⟨some 11, .fieldAddr 52 (.tmp 3) 0, none, []⟩,
  ⟨some 12, .load 23 (.tmp 11), none, []⟩,
  ⟨some 13, .call { callee := .builtin .len, args := #[.tmp 12], argTypes := #[23] }, none, []⟩,
  ⟨some 14, .binOp .eql 3 (.tmp 13) (.const (.int .i64 0)) 3, none, []⟩] [2, 3, 14]) (.seq (.cond (.tmp 14) (.seq (.reg [⟨some 4, .assign (.const (.int .i64 18)), none, []⟩] [4]) .ret) .skip) (.seq (.reg [⟨some 5, .assign (.const (.int .i64 0)), none, []⟩] [2, 3, 5, 21]) (.seq (.block 0 (.seq (.loop (.seq (.reg [⟨some 15, .move (.tmp 5), none, []⟩,
  ⟨some 16, .fieldAddr 52 (.tmp 3) 0, none, []⟩,
  ⟨some 17, .load 23 (.tmp 16), none, []⟩,
  ⟨some 18, .call { callee := .builtin .len, args := #[.tmp 17], argTypes := #[23] }, none, []⟩,
  ⟨some 19, .binOp .lss 3 (.tmp 15) (.tmp 18) 3, none, []⟩] [2, 3, 5, 19, 21]) (.seq (.cond (.tmp 19) .skip (.exit 0)) (.seq (.block 1 (.seq (.reg [⟨some 23, .load 36 (.tmp 2), none, [24, 25, 26, 27, 28, 6]⟩,
  ⟨some 24, .fieldAddr 52 (.tmp 3) 0, none, [23, 26, 6]⟩,
  ⟨some 25, .load 23 (.tmp 24), none, [23, 26, 6]⟩,
  ⟨some 26, .move (.tmp 5), none, [23, 24, 25, 6]⟩,
  ⟨some 27, .indexAddr 23 (.tmp 25) (.tmp 26), none, [23, 6]⟩,
  ⟨some 28, .load 3 (.tmp 27), none, [23, 6]⟩,
  ⟨some 29, .call { callee := .value (.func 35), args := #[.tmp 23, .tmp 28], argTypes := #[36, 3] }, none, [6]⟩,
  ⟨some 22, .move (.tmp 29), none, [6]⟩,
  ⟨some 30, .extract (.tmp 22) 0, none, [31, 6]⟩,
  ⟨some 31, .extract (.tmp 22) 1, none, [30, 6, 6]⟩,
  ⟨some 6, .alloc 84, none, [23, 24, 25, 26, 27, 28, 29, 22, 30, 31]⟩,
  ⟨none, .store 84 (.tmp 6) (.tmp 30), none, [31]⟩,
  ⟨some 7, .assign (.tmp 31), none, []⟩] [2, 3, 5, 7, 21, 22, 29, 31]) (.seq (.reg [⟨some 32, .move (.tmp 7), none, []⟩,
  ⟨some 33, .unOp .not 4 (.tmp 32), none, []⟩] [2, 3, 5, 21, 33]) (.seq (.cond (.tmp 33) (.seq (.reg [⟨some 4, .assign (.const (.int .i64 18)), none, []⟩] [4]) .ret) .skip) .skip)))) (.seq (.reg [⟨some 20, .move (.tmp 5), none, []⟩,
  ⟨some 21, .binOp .add 3 (.tmp 20) (.const (.int .i64 1)) 3, none, []⟩,
  ⟨some 5, .assign (.tmp 21), none, []⟩] [2, 3, 5, 21]) .skip))))) .skip)) (.seq (.reg [⟨some 34, .fieldAddr 52 (.tmp 3) 1, none, []⟩,
  ⟨some 35, .load 23 (.tmp 34), none, []⟩,
  ⟨some 36, .call { callee := .builtin .len, args := #[.tmp 35], argTypes := #[23] }, none, []⟩,
  ⟨some 37, .binOp .eql 3 (.tmp 36) (.const (.int .i64 0)) 3, none, []⟩] [2, 3, 37]) (.seq (.cond (.tmp 37) (.seq (.reg [⟨some 4, .assign (.const (.int .i64 18)), none, []⟩] [4]) .ret) .skip) (.seq (.reg [⟨some 8, .assign (.const (.int .i64 0)), none, []⟩] [2, 3, 8, 44]) (.seq (.block 2 (.seq (.loop (.seq (.reg [⟨some 38, .move (.tmp 8), none, []⟩,
  ⟨some 39, .fieldAddr 52 (.tmp 3) 1, none, []⟩,
  ⟨some 40, .load 23 (.tmp 39), none, []⟩,
  ⟨some 41, .call { callee := .builtin .len, args := #[.tmp 40], argTypes := #[23] }, none, []⟩,
  ⟨some 42, .binOp .lss 3 (.tmp 38) (.tmp 41) 3, none, []⟩] [2, 3, 8, 42, 44]) (.seq (.cond (.tmp 42) .skip (.exit 2)) (.seq (.block 3 (.seq (.reg [⟨some 45, .fieldAddr 52 (.tmp 3) 0, none, [47, 48, 49, 50, 51]⟩,
  ⟨some 46, .load 23 (.tmp 45), none, [47, 48, 49, 50, 51]⟩,
  ⟨some 47, .fieldAddr 52 (.tmp 3) 1, none, [45, 46, 49]⟩,
  ⟨some 48, .load 23 (.tmp 47), none, [45, 46, 49]⟩,
  ⟨some 49, .move (.tmp 8), none, [45, 46, 47, 48]⟩,
  ⟨some 50, .indexAddr 23 (.tmp 48) (.tmp 49), none, [45, 46]⟩,
  ⟨some 51, .load 3 (.tmp 50), none, [45, 46]⟩,
  ⟨some 52, .call { callee := .value (.func 18), args := #[.tmp 46, .tmp 51], argTypes := #[23, 3] }, none, []⟩,
  ⟨some 53, .unOp .not 4 (.tmp 52), none, []⟩] [2, 3, 8, 44, 53]) (.seq (.cond (.tmp 53) (.seq (.reg [⟨some 4, .assign (.const (.int .i64 18)), none, []⟩] [4]) .ret) .skip) .skip))) (.seq (.reg [⟨some 43, .move (.tmp 8), none, []⟩,
  ⟨some 44, .binOp .add 3 (.tmp 43) (.const (.int .i64 1)) 3, none, []⟩,
  ⟨some 8, .assign (.tmp 44), none, []⟩] [2, 3, 8, 44]) .skip))))) .skip)) (.seq (.reg [⟨some 54, .fieldAddr 52 (.tmp 3) 2, none, []⟩,
  ⟨some 55, .load 3 (.tmp 54), none, []⟩,
  ⟨some 56, .binOp .neq 3 (.tmp 55) (.const (.int .i64 0)) 3, none, []⟩,
  ⟨some 57, .move (.tmp 56), none, []⟩,
  ⟨some 58, .fieldAddr 52 (.tmp 3) 1, (some (57, true)), []⟩,
  ⟨some 59, .load 23 (.tmp 58), (some (57, true)), []⟩,
  ⟨some 60, .fieldAddr 52 (.tmp 3) 2, (some (57, true)), []⟩,
  ⟨some 61, .load 3 (.tmp 60), (some (57, true)), []⟩,
  ⟨some 62, .call { callee := .value (.func 18), args := #[.tmp 59, .tmp 61], argTypes := #[23, 3] }, (some (57, true)), []⟩,
  ⟨some 63, .unOp .not 4 (.tmp 62), (some (57, true)), []⟩,
  ⟨some 64, .move (.tmp 63), (some (57, true)), []⟩,
  ⟨some 65, .load 36 (.tmp 2), (some (64, false)), []⟩,
  ⟨some 66, .fieldAddr 52 (.tmp 3) 2, (some (64, false)), []⟩,
  ⟨some 67, .load 3 (.tmp 66), (some (64, false)), []⟩,
  ⟨some 68, .call { callee := .value (.func 19), args := #[.tmp 65, .tmp 67], argTypes := #[36, 3] }, (some (64, false)), []⟩,
  ⟨some 69, .unOp .not 4 (.tmp 68), (some (64, false)), []⟩,
  ⟨some 70, .pick (.tmp 64) (.const (.bool true)) (.tmp 69), (some (57, true)), []⟩,
  ⟨some 71, .pick (.tmp 57) (.tmp 70) (.const (.bool false)), none, []⟩] [3, 56, 57, 63, 64, 69, 70, 71]) (.seq (.cond (.tmp 71) (.seq (.reg [⟨some 4, .assign (.const (.int .i64 17)), none, []⟩] [4]) .ret) .skip) (.seq (.reg [⟨some 9, .assign (.const (.int .i64 0)), none, []⟩] [3, 9, 78]) (.seq (.block 4 (.seq (.loop (.seq (.reg [⟨some 72, .move (.tmp 9), none, []⟩,
  ⟨some 73, .fieldAddr 52 (.tmp 3) 4, none, []⟩,
  ⟨some 74, .load 23 (.tmp 73), none, []⟩,
  ⟨some 75, .call { callee := .builtin .len, args := #[.tmp 74], argTypes := #[23] }, none, []⟩,
  ⟨some 76, .binOp .lss 3 (.tmp 72) (.tmp 75) 3, none, []⟩] [3, 9, 76, 78]) (.seq (.cond (.tmp 76) .skip (.exit 4)) (.seq (.block 5 (.seq (.reg [⟨some 79, .fieldAddr 52 (.tmp 3) 0, none, [81, 82, 83, 84, 85]⟩,
  ⟨some 80, .load 23 (.tmp 79), none, [81, 82, 83, 84, 85]⟩,
  ⟨some 81, .fieldAddr 52 (.tmp 3) 4, none, [79, 80, 83]⟩,
  ⟨some 82, .load 23 (.tmp 81), none, [79, 80, 83]⟩,
  ⟨some 83, .move (.tmp 9), none, [79, 80, 81, 82]⟩,
  ⟨some 84, .indexAddr 23 (.tmp 82) (.tmp 83), none, [79, 80]⟩,
  ⟨some 85, .load 3 (.tmp 84), none, [79, 80]⟩,
  ⟨some 86, .call { callee := .value (.func 18), args := #[.tmp 80, .tmp 85], argTypes := #[23, 3] }, none, []⟩,
  ⟨some 87, .unOp .not 4 (.tmp 86), none, []⟩,
  ⟨some 88, .move (.tmp 87), none, []⟩,
  ⟨some 89, .fieldAddr 52 (.tmp 3) 5, (some (88, false)), [91, 92, 93, 94, 95]⟩,
  ⟨some 90, .load 23 (.tmp 89), (some (88, false)), [91, 92, 93, 94, 95]⟩,
  ⟨some 91, .fieldAddr 52 (.tmp 3) 4, (some (88, false)), [89, 90, 93]⟩,
  ⟨some 92, .load 23 (.tmp 91), (some (88, false)), [89, 90, 93]⟩,
  ⟨some 93, .move (.tmp 9), (some (88, false)), [89, 90, 91, 92]⟩,
  ⟨some 94, .indexAddr 23 (.tmp 92) (.tmp 93), (some (88, false)), [89, 90]⟩,
  ⟨some 95, .load 3 (.tmp 94), (some (88, false)), [89, 90]⟩,
  ⟨some 96, .call { callee := .value (.func 18), args := #[.tmp 90, .tmp 95], argTypes := #[23, 3] }, (some (88, false)), []⟩,
  ⟨some 97, .pick (.tmp 88) (.const (.bool true)) (.tmp 96), none, []⟩] [3, 9, 78, 87, 88, 96, 97]) (.seq (.cond (.tmp 97) (.seq (.reg [⟨some 4, .assign (.const (.int .i64 18)), none, []⟩] [4]) .ret) .skip) .skip))) (.seq (.reg [⟨some 77, .move (.tmp 9), none, []⟩,
  ⟨some 78, .binOp .add 3 (.tmp 77) (.const (.int .i64 1)) 3, none, []⟩,
  ⟨some 9, .assign (.tmp 78), none, []⟩] [3, 9, 78]) .skip))))) .skip)) (.seq (.reg [⟨some 10, .assign (.const (.int .i64 0)), none, []⟩] [3, 10, 104]) (.seq (.block 6 (.seq (.loop (.seq (.reg [⟨some 98, .move (.tmp 10), none, []⟩,
  ⟨some 99, .fieldAddr 52 (.tmp 3) 5, none, []⟩,
  ⟨some 100, .load 23 (.tmp 99), none, []⟩,
  ⟨some 101, .call { callee := .builtin .len, args := #[.tmp 100], argTypes := #[23] }, none, []⟩,
  ⟨some 102, .binOp .lss 3 (.tmp 98) (.tmp 101) 3, none, []⟩] [3, 10, 102, 104]) (.seq (.cond (.tmp 102) .skip (.exit 6)) (.seq (.block 7 (.seq (.reg [⟨some 105, .fieldAddr 52 (.tmp 3) 0, none, [107, 108, 109, 110, 111]⟩,
  ⟨some 106, .load 23 (.tmp 105), none, [107, 108, 109, 110, 111]⟩,
  ⟨some 107, .fieldAddr 52 (.tmp 3) 5, none, [105, 106, 109]⟩,
  ⟨some 108, .load 23 (.tmp 107), none, [105, 106, 109]⟩,
  ⟨some 109, .move (.tmp 10), none, [105, 106, 107, 108]⟩,
  ⟨some 110, .indexAddr 23 (.tmp 108) (.tmp 109), none, [105, 106]⟩,
  ⟨some 111, .load 3 (.tmp 110), none, [105, 106]⟩,
  ⟨some 112, .call { callee := .value (.func 18), args := #[.tmp 106, .tmp 111], argTypes := #[23, 3] }, none, []⟩,
  ⟨some 113, .unOp .not 4 (.tmp 112), none, []⟩] [3, 10, 104, 113]) (.seq (.cond (.tmp 113) (.seq (.reg [⟨some 4, .assign (.const (.int .i64 18)), none, []⟩] [4]) .ret) .skip) .skip))) (.seq (.reg [⟨some 103, .move (.tmp 10), none, []⟩,
  ⟨some 104, .binOp .add 3 (.tmp 103) (.const (.int .i64 1)) 3, none, []⟩,
  ⟨some 10, .assign (.tmp 104), none, []⟩] [3, 10, 104]) .skip))))) .skip)) (.seq (.reg [⟨some 4, .assign (.const (.int .i64 0)), none, []⟩] [4]) .ret))))))))))))))))
theorem s68 : TextK Proofs.Tryz.prog 0 68 114 [ResultVar.tmp 4] c68 := .mk' Proofs.Tryz.f68 _ (by kernel_rfl) rfl rfl rfl (by kernel_rfl) rfl (by kernel_rfl)
theorem right_ok (m : Image) (p : Part) : ACall pg 68 [encM m, encP p] (I (m.right p)) := by
  refine s68.call mo (by simp) fun hxs => ?_
  have hp1 := okLenI (l := p.ids) (by simpa using hxs.2.1.1)
  have hp2 := okLenI (l := p.isr) (by simpa using hxs.2.1.2.1)
  have hp3 := okLenI (l := p.add) (by simpa using hxs.2.1.2.2.2.2.1)
  have hp4 := okLenI (l := p.drop) (by simpa using hxs.2.1.2.2.2.2.2.1)
  clear hxs
  unfold c68
  repeat' first | (with_reducible first | refine thN ?_ | refine thR ?_ | refine thE ?_ | refine inN ?_ | refine inR ?_ | refine inH ?_ | refine fS ?_ | refine fR ?_ | refine fQ ?_ | refine fE ?_ | refine fT ?_ | refine awBlock ?_ | refine awExit ?_ | refine awRet ?_ | refine awSkip ?_) | ((with_reducible refine awReg fun K hok hK => ?_); clear hok; (try simp (maxSteps := 10000000) (disch := first | omega | simp) []); (repeat' first | (with_reducible refine hK _ (by simp) ?_) | ((with_reducible refine gdT (fun h => ?_) (fun h => ?_)) <;> (simp (maxSteps := 10000000) (disch := first | omega | simp) [h]; (try simp at h); (try (exfalso; omega)))) | ((with_reducible refine gdF (fun h => ?_) (fun h => ?_)) <;> (simp (maxSteps := 10000000) (disch := first | omega | simp) [h]; (try simp at h); (try (exfalso; omega)))) | ((first | ((with_reducible refine sideSt' fun K2 hK2 => ?_); (try simp (maxSteps := 10000000) (disch := first | omega | simp) []); refine hK2 _ ?_; clear hK2 K2) | ((with_reducible refine gdU ?_)) | ((with_reducible refine sideQ' ?_ ?_ fun K2 hK2 => ?_); exact rfl; exact rfl; (try simp (maxSteps := 10000000) (disch := first | omega | simp) []); with_reducible refine hK2 _ _ ?_; clear hK2 K2) | ((with_reducible refine side' ?_ fun K2 hK2 => ?_); exact rfl; (try simp (maxSteps := 10000000) (disch := first | omega | simp) []); refine hK2 _ _ (by simp) ?_; clear hK2 K2)); (try simp (maxSteps := 10000000) (disch := first | omega | simp) []))) <;> clear hK K) | ((with_reducible refine awCond fun A B hA hB => ?_); simp (maxSteps := 10000000) (disch := first | omega | simp) []; (first | refine ⟨fun h => hA ?_, fun h => hB ?_⟩ | refine hA ?_ | refine hB ?_) <;> (clear hA hB A B; (try (exfalso; omega))))
  · (refine aEnR (aRes [] fun K hK => ?_); simp (maxSteps := 10000000) (disch := first | omega | simp) [Image.right]; refine hK _ ?_ (by simp); clear hK; first | done | (simp (maxSteps := 10000000) (disch := first | omega | simp) [Image.right, *]; done) | (simp (maxSteps := 10000000) (disch := first | omega | simp) [Image.right, *]; omega) | (simp_all [Image.right]; done) | (simp_all [Image.right]; omega))
  refine awFor p.ids.length (fun i (_ : Unit) => ∀ n ∈ p.ids.take i, ((m.broker n).isNone) = false) (fun i _ => [(5, .p (I i)), (2, .p (.own (encM m).cells)), (3, .p (.own (encP p).cells))]) () (Wk.ofA ?_) (by simp) fun i _ hi hni => ?_
  · simp
  repeat' first | (with_reducible first | refine thN ?_ | refine thR ?_ | refine thE ?_ | refine inN ?_ | refine inR ?_ | refine inH ?_ | refine fS ?_ | refine fR ?_ | refine fQ ?_ | refine fE ?_ | refine fT ?_ | refine awBlock ?_ | refine awExit ?_ | refine awRet ?_ | refine awSkip ?_) | ((with_reducible refine awReg fun K hok hK => ?_); clear hok; (try simp (maxSteps := 10000000) (disch := first | omega | simp) []); (repeat' first | (with_reducible refine hK _ (by simp) ?_) | ((with_reducible refine gdT (fun h => ?_) (fun h => ?_)) <;> (simp (maxSteps := 10000000) (disch := first | omega | simp) [h]; (try simp at h); (try (exfalso; omega)))) | ((with_reducible refine gdF (fun h => ?_) (fun h => ?_)) <;> (simp (maxSteps := 10000000) (disch := first | omega | simp) [h]; (try simp at h); (try (exfalso; omega)))) | ((first | ((with_reducible refine callS' fun K2 hK2 => ?_); (try simp (maxSteps := 10000000) (disch := first | omega | simp) []); (refine hK2 _ _ (broker_ok m _) rfl fun hk9 => ?_); clear hk9; clear hK2 K2) | ((with_reducible refine sideS' fun K2 hK2 => ?_); (try simp (maxSteps := 10000000) (disch := first | omega | simp) []); (refine hK2 _ _ (broker_ok m _) rfl ?_); clear hK2 K2) | ((with_reducible refine sideSt' fun K2 hK2 => ?_); (try simp (maxSteps := 10000000) (disch := first | omega | simp) []); refine hK2 _ ?_; clear hK2 K2) | ((with_reducible refine gdU ?_)) | ((with_reducible refine sideQ' ?_ ?_ fun K2 hK2 => ?_); exact rfl; exact rfl; (try simp (maxSteps := 10000000) (disch := first | omega | simp) []); with_reducible refine hK2 _ _ ?_; clear hK2 K2) | ((with_reducible refine side' ?_ fun K2 hK2 => ?_); exact rfl; (try simp (maxSteps := 10000000) (disch := first | omega | simp) []); refine hK2 _ _ (by simp) ?_; clear hK2 K2)); (try simp (maxSteps := 10000000) (disch := first | omega | simp) []))) <;> clear hK K) | ((with_reducible refine awCond fun A B hA hB => ?_); simp (maxSteps := 10000000) (disch := first | omega | simp) []; (first | refine ⟨fun h => hA ?_, fun h => hB ?_⟩ | refine hA ?_ | refine hB ?_) <;> (clear hA hB A B; (try (exfalso; omega))))
  · have e : p.ids.any (fun n => (m.broker n).isNone) = true := any_at (by assumption) (by simpa using h)
    (refine aEnR (aRes [] fun K hK => ?_); simp (maxSteps := 10000000) (disch := first | omega | simp) [Image.right, e]; refine hK _ ?_ (by simp); clear hK; first | done | (simp (maxSteps := 10000000) (disch := first | omega | simp) [Image.right, e, *]; done) | (simp (maxSteps := 10000000) (disch := first | omega | simp) [Image.right, e, *]; omega) | (simp_all [Image.right, e]; done) | (simp_all [Image.right, e]; omega))
  · exact ⟨by assumption, (), all_take (by assumption) hni (by simpa using h), Wk.ofA (by simp)⟩
  · have e1 : p.ids.any (fun n => (m.broker n).isNone) = false := any_no (by assumption) hni
    (refine aEnR (aRes [] fun K hK => ?_); simp (maxSteps := 10000000) (disch := first | omega | simp) [Image.right, e1]; refine hK _ ?_ (by simp); clear hK; first | done | (simp (maxSteps := 10000000) (disch := first | omega | simp) [Image.right, e1, *]; done) | (simp (maxSteps := 10000000) (disch := first | omega | simp) [Image.right, e1, *]; omega) | (simp_all [Image.right, e1]; done) | (simp_all [Image.right, e1]; omega))
  have e1 : p.ids.any (fun n => (m.broker n).isNone) = false := any_no (by assumption) hni
  clear hni hi
  refine awFor p.isr.length (fun i (_ : Unit) => ∀ n ∈ p.isr.take i, (!p.ids.contains n) = false) (fun i _ => [(8, .p (I i)), (2, .p (.own (encM m).cells)), (3, .p (.own (encP p).cells))]) () (Wk.ofA ?_) (by simp) fun i _ hi hni => ?_
  · simp
  repeat' first | (with_reducible first | refine thN ?_ | refine thR ?_ | refine thE ?_ | refine inN ?_ | refine inR ?_ | refine inH ?_ | refine fS ?_ | refine fR ?_ | refine fQ ?_ | refine fE ?_ | refine fT ?_ | refine awBlock ?_ | refine awExit ?_ | refine awRet ?_ | refine awSkip ?_) | ((with_reducible refine awReg fun K hok hK => ?_); clear hok; (try simp (maxSteps := 10000000) (disch := first | omega | simp) []); (repeat' first | (with_reducible refine hK _ (by simp) ?_) | ((with_reducible refine gdT (fun h => ?_) (fun h => ?_)) <;> (simp (maxSteps := 10000000) (disch := first | omega | simp) [h]; (try simp at h); (try (exfalso; omega)))) | ((with_reducible refine gdF (fun h => ?_) (fun h => ?_)) <;> (simp (maxSteps := 10000000) (disch := first | omega | simp) [h]; (try simp at h); (try (exfalso; omega)))) | ((first | ((with_reducible refine callS' fun K2 hK2 => ?_); (try simp (maxSteps := 10000000) (disch := first | omega | simp) []); (first | refine hK2 _ _ (has_ok _ _) rfl fun hk9 => ?_ | refine hK2 _ _ (alive_ok m p.leader) rfl fun hk9 => ?_); clear hk9; clear hK2 K2) | ((with_reducible refine sideS' fun K2 hK2 => ?_); (try simp (maxSteps := 10000000) (disch := first | omega | simp) []); (first | refine hK2 _ _ (has_ok _ _) rfl ?_ | refine hK2 _ _ (alive_ok m p.leader) rfl ?_); clear hK2 K2) | ((with_reducible refine sideSt' fun K2 hK2 => ?_); (try simp (maxSteps := 10000000) (disch := first | omega | simp) []); refine hK2 _ ?_; clear hK2 K2) | ((with_reducible refine gdU ?_)) | ((with_reducible refine sideQ' ?_ ?_ fun K2 hK2 => ?_); exact rfl; exact rfl; (try simp (maxSteps := 10000000) (disch := first | omega | simp) []); with_reducible refine hK2 _ _ ?_; clear hK2 K2) | ((with_reducible refine side' ?_ fun K2 hK2 => ?_); exact rfl; (try simp (maxSteps := 10000000) (disch := first | omega | simp) []); refine hK2 _ _ (by simp) ?_; clear hK2 K2)); (try simp (maxSteps := 10000000) (disch := first | omega | simp) []))) <;> clear hK K) | ((with_reducible refine awCond fun A B hA hB => ?_); simp (maxSteps := 10000000) (disch := first | omega | simp) []; (first | refine ⟨fun h => hA ?_, fun h => hB ?_⟩ | refine hA ?_ | refine hB ?_) <;> (clear hA hB A B; (try (exfalso; omega))))
  · have e : p.isr.any (fun n => !p.ids.contains n) = true := any_at (by assumption) (by simpa using h)
    (refine aEnR (aRes [] fun K hK => ?_); simp (maxSteps := 10000000) (disch := first | omega | simp) [Image.right, e1, e]; refine hK _ ?_ (by simp); clear hK; first | done | (simp (maxSteps := 10000000) (disch := first | omega | simp) [Image.right, e1, e, *]; done) | (simp (maxSteps := 10000000) (disch := first | omega | simp) [Image.right, e1, e, *]; omega) | (simp_all [Image.right, e1, e]; done) | (simp_all [Image.right, e1, e]; omega))
  · exact ⟨by assumption, (), all_take (by assumption) hni (by simpa using h), Wk.ofA (by simp)⟩
  all_goals
    have e2 : p.isr.any (fun n => !p.ids.contains n) = false := any_no (by assumption) hni
    clear hni hi
  all_goals first
    | (refine aEnR (aRes [] fun K hK => ?_); simp (maxSteps := 10000000) (disch := first | omega | simp) []; refine hK _ ?_ (by simp); clear hK; (try unfold Image.right); ((repeat' split) <;> first | rfl | (exfalso; omega) | (exfalso; simp only [*, Bool.false_eq_true, Bool.true_eq_false, not_true, not_false_iff] at *; done) | (simp_all; done) | (exfalso; simp_all; omega)))
    | (refine awFor p.add.length (fun i (_ : Unit) => ∀ n ∈ p.add.take i, (!p.ids.contains n || p.drop.contains n) = false) (fun i _ => [(9, .p (I i)), (3, .p (.own (encP p).cells))]) () (Wk.ofA ?_) (by simp) fun i _ hi hni => ?_
       · simp
       repeat' first | (with_reducible first | refine thN ?_ | refine thR ?_ | refine thE ?_ | refine inN ?_ | refine inR ?_ | refine inH ?_ | refine fS ?_ | refine fR ?_ | refine fQ ?_ | refine fE ?_ | refine fT ?_ | refine awBlock ?_ | refine awExit ?_ | refine awRet ?_ | refine awSkip ?_) | ((with_reducible refine awReg fun K hok hK => ?_); clear hok; (try simp (maxSteps := 10000000) (disch := first | omega | simp) []); (repeat' first | (with_reducible refine hK _ (by simp) ?_) | ((with_reducible refine gdT (fun h => ?_) (fun h => ?_)) <;> (simp (maxSteps := 10000000) (disch := first | omega | simp) [h]; (try simp at h); (try (exfalso; omega)))) | ((with_reducible refine gdF (fun h => ?_) (fun h => ?_)) <;> (simp (maxSteps := 10000000) (disch := first | omega | simp) [h]; (try simp at h); (try (exfalso; omega)))) | ((first | ((with_reducible refine callS' fun K2 hK2 => ?_); (try simp (maxSteps := 10000000) (disch := first | omega | simp) []); (refine hK2 _ _ (has_ok _ _) rfl fun hk9 => ?_); clear hk9; clear hK2 K2) | ((with_reducible refine sideS' fun K2 hK2 => ?_); (try simp (maxSteps := 10000000) (disch := first | omega | simp) []); (refine hK2 _ _ (has_ok _ _) rfl ?_); clear hK2 K2) | ((with_reducible refine sideSt' fun K2 hK2 => ?_); (try simp (maxSteps := 10000000) (disch := first | omega | simp) []); refine hK2 _ ?_; clear hK2 K2) | ((with_reducible refine gdU ?_)) | ((with_reducible refine sideQ' ?_ ?_ fun K2 hK2 => ?_); exact rfl; exact rfl; (try simp (maxSteps := 10000000) (disch := first | omega | simp) []); with_reducible refine hK2 _ _ ?_; clear hK2 K2) | ((with_reducible refine side' ?_ fun K2 hK2 => ?_); exact rfl; (try simp (maxSteps := 10000000) (disch := first | omega | simp) []); refine hK2 _ _ (by simp) ?_; clear hK2 K2)); (try simp (maxSteps := 10000000) (disch := first | omega | simp) []))) <;> clear hK K) | ((with_reducible refine awCond fun A B hA hB => ?_); simp (maxSteps := 10000000) (disch := first | omega | simp) []; (first | refine ⟨fun h => hA ?_, fun h => hB ?_⟩ | refine hA ?_ | refine hB ?_) <;> (clear hA hB A B; (try (exfalso; omega))))
       all_goals first
         | exact ⟨by assumption, (), all_take (by assumption) hni (by simp [*]), Wk.ofA (by simp)⟩
         | (have e : p.add.any (fun n => !p.ids.contains n || p.drop.contains n) = true := any_at (by assumption) (by simp [*])
            (refine aEnR (aRes [] fun K hK => ?_); simp (maxSteps := 10000000) (disch := first | omega | simp) []; refine hK _ ?_ (by simp); clear hK; (try unfold Image.right); ((repeat' split) <;> first | rfl | (exfalso; omega) | (exfalso; simp only [*, Bool.false_eq_true, Bool.true_eq_false, not_true, not_false_iff] at *; done) | (simp_all; done) | (exfalso; simp_all; omega))))
         | (have e3 : p.add.any (fun n => !p.ids.contains n || p.drop.contains n) = false := any_no (by assumption) hni
            clear hni hi
            refine awFor p.drop.length (fun i (_ : Unit) => ∀ n ∈ p.drop.take i, (!p.ids.contains n) = false) (fun i _ => [(10, .p (I i)), (3, .p (.own (encP p).cells))]) () (Wk.ofA (by simp)) (by simp) fun i _ hi hni => ?_
            repeat' first | (with_reducible first | refine thN ?_ | refine thR ?_ | refine thE ?_ | refine inN ?_ | refine inR ?_ | refine inH ?_ | refine fS ?_ | refine fR ?_ | refine fQ ?_ | refine fE ?_ | refine fT ?_ | refine awBlock ?_ | refine awExit ?_ | refine awRet ?_ | refine awSkip ?_) | ((with_reducible refine awReg fun K hok hK => ?_); clear hok; (try simp (maxSteps := 10000000) (disch := first | omega | simp) []); (repeat' first | (with_reducible refine hK _ (by simp) ?_) | ((with_reducible refine gdT (fun h => ?_) (fun h => ?_)) <;> (simp (maxSteps := 10000000) (disch := first | omega | simp) [h]; (try simp at h); (try (exfalso; omega)))) | ((with_reducible refine gdF (fun h => ?_) (fun h => ?_)) <;> (simp (maxSteps := 10000000) (disch := first | omega | simp) [h]; (try simp at h); (try (exfalso; omega)))) | ((first | ((with_reducible refine callS' fun K2 hK2 => ?_); (try simp (maxSteps := 10000000) (disch := first | omega | simp) []); (refine hK2 _ _ (has_ok _ _) rfl fun hk9 => ?_); clear hk9; clear hK2 K2) | ((with_reducible refine sideS' fun K2 hK2 => ?_); (try simp (maxSteps := 10000000) (disch := first | omega | simp) []); (refine hK2 _ _ (has_ok _ _) rfl ?_); clear hK2 K2) | ((with_reducible refine sideSt' fun K2 hK2 => ?_); (try simp (maxSteps := 10000000) (disch := first | omega | simp) []); refine hK2 _ ?_; clear hK2 K2) | ((with_reducible refine gdU ?_)) | ((with_reducible refine sideQ' ?_ ?_ fun K2 hK2 => ?_); exact rfl; exact rfl; (try simp (maxSteps := 10000000) (disch := first | omega | simp) []); with_reducible refine hK2 _ _ ?_; clear hK2 K2) | ((with_reducible refine side' ?_ fun K2 hK2 => ?_); exact rfl; (try simp (maxSteps := 10000000) (disch := first | omega | simp) []); refine hK2 _ _ (by simp) ?_; clear hK2 K2)); (try simp (maxSteps := 10000000) (disch := first | omega | simp) []))) <;> clear hK K) | ((with_reducible refine awCond fun A B hA hB => ?_); simp (maxSteps := 10000000) (disch := first | omega | simp) []; (first | refine ⟨fun h => hA ?_, fun h => hB ?_⟩ | refine hA ?_ | refine hB ?_) <;> (clear hA hB A B; (try (exfalso; omega))))
            all_goals first
              | exact ⟨by assumption, (), all_take (by assumption) hni (by simpa using h), Wk.ofA (by simp)⟩
              | (have e : p.drop.any (fun n => !p.ids.contains n) = true := any_at (by assumption) (by simpa using h)
                 (refine aEnR (aRes [] fun K hK => ?_); simp (maxSteps := 10000000) (disch := first | omega | simp) []; refine hK _ ?_ (by simp); clear hK; (try unfold Image.right); ((repeat' split) <;> first | rfl | (exfalso; omega) | (exfalso; simp only [*, Bool.false_eq_true, Bool.true_eq_false, not_true, not_false_iff] at *; done) | (simp_all; done) | (exfalso; simp_all; omega))))
              | (have e4 : p.drop.any (fun n => !p.ids.contains n) = false := any_no (by assumption) hni
                 (refine aEnR (aRes [] fun K hK => ?_); simp (maxSteps := 10000000) (disch := first | omega | simp) []; refine hK _ ?_ (by simp); clear hK; (try unfold Image.right); ((repeat' split) <;> first | rfl | (exfalso; omega) | (exfalso; simp only [*, Bool.false_eq_true, Bool.true_eq_false, not_true, not_false_iff] at *; done) | (simp_all; done) | (exfalso; simp_all; omega))))))
end
end Go.Am
end
section
set_option maxRecDepth 100000
set_option maxHeartbeats 0
namespace Go.Am
open Go
noncomputable section
def c47 : SC := (.seq (.reg [⟨some 2, .box 36 (.tmp 0), none, []⟩,
  ⟨some 3, .box 73 (.tmp 1), none, []⟩,
  ⟨some 4, .alloc 36, none, []⟩,
  ⟨some 5, .assign (.const (.int .i64 0)), none, []⟩] [2, 3, 4]) (.seq (.reg [⟨some 11, .load 36 (.tmp 2), none, []⟩,
  ⟨some 12, .fieldAddr 73 (.tmp 3) 1, none, []⟩,
  ⟨some 13, .load 3 (.tmp 12), none, []⟩,
  ⟨some 14, .call { callee := .value (.func 35), args := #[.tmp 11, .tmp 13], argTypes := #[36, 3] }, none, []⟩,
  ⟨some 10, .move (.tmp 14), none, []⟩,
  ⟨some 15, .extract (.tmp 10) 0, none, []⟩,
  ⟨some 16, .extract (.tmp 10) 1, none, []⟩,
  ⟨some 6, .alloc 84, none, []⟩,
  ⟨none, .store 84 (.tmp 6) (.tmp 15), none, []⟩,
  ⟨some 7, .assign (.tmp 16), none, []⟩] [2, 3, 4, 6, 7, 10, 14, 16]) (.seq (.reg [⟨some 17, .move (.tmp 7), none, []⟩,
  ⟨some 18, .unOp .not 4 (.tmp 17), none, []⟩] [2, 3, 4, 6, 18]) (.seq (.cond (.tmp 18) (.seq (.reg [⟨some 19, .load 36 (.tmp 2), none, []⟩,
  ⟨none, .store 36 (.tmp 4) (.tmp 19), none, []⟩,
  ⟨some 5, .assign (.const (.int .i64 8)), none, []⟩] [4, 5]) .ret) .skip) (.seq (.reg [⟨some 20, .fieldAddr 84 (.tmp 6) 1, none, []⟩,
  ⟨some 21, .load 3 (.tmp 20), none, []⟩,
  ⟨some 22, .fieldAddr 73 (.tmp 3) 2, none, []⟩,
  ⟨some 23, .load 3 (.tmp 22), none, []⟩,
  ⟨some 24, .binOp .neq 3 (.tmp 21) (.tmp 23) 3, none, []⟩] [2, 3, 4, 6, 24]) (.seq (.cond (.tmp 24) (.seq (.reg [⟨some 25, .load 36 (.tmp 2), none, []⟩,
  ⟨none, .store 36 (.tmp 4) (.tmp 25), none, []⟩,
  ⟨some 5, .assign (.const (.int .i64 11)), none, []⟩] [4, 5]) .ret) .skip) (.seq (.reg [⟨some 26, .load 36 (.tmp 2), none, []⟩,
  ⟨some 8, .alloc 36, none, []⟩,
  ⟨none, .store 36 (.tmp 8) (.tmp 26), none, []⟩] [2, 3, 4, 6, 8]) (.seq (.reg [⟨some 27, .fieldAddr 73 (.tmp 3) 0, none, []⟩,
  ⟨some 28, .load 3 (.tmp 27), none, []⟩] [2, 3, 4, 6, 8, 27, 28]) (.seq (.block 0 (.seq (.reg [⟨some 63, .binOp .eql 3 (.tmp 28) (.const (.int .i64 3)) 3, none, []⟩,
  ⟨some 62, .assign (.tmp 63), none, []⟩] [2, 3, 4, 6, 8, 27, 28, 62, 63]) (.seq (.cond (.tmp 62) (.seq (.reg [⟨some 64, .fieldAddr 84 (.tmp 6) 3, none, []⟩,
  ⟨some 65, .load 4 (.tmp 64), none, []⟩,
  ⟨some 66, .move (.tmp 65), none, []⟩,
  ⟨some 67, .load 36 (.tmp 2), (some (66, false)), []⟩,
  ⟨some 68, .fieldAddr 84 (.tmp 6) 0, (some (66, false)), []⟩,
  ⟨some 69, .load 3 (.tmp 68), (some (66, false)), []⟩,
  ⟨some 70, .call { callee := .value (.func 65), args := #[.tmp 67, .tmp 69], argTypes := #[36, 3] }, (some (66, false)), []⟩,
  ⟨some 71, .pick (.tmp 66) (.const (.bool true)) (.tmp 70), none, []⟩] [2, 4, 6, 8, 64, 65, 66, 70, 71]) (.seq (.cond (.tmp 71) (.seq (.reg [⟨some 72, .load 36 (.tmp 2), none, []⟩,
  ⟨none, .store 36 (.tmp 4) (.tmp 72), none, []⟩,
  ⟨some 5, .assign (.const (.int .i64 10)), none, []⟩] [4, 5]) .ret) .skip) (.seq (.reg [⟨some 73, .fieldAddr 84 (.tmp 6) 3, none, []⟩,
  ⟨none, .store 4 (.tmp 73) (.const (.bool true)), none, []⟩] [2, 4, 6, 8]) .skip))) (.seq (.reg [⟨some 75, .binOp .eql 3 (.tmp 28) (.const (.int .i64 4)) 3, none, []⟩,
  ⟨some 74, .assign (.tmp 75), none, []⟩] [2, 3, 4, 6, 8, 27, 28, 74, 75]) (.seq (.cond (.tmp 74) (.seq (.reg [⟨some 76, .fieldAddr 84 (.tmp 6) 3, none, []⟩,
  ⟨some 77, .load 4 (.tmp 76), none, []⟩,
  ⟨some 78, .unOp .not 4 (.tmp 77), none, []⟩] [2, 4, 6, 8, 78]) (.seq (.cond (.tmp 78) (.seq (.reg [⟨some 79, .load 36 (.tmp 2), none, []⟩,
  ⟨none, .store 36 (.tmp 4) (.tmp 79), none, []⟩,
  ⟨some 5, .assign (.const (.int .i64 10)), none, []⟩] [4, 5]) .ret) .skip) (.seq (.reg [⟨some 80, .fieldAddr 84 (.tmp 6) 3, none, []⟩,
  ⟨none, .store 4 (.tmp 80) (.const (.bool false)), none, []⟩] [2, 4, 6, 8]) (.seq (.reg [⟨some 81, .fieldAddr 84 (.tmp 6) 4, none, []⟩,
  ⟨none, .store 4 (.tmp 81) (.const (.bool false)), none, []⟩] [2, 4, 6, 8]) .skip)))) (.seq (.reg [⟨some 83, .binOp .eql 3 (.tmp 28) (.const (.int .i64 5)) 3, none, []⟩,
  ⟨some 82, .assign (.tmp 83), none, []⟩] [2, 4, 6, 8, 82, 83]) (.seq (.cond (.tmp 82) (.seq (.reg [⟨some 84, .fieldAddr 84 (.tmp 6) 3, none, []⟩,
  ⟨some 85, .load 4 (.tmp 84), none, []⟩,
  ⟨some 86, .move (.tmp 85), none, []⟩,
  ⟨some 87, .fieldAddr 84 (.tmp 6) 4, (some (86, false)), []⟩,
  ⟨some 88, .load 4 (.tmp 87), (some (86, false)), []⟩,
  ⟨some 89, .pick (.tmp 86) (.const (.bool true)) (.tmp 88), none, []⟩] [2, 4, 6, 8, 84, 85, 86, 87, 88, 89]) (.seq (.cond (.tmp 89) (.seq (.reg [⟨some 90, .load 36 (.tmp 2), none, []⟩,
  ⟨none, .store 36 (.tmp 4) (.tmp 90), none, []⟩,
  ⟨some 5, .assign (.const (.int .i64 10)), none, []⟩] [4, 5]) .ret) .skip) (.seq (.reg [⟨some 91, .fieldAddr 84 (.tmp 6) 4, none, []⟩,
  ⟨none, .store 4 (.tmp 91) (.const (.bool true)), none, []⟩] [2, 4, 6, 8]) .skip))) (.seq (.reg [⟨some 29, .load 36 (.tmp 2), none, []⟩,
  ⟨some 30, .fieldAddr 84 (.tmp 6) 0, none, []⟩,
  ⟨some 31, .load 3 (.tmp 30), none, []⟩,
  ⟨some 32, .call { callee := .value (.func 67), args := #[.tmp 29, .tmp 31], argTypes := #[36, 3] }, none, []⟩] [2, 4, 6, 8, 32]) (.seq (.cond (.tmp 32) (.seq (.reg [⟨some 33, .load 36 (.tmp 2), none, []⟩,
  ⟨none, .store 36 (.tmp 4) (.tmp 33), none, []⟩,
  ⟨some 5, .assign (.const (.int .i64 10)), none, []⟩] [4, 5]) .ret) .skip) (.seq (.reg [⟨some 34, .fieldAddr 36 (.tmp 8) 0, none, []⟩,
  ⟨none, .store 31 (.tmp 34) (.const (.slice none 0 0)), none, []⟩] [2, 4, 6, 8]) (.seq (.reg [⟨some 9, .assign (.const (.int .i64 0)), none, []⟩] [2, 4, 6, 8, 9, 41]) (.seq (.block 1 (.seq (.loop (.seq (.reg [⟨some 35, .move (.tmp 9), none, []⟩,
  ⟨some 36, .fieldAddr 36 (.tmp 2) 0, none, []⟩,
  ⟨some 37, .load 31 (.tmp 36), none, []⟩,
  ⟨some 38, .call { callee := .builtin .len, args := #[.tmp 37], argTypes := #[31] }, none, []⟩,
  ⟨some 39, .binOp .lss 3 (.tmp 35) (.tmp 38) 3, none, []⟩] [2, 4, 6, 8, 9, 39, 41]) (.seq (.cond (.tmp 39) .skip (.exit 1)) (.seq (.block 2 (.seq (.reg [⟨some 42, .fieldAddr 36 (.tmp 2) 0, none, [44, 48, 49]⟩,
  ⟨some 43, .load 31 (.tmp 42), none, [44, 48, 49]⟩,
  ⟨some 44, .move (.tmp 9), none, [42, 43, 48, 49]⟩,
  ⟨some 45, .indexAddr 31 (.tmp 43) (.tmp 44), none, [48, 49]⟩,
  ⟨some 46, .fieldAddr 84 (.tmp 45) 0, none, [48, 49]⟩,
  ⟨some 47, .load 3 (.tmp 46), none, [48, 49]⟩,
  ⟨some 48, .fieldAddr 84 (.tmp 6) 0, none, [42, 43, 44, 45, 46, 47]⟩,
  ⟨some 49, .load 3 (.tmp 48), none, [42, 43, 44, 45, 46, 47]⟩,
  ⟨some 50, .binOp .neq 3 (.tmp 47) (.tmp 49) 3, none, []⟩] [2, 4, 6, 8, 9, 41, 50]) (.seq (.cond (.tmp 50) (.seq (.reg [⟨some 51, .fieldAddr 36 (.tmp 8) 0, none, [53, 54, 55, 56, 57, 58]⟩,
  ⟨some 52, .load 31 (.tmp 51), none, [53, 54, 55, 56, 57, 58]⟩,
  ⟨some 53, .fieldAddr 36 (.tmp 2) 0, none, [51, 52, 55]⟩,
  ⟨some 54, .load 31 (.tmp 53), none, [51, 52, 55]⟩,
  ⟨some 55, .move (.tmp 9), none, [51, 52, 53, 54]⟩,
  ⟨some 56, .indexAddr 31 (.tmp 54) (.tmp 55), none, [51, 52]⟩,
  ⟨some 57, .load 84 (.tmp 56), none, [51, 52]⟩,
  ⟨some 58, .buildSlice 31 1 #[(0, .tmp 57)], none, [51, 52]⟩,
  ⟨some 59, .call { callee := .builtin .append, args := #[.tmp 52, .tmp 58], argTypes := #[31, 31] }, none, []⟩,
  ⟨some 60, .fieldAddr 36 (.tmp 8) 0, none, []⟩,
  ⟨none, .store 31 (.tmp 60) (.tmp 59), none, []⟩] [2, 4, 6, 8, 9, 41]) .skip) .skip) .skip))) (.seq (.reg [⟨some 40, .move (.tmp 9), none, []⟩,
  ⟨some 41, .binOp .add 3 (.tmp 40) (.const (.int .i64 1)) 3, none, []⟩,
  ⟨some 9, .assign (.tmp 41), none, []⟩] [2, 4, 6, 8, 9, 41]) .skip))))) .skip)) (.seq (.reg [⟨some 61, .load 36 (.tmp 8), none, []⟩,
  ⟨none, .store 36 (.tmp 4) (.tmp 61), none, []⟩,
  ⟨some 5, .assign (.const (.int .i64 0)), none, []⟩] [4, 5]) .ret))))))) .skip))) .skip))) .skip))) (.seq (.reg [⟨some 92, .fieldAddr 36 (.tmp 2) 0, none, []⟩,
  ⟨some 93, .load 31 (.tmp 92), none, []⟩,
  ⟨some 94, .load 84 (.tmp 6), none, []⟩,
  ⟨some 95, .call { callee := .value (.func 66), args := #[.tmp 93, .tmp 94], argTypes := #[31, 84] }, none, []⟩,
  ⟨some 96, .fieldAddr 36 (.tmp 8) 0, none, []⟩,
  ⟨none, .store 31 (.tmp 96) (.tmp 95), none, []⟩] [4, 8]) (.seq (.reg [⟨some 97, .load 36 (.tmp 8), none, []⟩,
  ⟨none, .store 36 (.tmp 4) (.tmp 97), none, []⟩,
  ⟨some 5, .assign (.const (.int .i64 0)), none, []⟩] [4, 5]) .ret)))))))))))
theorem s47 : TextK Proofs.Tryz.prog 0 47 98 [ResultVar.cell 4 36, ResultVar.tmp 5] c47 := .mk' Proofs.Tryz.f47 _ (by kernel_rfl) rfl rfl rfl (by kernel_rfl) rfl (by kernel_rfl)
theorem brokerRec_ok (m : Image) (r : Record) (hl : m.brokers.length ≤ 1000) : ACall pg 47 [encM m, encR r] (.tup [encM (m.brokerRec r).1, I (m.brokerRec r).2]) := by
  refine s47.call mo (by simp) fun hxs => ?_
  clear hxs
  unfold c47
  cases hb : m.broker r.broker with
  | none =>
    repeat' first | (with_reducible first | refine thN ?_ | refine thR ?_ | refine thE ?_ | refine inN ?_ | refine inR ?_ | refine inH ?_ | refine fF ?_ | refine fS ?_ | refine fR ?_ | refine fQ ?_ | refine fC ?_ | refine fB ?_ | refine fL ?_ | refine fE ?_ | refine fT ?_ | refine awBlock ?_ | refine awExit ?_ | refine awRet ?_ | refine awSkip ?_) | ((with_reducible refine awReg fun K hok hK => ?_); clear hok; (try simp (maxSteps := 10000000) (disch := first | omega | simp) [hb, zB]); (repeat' first | (with_reducible refine hK _ (by simp) ?_) | ((with_reducible refine gdF (fun h => ?_) (fun h => ?_)) <;> (simp (maxSteps := 10000000) (disch := first | omega | simp) [h, hb, zB]; (try simp at h); (try (exfalso; omega)))) | ((first | ((with_reducible refine callS' fun K2 hK2 => ?_); (try simp (maxSteps := 10000000) (disch := first | omega | simp) [hb, zB]); (refine hK2 _ _ (broker_ok m r.broker) rfl fun hk9 => ?_); clear hk9; clear hK2 K2) | ((with_reducible refine callF' fun K2 hK2 => ?_); (try simp (maxSteps := 10000000) (disch := first | omega | simp) [hb, zB]); (refine hK2 _ _ _ (broker_ok m r.broker) fun _ => ?_); clear hK2 K2) | ((with_reducible refine sideQ' ?_ ?_ fun K2 hK2 => ?_); exact rfl; exact rfl; (try simp (maxSteps := 10000000) (disch := first | omega | simp) [hb, zB]); with_reducible refine hK2 _ _ ?_; clear hK2 K2) | ((with_reducible refine side' ?_ fun K2 hK2 => ?_); exact rfl; (try simp (maxSteps := 10000000) (disch := first | omega | simp) [hb, zB]); refine hK2 _ _ (by simp) ?_; clear hK2 K2)); (try simp (maxSteps := 10000000) (disch := first | omega | simp) [hb, zB]))) <;> clear hK K) | ((with_reducible refine awCond fun A B hA hB => ?_); simp (maxSteps := 10000000) (disch := first | omega | simp) [hb, zB]; (first | refine ⟨fun h => hA ?_, fun h => hB ?_⟩ | refine hA ?_ | refine hB ?_) <;> (clear hA hB A B; (try (exfalso; omega))))
    all_goals (refine aEnR (aRes [] fun K hK => ?_); simp (maxSteps := 10000000) (disch := first | omega | simp) [Image.brokerRec, hb]; refine hK _ ?_ (by simp); clear hK; first | done | (simp (maxSteps := 10000000) (disch := first | omega | simp) [Image.brokerRec, hb, *]; done) | (simp (maxSteps := 10000000) (disch := first | omega | simp) [Image.brokerRec, hb, *]; omega) | (simp_all [Image.brokerRec, hb]; done) | (simp_all [Image.brokerRec, hb]; omega))
  | some b =>
    repeat' first | (with_reducible first | refine thN ?_ | refine thR ?_ | refine thE ?_ | refine inN ?_ | refine inR ?_ | refine inH ?_ | refine fF ?_ | refine fS ?_ | refine fR ?_ | refine fQ ?_ | refine fC ?_ | refine fB ?_ | refine fL ?_ | refine fE ?_ | refine fT ?_ | refine awBlock ?_ | refine awExit ?_ | refine awRet ?_ | refine awSkip ?_) | ((with_reducible refine awReg fun K hok hK => ?_); clear hok; (try simp (maxSteps := 10000000) (disch := first | omega | simp) [hb]); (repeat' first | (with_reducible refine hK _ (by simp) ?_) | ((with_reducible refine gdF (fun h => ?_) (fun h => ?_)) <;> (simp (maxSteps := 10000000) (disch := first | omega | simp) [h, hb]; (try simp at h); (try (exfalso; omega)))) | ((first | ((with_reducible refine callS' fun K2 hK2 => ?_); (try simp (maxSteps := 10000000) (disch := first | omega | simp) [hb]); (first | refine hK2 _ _ (broker_ok m r.broker) rfl fun hk9 => ?_ | refine hK2 _ _ (leads_ok m b.id) rfl fun hk9 => ?_ | refine hK2 _ _ (used_ok m b.id) rfl fun hk9 => ?_ | refine hK2 _ _ (putBroker_ok m.brokers { b with fenced := true } hl) rfl fun hk9 => ?_ | refine hK2 _ _ (putBroker_ok m.brokers { b with fenced := false, leaving := false } hl) rfl fun hk9 => ?_ | refine hK2 _ _ (putBroker_ok m.brokers ⟨b.id, b.epoch, b.rack, false, true⟩ hl) rfl fun hk9 => ?_); clear hk9; clear hK2 K2) | ((with_reducible refine callF' fun K2 hK2 => ?_); (try simp (maxSteps := 10000000) (disch := first | omega | simp) [hb]); (first | refine hK2 _ _ _ (broker_ok m r.broker) fun _ => ?_ | refine hK2 _ _ _ (leads_ok m b.id) fun _ => ?_ | refine hK2 _ _ _ (used_ok m b.id) fun _ => ?_ | refine hK2 _ _ _ (putBroker_ok m.brokers { b with fenced := true } hl) fun _ => ?_ | refine hK2 _ _ _ (putBroker_ok m.brokers { b with fenced := false, leaving := false } hl) fun _ => ?_ | refine hK2 _ _ _ (putBroker_ok m.brokers ⟨b.id, b.epoch, b.rack, false, true⟩ hl) fun _ => ?_); clear hK2 K2) | ((with_reducible refine sideQ' ?_ ?_ fun K2 hK2 => ?_); exact rfl; exact rfl; (try simp (maxSteps := 10000000) (disch := first | omega | simp) [hb]); with_reducible refine hK2 _ _ ?_; clear hK2 K2) | ((with_reducible refine side' ?_ fun K2 hK2 => ?_); exact rfl; (try simp (maxSteps := 10000000) (disch := first | omega | simp) [hb]); refine hK2 _ _ (by simp) ?_; clear hK2 K2)); (try simp (maxSteps := 10000000) (disch := first | omega | simp) [hb]))) <;> clear hK K) | ((with_reducible refine awCond fun A B hA hB => ?_); simp (maxSteps := 10000000) (disch := first | omega | simp) [hb]; (first | refine ⟨fun h => hA ?_, fun h => hB ?_⟩ | refine hA ?_ | refine hB ?_) <;> (clear hA hB A B; (try (exfalso; omega))))
    all_goals first
      | (refine aEnR (aRes [true] fun K hK => ?_); simp (maxSteps := 10000000) (disch := first | omega | simp) [hb]; refine hK _ ?_ (by simp); clear hK; (try unfold Image.brokerRec); ((repeat' split) <;> first | rfl | (exfalso; omega) | (exfalso; simp only [*, Bool.false_eq_true, Bool.true_eq_false, not_true, not_false_iff] at *; done) | (simp_all [hb]; done) | (exfalso; simp_all [hb]; omega)))
      | (refine awFor m.brokers.length (fun i (s : List Broker) => s ++ (m.brokers.drop i).filter (fun x => x.id != b.id) = m.brokers.filter (fun x => x.id != b.id) ∧ s.length ≤ i) (fun i s => [(9, .p (I i)), (8, .p (.own [.uq (s.map encB), .sl (m.topics.map encT), .sl (m.configs.map encC), .sl (m.done.map encD), I m.last])), (6, .p (.own (encB b).cells)), (4, .p (.own [.uq [], .uq [], .uq [], .uq [], I 0])), (2, .p (.own (encM m).cells))]) [] (Wk.ofA (by simp)) (by simp) fun i s hi hs => ?_
         obtain ⟨hs, hsl⟩ := hs
         repeat' first | (with_reducible first | refine thN ?_ | refine thR ?_ | refine thE ?_ | refine inN ?_ | refine inR ?_ | refine inH ?_ | refine fF ?_ | refine fS ?_ | refine fR ?_ | refine fQ ?_ | refine fC ?_ | refine fB ?_ | refine fL ?_ | refine fE ?_ | refine fT ?_ | refine awBlock ?_ | refine awExit ?_ | refine awRet ?_ | refine awSkip ?_) | ((with_reducible refine awReg fun K hok hK => ?_); clear hok; (try simp (maxSteps := 10000000) (disch := first | omega | simp) [hb]); (repeat' first | (with_reducible refine hK _ (by simp) ?_) | ((with_reducible refine gdF (fun h => ?_) (fun h => ?_)) <;> (simp (maxSteps := 10000000) (disch := first | omega | simp) [h, hb]; (try simp at h); (try (exfalso; omega)))) | ((first | ((with_reducible refine sideQ' ?_ ?_ fun K2 hK2 => ?_); exact rfl; exact rfl; (try simp (maxSteps := 10000000) (disch := first | omega | simp) [hb]); with_reducible refine hK2 _ _ ?_; clear hK2 K2) | ((with_reducible refine side' ?_ fun K2 hK2 => ?_); exact rfl; (try simp (maxSteps := 10000000) (disch := first | omega | simp) [hb]); refine hK2 _ _ (by simp) ?_; clear hK2 K2)); (try simp (maxSteps := 10000000) (disch := first | omega | simp) [hb]))) <;> clear hK K) | ((with_reducible refine awCond fun A B hA hB => ?_); simp (maxSteps := 10000000) (disch := first | omega | simp) [hb]; (first | refine ⟨fun h => hA ?_, fun h => hB ?_⟩ | refine hA ?_ | refine hB ?_) <;> (clear hA hB A B; (try (exfalso; omega))))
         all_goals first
           | (rw [drop_cons (by assumption)] at hs
              first
                | ((refine ⟨?_, s ++ [m.brokers[i]], ?_, Wk.ofA ?_⟩; assumption; rotate_left; focus (simp []; done))
                   constructor
                   · rw [← hs]; clear hs; simp [*, -List.getElem_cons_drop]
                   · simp; omega)
                | ((refine ⟨?_, s, ?_, Wk.ofA ?_⟩; assumption; rotate_left; focus (simp []; done))
                   constructor
                   · rw [← hs]; clear hs; simp [*, -List.getElem_cons_drop]
                   · omega))
           | (rw [drop_nil (by assumption)] at hs
              simp at hs
              (refine aEnR (aRes [true] fun K hK => ?_); simp (maxSteps := 10000000) (disch := first | omega | simp) [hb]; refine hK _ ?_ (by simp); clear hK; (try unfold Image.brokerRec); ((repeat' split) <;> first | rfl | (exfalso; omega) | (exfalso; simp only [*, Bool.false_eq_true, Bool.true_eq_false, not_true, not_false_iff] at *; done) | (simp_all [hb]; done) | (exfalso; simp_all [hb]; omega)))))
end
end Go.Am
end
section
set_option maxRecDepth 100000
set_option maxHeartbeats 0
namespace Go.Am
open Go
noncomputable section
def c52 : SC := (.seq (.reg [⟨some 2, .box 36 (.tmp 0), none, []⟩,
  ⟨some 3, .box 73 (.tmp 1), none, []⟩,
  ⟨some 4, .alloc 36, none, []⟩,
  ⟨some 5, .assign (.const (.int .i64 0)), none, []⟩] [2, 3, 4]) (.seq (.reg [⟨some 11, .load 36 (.tmp 2), none, []⟩,
  ⟨some 12, .fieldAddr 73 (.tmp 3) 6, none, []⟩,
  ⟨some 13, .load 3 (.tmp 12), none, []⟩,
  ⟨some 14, .fieldAddr 73 (.tmp 3) 7, none, []⟩,
  ⟨some 15, .load 3 (.tmp 14), none, []⟩,
  ⟨some 16, .call { callee := .value (.func 72), args := #[.tmp 11, .tmp 13, .tmp 15], argTypes := #[36, 3, 3] }, none, []⟩,
  ⟨some 10, .move (.tmp 16), none, []⟩,
  ⟨some 17, .extract (.tmp 10) 0, none, []⟩,
  ⟨some 18, .extract (.tmp 10) 1, none, []⟩,
  ⟨some 6, .assign (.tmp 17), none, []⟩,
  ⟨some 7, .assign (.tmp 18), none, []⟩] [2, 3, 4, 7, 10, 16, 18]) (.seq (.reg [⟨some 19, .move (.tmp 7), none, []⟩] [2, 3, 4, 7, 10, 16, 18, 19]) (.seq (.cond (.tmp 19) (.seq (.reg [⟨some 20, .load 36 (.tmp 2), none, []⟩,
  ⟨none, .store 36 (.tmp 4) (.tmp 20), none, []⟩,
  ⟨some 5, .assign (.const (.int .i64 9)), none, []⟩] [4, 5]) .ret) .skip) (.seq (.reg [⟨some 21, .load 36 (.tmp 2), none, []⟩,
  ⟨some 8, .alloc 36, none, []⟩,
  ⟨none, .store 36 (.tmp 8) (.tmp 21), none, []⟩] [2, 3, 4, 8]) (.seq (.reg [⟨some 22, .fieldAddr 36 (.tmp 8) 3, none, []⟩,
  ⟨none, .store 34 (.tmp 22) (.const (.slice none 0 0)), none, []⟩] [2, 3, 4, 8]) (.seq (.reg [⟨some 9, .assign (.const (.int .i64 0)), none, []⟩] [2, 3, 4, 8, 9, 30]) (.seq (.reg [⟨some 23, .fieldAddr 36 (.tmp 2) 3, none, []⟩,
  ⟨some 24, .load 34 (.tmp 23), none, []⟩,
  ⟨some 25, .call { callee := .builtin .len, args := #[.tmp 24], argTypes := #[34] }, none, []⟩,
  ⟨some 26, .binOp .geq 3 (.tmp 25) (.const (.int .i64 64)) 3, none, []⟩] [2, 3, 4, 8, 9, 26, 30]) (.seq (.cond (.tmp 26) (.seq (.reg [⟨some 27, .fieldAddr 36 (.tmp 2) 3, none, []⟩,
  ⟨some 28, .load 34 (.tmp 27), none, []⟩,
  ⟨some 29, .call { callee := .builtin .len, args := #[.tmp 28], argTypes := #[34] }, none, []⟩,
  ⟨some 30, .binOp .sub 3 (.tmp 29) (.const (.int .i64 63)) 3, none, []⟩,
  ⟨some 9, .assign (.tmp 30), none, []⟩] [2, 3, 4, 8, 9, 30]) .skip) .skip) (.seq (.reg [⟨some 31, .fieldAddr 36 (.tmp 8) 3, none, [33, 34, 35, 36]⟩,
  ⟨some 32, .load 34 (.tmp 31), none, [33, 34, 35, 36]⟩,
  ⟨some 33, .fieldAddr 36 (.tmp 2) 3, none, [31, 32, 35]⟩,
  ⟨some 34, .load 34 (.tmp 33), none, [31, 32, 35]⟩,
  ⟨some 35, .move (.tmp 9), none, [31, 32, 33, 34]⟩,
  ⟨some 36, .slice 34 (.tmp 34) (some (.tmp 35)) none none, none, [31, 32]⟩,
  ⟨some 37, .call { callee := .builtin .append, args := #[.tmp 32, .tmp 36], argTypes := #[34, 34] }, none, []⟩,
  ⟨some 38, .fieldAddr 36 (.tmp 8) 3, none, []⟩,
  ⟨none, .store 34 (.tmp 38) (.tmp 37), none, []⟩] [3, 4, 8]) (.seq (.reg [⟨some 39, .fieldAddr 36 (.tmp 8) 3, none, []⟩,
  ⟨some 40, .load 34 (.tmp 39), none, []⟩,
  ⟨some 41, .fieldAddr 73 (.tmp 3) 6, none, []⟩,
  ⟨some 42, .load 3 (.tmp 41), none, []⟩,
  ⟨some 43, .fieldAddr 73 (.tmp 3) 7, none, []⟩,
  ⟨some 44, .load 3 (.tmp 43), none, []⟩,
  ⟨some 45, .fieldAddr 73 (.tmp 3) 8, none, []⟩,
  ⟨some 46, .load 3 (.tmp 45), none, []⟩,
  ⟨some 47, .build 121 #[(0, .tmp 42), (1, .tmp 44), (2, .tmp 46)], none, []⟩,
  ⟨some 48, .buildSlice 34 1 #[(0, .tmp 47)], none, []⟩,
  ⟨some 49, .call { callee := .builtin .append, args := #[.tmp 40, .tmp 48], argTypes := #[34, 34] }, none, []⟩,
  ⟨some 50, .fieldAddr 36 (.tmp 8) 3, none, []⟩,
  ⟨none, .store 34 (.tmp 50) (.tmp 49), none, []⟩] [4, 8]) (.seq (.reg [⟨some 51, .load 36 (.tmp 8), none, []⟩,
  ⟨none, .store 36 (.tmp 4) (.tmp 51), none, []⟩,
  ⟨some 5, .assign (.const (.int .i64 0)), none, []⟩] [4, 5]) .ret))))))))))))
theorem s52 : TextK Proofs.Tryz.prog 0 52 52 [ResultVar.cell 4 36, ResultVar.tmp 5] c52 := .mk' Proofs.Tryz.f52 _ (by kernel_rfl) rfl rfl rfl (by kernel_rfl) rfl (by kernel_rfl)
theorem doneRec_ok (m : Image) (r : Record) (hm : m.Pre) : ACall pg 52 [encM m, encR r] (.tup [encM (m.doneRec r).1, I (m.doneRec r).2]) := by
  refine s52.call mo (by simp) fun hxs => ?_
  clear hxs
  have hdl := hm.dl
  unfold c52
  repeat' first | (with_reducible first | refine fS ?_ | refine fR ?_ | refine fQ ?_ | refine fT ?_ | refine awRet ?_) | ((with_reducible refine awReg fun K hok hK => ?_); clear hok; (try simp (maxSteps := 10000000) (disch := first | omega | simp) []); (repeat' first | (with_reducible refine hK _ (by simp) ?_) | ((first | ((with_reducible refine callS' fun K2 hK2 => ?_); (try simp (maxSteps := 10000000) (disch := first | omega | simp) []); (refine hK2 _ _ (answered_ok m r.client r.serial) rfl fun hk9 => ?_); clear hk9; clear hK2 K2) | ((with_reducible refine sideQ' ?_ ?_ fun K2 hK2 => ?_); exact rfl; exact rfl; (try simp (maxSteps := 10000000) (disch := first | omega | simp) []); with_reducible refine hK2 _ _ ?_; clear hK2 K2) | ((with_reducible refine side' ?_ fun K2 hK2 => ?_); exact rfl; (try simp (maxSteps := 10000000) (disch := first | omega | simp) []); refine hK2 _ _ (by simp) ?_; clear hK2 K2)); (try simp (maxSteps := 10000000) (disch := first | omega | simp) []))) <;> clear hK K) | ((with_reducible refine awCond fun A B hA hB => ?_); simp (maxSteps := 10000000) (disch := first | omega | simp) []; (first | refine ⟨fun h => hA ?_, fun h => hB ?_⟩ | refine hA ?_ | refine hB ?_) <;> (clear hA hB A B; (try (exfalso; omega))))
  all_goals first
    | (refine aEnR (aRes [true] fun K hK => ?_); simp (maxSteps := 10000000) (disch := first | omega | simp) []; refine hK _ ?_ (by simp); clear hK; (try unfold Image.doneRec); ((repeat' split) <;> first | rfl | (exfalso; omega) | (exfalso; simp only [*, Bool.false_eq_true, Bool.true_eq_false, not_true, not_false_iff] at *; done) | (simp_all; done) | (exfalso; simp_all; omega)))
    | (have e : m.done.length - 63 = 0 := (by omega)
       (refine aEnR (aRes [true] fun K hK => ?_); simp (maxSteps := 10000000) (disch := first | omega | simp) [e]; refine hK _ ?_ (by simp); clear hK; (try unfold Image.doneRec); ((repeat' split) <;> first | rfl | (exfalso; omega) | (exfalso; simp only [*, Bool.false_eq_true, Bool.true_eq_false, not_true, not_false_iff] at *; done) | (simp_all [e]; done) | (exfalso; simp_all [e]; omega))))
end
end Go.Am
end
section
set_option maxRecDepth 100000
set_option maxHeartbeats 0
namespace Go.Am
open Go
noncomputable section
def c51 : SC := (.seq (.reg [⟨some 2, .box 36 (.tmp 0), none, []⟩,
  ⟨some 3, .box 73 (.tmp 1), none, []⟩,
  ⟨some 4, .alloc 36, none, []⟩,
  ⟨some 5, .assign (.const (.int .i64 0)), none, []⟩] [2, 3, 4]) (.seq (.reg [⟨some 15, .load 36 (.tmp 2), none, []⟩,
  ⟨some 16, .fieldAddr 73 (.tmp 3) 3, none, []⟩,
  ⟨some 17, .load 3 (.tmp 16), none, []⟩,
  ⟨some 18, .call { callee := .value (.func 34), args := #[.tmp 15, .tmp 17], argTypes := #[36, 3] }, none, []⟩,
  ⟨some 14, .move (.tmp 18), none, []⟩,
  ⟨some 19, .extract (.tmp 14) 0, none, []⟩,
  ⟨some 20, .extract (.tmp 14) 1, none, []⟩,
  ⟨some 6, .alloc 50, none, []⟩,
  ⟨none, .store 50 (.tmp 6) (.tmp 19), none, []⟩,
  ⟨some 7, .assign (.tmp 20), none, []⟩] [2, 3, 4, 7, 14, 18, 20]) (.seq (.reg [⟨some 21, .move (.tmp 7), none, []⟩,
  ⟨some 22, .unOp .not 4 (.tmp 21), none, []⟩,
  ⟨some 23, .move (.tmp 22), none, []⟩,
  ⟨some 24, .fieldAddr 73 (.tmp 3) 3, (some (23, true)), []⟩,
  ⟨some 25, .load 3 (.tmp 24), (some (23, true)), []⟩,
  ⟨some 26, .binOp .neq 3 (.tmp 25) (.const (.int .i64 0)) 3, (some (23, true)), []⟩,
  ⟨some 27, .pick (.tmp 23) (.tmp 26) (.const (.bool false)), none, []⟩] [2, 3, 4, 22, 23, 26, 27]) (.seq (.cond (.tmp 27) (.seq (.reg [⟨some 28, .load 36 (.tmp 2), none, []⟩,
  ⟨none, .store 36 (.tmp 4) (.tmp 28), none, []⟩,
  ⟨some 5, .assign (.const (.int .i64 8)), none, []⟩] [4, 5]) .ret) .skip) (.seq (.reg [⟨some 30, .load 36 (.tmp 2), none, []⟩,
  ⟨some 31, .fieldAddr 73 (.tmp 3) 3, none, []⟩,
  ⟨some 32, .load 3 (.tmp 31), none, []⟩,
  ⟨some 33, .fieldAddr 73 (.tmp 3) 11, none, []⟩,
  ⟨some 34, .load 9 (.tmp 33), none, []⟩,
  ⟨some 35, .call { callee := .value (.func 71), args := #[.tmp 30, .tmp 32, .tmp 34], argTypes := #[36, 3, 9] }, none, []⟩,
  ⟨some 29, .move (.tmp 35), none, []⟩,
  ⟨some 36, .extract (.tmp 29) 0, none, []⟩,
  ⟨some 37, .extract (.tmp 29) 1, none, []⟩,
  ⟨some 8, .assign (.tmp 36), none, []⟩,
  ⟨some 9, .assign (.tmp 37), none, []⟩] [2, 3, 4, 9, 29, 35, 37]) (.seq (.reg [⟨some 38, .fieldAddr 73 (.tmp 3) 9, none, []⟩,
  ⟨some 39, .load 4 (.tmp 38), none, []⟩,
  ⟨some 40, .move (.tmp 39), none, []⟩,
  ⟨some 41, .move (.tmp 9), (some (40, true)), []⟩,
  ⟨some 42, .unOp .not 4 (.tmp 41), (some (40, true)), []⟩,
  ⟨some 43, .pick (.tmp 40) (.tmp 42) (.const (.bool false)), none, []⟩] [2, 3, 4, 38, 39, 40, 42, 43]) (.seq (.cond (.tmp 43) (.seq (.reg [⟨some 44, .load 36 (.tmp 2), none, []⟩,
  ⟨none, .store 36 (.tmp 4) (.tmp 44), none, []⟩,
  ⟨some 5, .assign (.const (.int .i64 8)), none, []⟩] [4, 5]) .ret) .skip) (.seq (.reg [⟨some 45, .load 36 (.tmp 2), none, []⟩,
  ⟨some 10, .alloc 36, none, []⟩,
  ⟨none, .store 36 (.tmp 10) (.tmp 45), none, []⟩] [2, 3, 4, 10]) (.seq (.reg [⟨some 46, .fieldAddr 36 (.tmp 10) 2, none, []⟩,
  ⟨none, .store 33 (.tmp 46) (.const (.slice none 0 0)), none, []⟩] [2, 3, 4, 10]) (.seq (.reg [⟨some 47, .fieldAddr 73 (.tmp 3) 9, none, []⟩,
  ⟨some 48, .load 4 (.tmp 47), none, []⟩,
  ⟨some 11, .assign (.tmp 48), none, []⟩] [2, 3, 4, 10, 11, 47, 48]) (.seq (.reg [⟨some 12, .assign (.const (.int .i64 0)), none, []⟩] [2, 3, 4, 10, 11, 12, 47, 48, 55]) (.seq (.block 0 (.seq (.loop (.seq (.reg [⟨some 49, .move (.tmp 12), none, []⟩,
  ⟨some 50, .fieldAddr 36 (.tmp 2) 2, none, []⟩,
  ⟨some 51, .load 33 (.tmp 50), none, []⟩,
  ⟨some 52, .call { callee := .builtin .len, args := #[.tmp 51], argTypes := #[33] }, none, []⟩,
  ⟨some 53, .binOp .lss 3 (.tmp 49) (.tmp 52) 3, none, []⟩] [2, 3, 4, 10, 11, 12, 47, 48, 53, 55]) (.seq (.cond (.tmp 53) .skip (.exit 0)) (.seq (.block 1 (.seq (.reg [⟨some 56, .fieldAddr 36 (.tmp 2) 2, none, []⟩,
  ⟨some 57, .load 33 (.tmp 56), none, []⟩,
  ⟨some 58, .move (.tmp 12), none, []⟩,
  ⟨some 59, .indexAddr 33 (.tmp 57) (.tmp 58), none, []⟩,
  ⟨some 60, .load 115 (.tmp 59), none, []⟩,
  ⟨some 13, .alloc 115, none, []⟩,
  ⟨none, .store 115 (.tmp 13) (.tmp 60), none, []⟩] [2, 3, 4, 10, 11, 12, 13, 47, 48, 55]) (.seq (.reg [⟨some 61, .move (.tmp 11), none, []⟩,
  ⟨some 62, .unOp .not 4 (.tmp 61), none, []⟩,
  ⟨some 63, .move (.tmp 62), none, []⟩,
  ⟨some 64, .fieldAddr 115 (.tmp 13) 0, (some (63, true)), []⟩,
  ⟨some 65, .load 3 (.tmp 64), (some (63, true)), []⟩,
  ⟨some 66, .fieldAddr 73 (.tmp 3) 3, (some (63, true)), []⟩,
  ⟨some 67, .load 3 (.tmp 66), (some (63, true)), []⟩,
  ⟨some 68, .binOp .gtr 3 (.tmp 65) (.tmp 67) 3, (some (63, true)), []⟩,
  ⟨some 69, .move (.tmp 68), (some (63, true)), []⟩,
  ⟨some 70, .fieldAddr 115 (.tmp 13) 0, (some (69, false)), []⟩,
  ⟨some 71, .load 3 (.tmp 70), (some (69, false)), []⟩,
  ⟨some 72, .fieldAddr 73 (.tmp 3) 3, (some (69, false)), []⟩,
  ⟨some 73, .load 3 (.tmp 72), (some (69, false)), []⟩,
  ⟨some 74, .binOp .eql 3 (.tmp 71) (.tmp 73) 3, (some (69, false)), []⟩,
  ⟨some 75, .move (.tmp 74), (some (69, false)), []⟩,
  ⟨some 76, .fieldAddr 115 (.tmp 13) 1, (some (75, true)), []⟩,
  ⟨some 77, .load 9 (.tmp 76), (some (75, true)), []⟩,
  ⟨some 78, .fieldAddr 73 (.tmp 3) 11, (some (75, true)), []⟩,
  ⟨some 79, .load 9 (.tmp 78), (some (75, true)), []⟩,
  ⟨some 80, .binOp .geq 9 (.tmp 77) (.tmp 79) 9, (some (75, true)), []⟩,
  ⟨some 81, .pick (.tmp 75) (.tmp 80) (.const (.bool false)), (some (69, false)), []⟩,
  ⟨some 82, .pick (.tmp 69) (.const (.bool true)) (.tmp 81), (some (63, true)), []⟩,
  ⟨some 83, .pick (.tmp 63) (.tmp 82) (.const (.bool false)), none, []⟩] [2, 3, 4, 10, 11, 12, 13, 47, 48, 55, 62, 63, 68, 69, 74, 75, 80, 81, 82, 83]) (.seq (.cond (.tmp 83) (.seq (.reg [⟨some 84, .fieldAddr 36 (.tmp 10) 2, none, []⟩,
  ⟨some 85, .load 33 (.tmp 84), none, []⟩,
  ⟨some 86, .fieldAddr 73 (.tmp 3) 3, none, []⟩,
  ⟨some 87, .load 3 (.tmp 86), none, []⟩,
  ⟨some 88, .fieldAddr 73 (.tmp 3) 11, none, []⟩,
  ⟨some 89, .load 9 (.tmp 88), none, []⟩,
  ⟨some 90, .fieldAddr 73 (.tmp 3) 12, none, []⟩,
  ⟨some 91, .load 9 (.tmp 90), none, []⟩,
  ⟨some 92, .build 115 #[(0, .tmp 87), (1, .tmp 89), (2, .tmp 91)], none, []⟩,
  ⟨some 93, .buildSlice 33 1 #[(0, .tmp 92)], none, []⟩,
  ⟨some 94, .call { callee := .builtin .append, args := #[.tmp 85, .tmp 93], argTypes := #[33, 33] }, none, []⟩,
  ⟨some 95, .fieldAddr 36 (.tmp 10) 2, none, []⟩,
  ⟨none, .store 33 (.tmp 95) (.tmp 94), none, []⟩] [2, 3, 4, 10, 12, 13, 55]) (.seq (.reg [⟨some 11, .assign (.const (.bool true)), none, []⟩] [2, 3, 4, 10, 11, 12, 13, 47, 48, 55]) .skip)) .skip) (.seq (.reg [⟨some 96, .fieldAddr 115 (.tmp 13) 0, none, []⟩,
  ⟨some 97, .load 3 (.tmp 96), none, []⟩,
  ⟨some 98, .fieldAddr 73 (.tmp 3) 3, none, []⟩,
  ⟨some 99, .load 3 (.tmp 98), none, []⟩,
  ⟨some 100, .binOp .neq 3 (.tmp 97) (.tmp 99) 3, none, []⟩,
  ⟨some 101, .move (.tmp 100), none, []⟩,
  ⟨some 102, .fieldAddr 115 (.tmp 13) 1, (some (101, false)), []⟩,
  ⟨some 103, .load 9 (.tmp 102), (some (101, false)), []⟩,
  ⟨some 104, .fieldAddr 73 (.tmp 3) 11, (some (101, false)), []⟩,
  ⟨some 105, .load 9 (.tmp 104), (some (101, false)), []⟩,
  ⟨some 106, .binOp .neq 9 (.tmp 103) (.tmp 105) 9, (some (101, false)), []⟩,
  ⟨some 107, .pick (.tmp 101) (.const (.bool true)) (.tmp 106), none, []⟩] [2, 3, 4, 10, 11, 12, 13, 47, 48, 55, 100, 101, 106, 107]) (.seq (.cond (.tmp 107) (.seq (.reg [⟨some 108, .fieldAddr 36 (.tmp 10) 2, none, []⟩,
  ⟨some 109, .load 33 (.tmp 108), none, []⟩,
  ⟨some 110, .load 115 (.tmp 13), none, []⟩,
  ⟨some 111, .buildSlice 33 1 #[(0, .tmp 110)], none, []⟩,
  ⟨some 112, .call { callee := .builtin .append, args := #[.tmp 109, .tmp 111], argTypes := #[33, 33] }, none, []⟩,
  ⟨some 113, .fieldAddr 36 (.tmp 10) 2, none, []⟩,
  ⟨none, .store 33 (.tmp 113) (.tmp 112), none, []⟩] [2, 3, 4, 10, 11, 12, 47, 48, 55]) .skip) .skip) .skip)))))) (.seq (.reg [⟨some 54, .move (.tmp 12), none, []⟩,
  ⟨some 55, .binOp .add 3 (.tmp 54) (.const (.int .i64 1)) 3, none, []⟩,
  ⟨some 12, .assign (.tmp 55), none, []⟩] [2, 3, 4, 10, 11, 12, 47, 48, 55]) .skip))))) .skip)) (.seq (.reg [⟨some 114, .move (.tmp 11), none, []⟩,
  ⟨some 115, .unOp .not 4 (.tmp 114), none, []⟩] [3, 4, 10, 115]) (.seq (.cond (.tmp 115) (.seq (.reg [⟨some 116, .fieldAddr 36 (.tmp 10) 2, none, []⟩,
  ⟨some 117, .load 33 (.tmp 116), none, []⟩,
  ⟨some 118, .fieldAddr 73 (.tmp 3) 3, none, []⟩,
  ⟨some 119, .load 3 (.tmp 118), none, []⟩,
  ⟨some 120, .fieldAddr 73 (.tmp 3) 11, none, []⟩,
  ⟨some 121, .load 9 (.tmp 120), none, []⟩,
  ⟨some 122, .fieldAddr 73 (.tmp 3) 12, none, []⟩,
  ⟨some 123, .load 9 (.tmp 122), none, []⟩,
  ⟨some 124, .build 115 #[(0, .tmp 119), (1, .tmp 121), (2, .tmp 123)], none, []⟩,
  ⟨some 125, .buildSlice 33 1 #[(0, .tmp 124)], none, []⟩,
  ⟨some 126, .call { callee := .builtin .append, args := #[.tmp 117, .tmp 125], argTypes := #[33, 33] }, none, []⟩,
  ⟨some 127, .fieldAddr 36 (.tmp 10) 2, none, []⟩,
  ⟨none, .store 33 (.tmp 127) (.tmp 126), none, []⟩] [4, 10]) .skip) .skip) (.seq (.reg [⟨some 128, .load 36 (.tmp 10), none, []⟩,
  ⟨none, .store 36 (.tmp 4) (.tmp 128), none, []⟩,
  ⟨some 5, .assign (.const (.int .i64 0)), none, []⟩] [4, 5]) .ret)))))))))))))))
theorem s51 : TextK Proofs.Tryz.prog 0 51 129 [ResultVar.cell 4 36, ResultVar.tmp 5] c51 := .mk' Proofs.Tryz.f51 _ (by kernel_rfl) rfl rfl rfl (by kernel_rfl) rfl (by kernel_rfl)
theorem configRec_ok (m : Image) (r : Record) (hm : m.Pre) : ACall pg 51 [encM m, encR r] (.tup [encM (m.configRec r).1, I (m.configRec r).2]) := by
  refine s51.call mo (by simp) fun hxs => ?_
  clear hxs
  have hcl := hm.cl
  unfold c51
  repeat' first | (with_reducible first | refine thN ?_ | refine thE ?_ | refine inN ?_ | refine inH ?_ | refine fS ?_ | refine fR ?_ | refine fQ ?_ | refine fE ?_ | refine fT ?_ | refine awBlock ?_ | refine awExit ?_ | refine awRet ?_ | refine awSkip ?_) | ((with_reducible refine awReg fun K hok hK => ?_); clear hok; (try simp (maxSteps := 10000000) (disch := first | omega | simp) []); (repeat' first | (with_reducible refine hK _ (by simp) ?_) | ((with_reducible refine gdT (fun h => ?_) (fun h => ?_)) <;> (simp (maxSteps := 10000000) (disch := first | omega | simp) [h]; (try simp at h); (try (exfalso; omega)))) | ((with_reducible refine gdF (fun h => ?_) (fun h => ?_)) <;> (simp (maxSteps := 10000000) (disch := first | omega | simp) [h]; (try simp at h); (try (exfalso; omega)))) | ((first | ((with_reducible refine callS' fun K2 hK2 => ?_); (try simp (maxSteps := 10000000) (disch := first | omega | simp) []); (first | refine hK2 _ _ (topic_ok m r.topic) rfl fun hk9 => ?_ | refine hK2 _ _ (config_ok m r.topic r.key) rfl fun hk9 => ?_); clear hk9; clear hK2 K2) | ((with_reducible refine callF' fun K2 hK2 => ?_); (try simp (maxSteps := 10000000) (disch := first | omega | simp) []); (first | refine hK2 _ _ _ (topic_ok m r.topic) fun _ => ?_ | refine hK2 _ _ _ (config_ok m r.topic r.key) fun _ => ?_); clear hK2 K2)); (try simp (maxSteps := 10000000) (disch := first | omega | simp) []))) <;> clear hK K) | ((with_reducible refine awCond fun A B hA hB => ?_); simp (maxSteps := 10000000) (disch := first | omega | simp) []; (first | refine ⟨fun h => hA ?_, fun h => hB ?_⟩ | refine hA ?_ | refine hB ?_) <;> (clear hA hB A B; (try (exfalso; omega))))
  all_goals first
    | (refine aEnR (aRes [true] fun K hK => ?_); simp (maxSteps := 10000000) (disch := first | omega | simp) []; refine hK _ ?_ (by simp); clear hK; (try unfold Image.configRec); ((repeat' split) <;> first | rfl | (exfalso; omega) | (exfalso; simp only [*, Bool.false_eq_true, Bool.true_eq_false, not_true, not_false_iff] at *; done) | (simp_all; done) | (exfalso; simp_all; omega)))
    | (refine awFor m.configs.length (fun i (s : List Config × Bool) => (m.configs.drop i).foldl (putCStep r) s = m.configs.foldl (putCStep r) ([], r.flag) ∧ s.1.length ≤ 2 * i) (fun i s => [(12, .p (I i)), (11, .p (B s.2)), (10, .p (.own [.sl (m.brokers.map encB), .sl (m.topics.map encT), .uq (s.1.map encC), .sl (m.done.map encD), I m.last])), (4, .p (.own [.uq [], .uq [], .uq [], .uq [], I 0])), (3, .p (.own (encR r).cells)), (2, .p (.own (encM m).cells))]) ([], r.flag) (Wk.ofA (by simp [*])) (by simp) fun i s hi hs => ?_
       obtain ⟨hs, hsl⟩ := hs
       repeat' first | (with_reducible first | refine thN ?_ | refine thE ?_ | refine inN ?_ | refine inH ?_ | refine fS ?_ | refine fR ?_ | refine fQ ?_ | refine fE ?_ | refine fT ?_ | refine awBlock ?_ | refine awExit ?_ | refine awRet ?_ | refine awSkip ?_) | ((with_reducible refine awReg fun K hok hK => ?_); clear hok; (try simp (maxSteps := 10000000) (disch := first | omega | simp) []); (repeat' first | (with_reducible refine hK _ (by simp) ?_) | ((with_reducible refine gdT (fun h => ?_) (fun h => ?_)) <;> (simp (maxSteps := 10000000) (disch := first | omega | simp) [h]; (try simp at h); (try (exfalso; omega)))) | ((with_reducible refine gdF (fun h => ?_) (fun h => ?_)) <;> (simp (maxSteps := 10000000) (disch := first | omega | simp) [h]; (try simp at h); (try (exfalso; omega))))) <;> clear hK K) | ((with_reducible refine awCond fun A B hA hB => ?_); simp (maxSteps := 10000000) (disch := first | omega | simp) []; (first | refine ⟨fun h => hA ?_, fun h => hB ?_⟩ | refine hA ?_ | refine hB ?_) <;> (clear hA hB A B; (try (exfalso; omega))))
       all_goals first
         | (rw [foldl_drop (by assumption)] at hs
            refine ⟨by assumption, putCStep r s m.configs[i], ⟨hs, ?_⟩, Wk.ofA ?_⟩
            · clear hs; simp only [putCStep]; (repeat' split) <;> simp_all <;> omega
            · clear hs
              simp only [putCStep]
              split <;> split <;> first | (simp [*]; done) | (exfalso; simp_all; done) | (exfalso; simp_all; omega) | (simp_all; done))
         | (rw [drop_nil (by assumption)] at hs
            have e : putC m.configs r = if s.2 then s.1 else s.1 ++ [⟨r.topic, r.key, r.value⟩] := by simp only [putC, ← hs]; rfl
            (refine aEnR (aRes [true] fun K hK => ?_); simp (maxSteps := 10000000) (disch := first | omega | simp) [e]; refine hK _ ?_ (by simp); clear hK; (try unfold Image.configRec); ((repeat' split) <;> first | rfl | (exfalso; omega) | (exfalso; simp only [*, Bool.false_eq_true, Bool.true_eq_false, not_true, not_false_iff] at *; done) | (simp_all [e]; done) | (exfalso; simp_all [e]; omega)))))
end
end Go.Am
end
