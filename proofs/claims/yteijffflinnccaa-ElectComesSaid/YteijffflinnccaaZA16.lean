/- Part of the proof of ElectLeaves. -/
import Derived.Test.YteijffflinnccaaZAB
set_option linter.all false
set_option maxRecDepth 100000
set_option maxHeartbeats 0
namespace Go.Am
open Go
noncomputable section
def c125 : SC := (.seq (.reg [⟨some 4, .box 30 (.tmp 0), none, []⟩,
  ⟨some 7, .box 48 (.tmp 3), none, []⟩,
  ⟨some 8, .alloc 30, none, []⟩] [1, 2, 4, 7, 8]) (.seq (.reg [⟨some 13, .load 30 (.tmp 4), none, []⟩,
  ⟨some 9, .alloc 30, none, []⟩,
  ⟨none, .store 30 (.tmp 9) (.tmp 13), none, []⟩] [1, 2, 4, 7, 8, 9]) (.seq (.reg [⟨some 14, .fieldAddr 30 (.tmp 9) 1, none, []⟩,
  ⟨none, .store 26 (.tmp 14) (.const (.slice none 0 0)), none, []⟩] [1, 2, 4, 7, 8, 9]) (.seq (.reg [⟨some 10, .assign (.const (.int .i64 0)), none, []⟩] [1, 2, 4, 7, 8, 9, 10, 21]) (.seq (.block 0 (.seq (.loop (.seq (.reg [⟨some 15, .move (.tmp 10), none, []⟩,
  ⟨some 16, .fieldAddr 30 (.tmp 4) 1, none, []⟩,
  ⟨some 17, .load 26 (.tmp 16), none, []⟩,
  ⟨some 18, .call { callee := .builtin .len, args := #[.tmp 17], argTypes := #[26] }, none, []⟩,
  ⟨some 19, .binOp .lss 3 (.tmp 15) (.tmp 18) 3, none, []⟩] [1, 2, 4, 7, 8, 9, 10, 19, 21]) (.seq (.cond (.tmp 19) .skip (.exit 0)) (.seq (.block 1 (.seq (.reg [⟨some 22, .fieldAddr 30 (.tmp 4) 1, none, []⟩,
  ⟨some 23, .load 26 (.tmp 22), none, []⟩,
  ⟨some 24, .move (.tmp 10), none, []⟩,
  ⟨some 25, .indexAddr 26 (.tmp 23) (.tmp 24), none, []⟩,
  ⟨some 26, .load 46 (.tmp 25), none, []⟩,
  ⟨some 11, .alloc 46, none, []⟩,
  ⟨none, .store 46 (.tmp 11) (.tmp 26), none, []⟩] [1, 2, 4, 7, 8, 9, 10, 11, 21]) (.seq (.reg [⟨some 27, .fieldAddr 46 (.tmp 11) 0, none, []⟩,
  ⟨some 28, .load 3 (.tmp 27), none, []⟩,
  ⟨some 29, .move (.tmp 1), none, []⟩,
  ⟨some 30, .binOp .eql 3 (.tmp 28) (.tmp 29) 3, none, []⟩] [1, 2, 4, 7, 8, 9, 10, 11, 21, 30]) (.seq (.cond (.tmp 30) (.seq (.reg [⟨some 12, .assign (.const (.slice none 0 0)), none, []⟩] [1, 2, 4, 7, 8, 9, 10, 11, 12, 21, 36, 40, 52]) (.seq (.reg [⟨some 31, .move (.tmp 12), none, []⟩,
  ⟨some 32, .fieldAddr 46 (.tmp 11) 2, none, []⟩,
  ⟨some 33, .load 44 (.tmp 32), none, []⟩,
  ⟨some 34, .move (.tmp 2), none, []⟩,
  ⟨some 35, .slice 44 (.tmp 33) none (some (.tmp 34)) none, none, []⟩,
  ⟨some 36, .call { callee := .builtin .append, args := #[.tmp 31, .tmp 35], argTypes := #[44, 44] }, none, []⟩,
  ⟨some 12, .assign (.tmp 36), none, []⟩] [1, 2, 4, 7, 8, 9, 10, 11, 12, 21, 36, 40, 52]) (.seq (.reg [⟨some 37, .move (.tmp 12), none, []⟩,
  ⟨some 38, .load 48 (.tmp 7), none, []⟩,
  ⟨some 39, .buildSlice 44 1 #[(0, .tmp 38)], none, []⟩,
  ⟨some 40, .call { callee := .builtin .append, args := #[.tmp 37, .tmp 39], argTypes := #[44, 44] }, none, []⟩,
  ⟨some 12, .assign (.tmp 40), none, []⟩] [1, 2, 4, 7, 8, 9, 10, 11, 12, 21, 36, 40, 52]) (.seq (.reg [⟨some 41, .move (.tmp 2), none, []⟩,
  ⟨some 42, .fieldAddr 46 (.tmp 11) 2, none, []⟩,
  ⟨some 43, .load 44 (.tmp 42), none, []⟩,
  ⟨some 44, .call { callee := .builtin .len, args := #[.tmp 43], argTypes := #[44] }, none, []⟩,
  ⟨some 45, .binOp .lss 3 (.tmp 41) (.tmp 44) 3, none, []⟩] [1, 2, 4, 7, 8, 9, 10, 11, 12, 21, 36, 40, 45, 52]) (.seq (.cond (.tmp 45) (.seq (.reg [⟨some 46, .move (.tmp 12), none, []⟩,
  ⟨some 47, .fieldAddr 46 (.tmp 11) 2, none, []⟩,
  ⟨some 48, .load 44 (.tmp 47), none, []⟩,
  ⟨some 49, .move (.tmp 2), none, []⟩,
  ⟨some 50, .binOp .add 3 (.tmp 49) (.const (.int .i64 1)) 3, none, []⟩,
  ⟨some 51, .slice 44 (.tmp 48) (some (.tmp 50)) none none, none, []⟩,
  ⟨some 52, .call { callee := .builtin .append, args := #[.tmp 46, .tmp 51], argTypes := #[44, 44] }, none, []⟩,
  ⟨some 12, .assign (.tmp 52), none, []⟩] [1, 2, 4, 7, 8, 9, 10, 11, 12, 21, 36, 40, 52]) .skip) .skip) (.seq (.reg [⟨some 53, .move (.tmp 12), none, []⟩,
  ⟨some 54, .fieldAddr 46 (.tmp 11) 2, none, []⟩,
  ⟨none, .store 44 (.tmp 54) (.tmp 53), none, []⟩] [1, 2, 4, 7, 8, 9, 10, 11, 21]) .skip)))))) .skip) (.seq (.reg [⟨some 55, .fieldAddr 30 (.tmp 9) 1, none, []⟩,
  ⟨some 56, .load 26 (.tmp 55), none, []⟩,
  ⟨some 57, .load 46 (.tmp 11), none, []⟩,
  ⟨some 58, .buildSlice 26 1 #[(0, .tmp 57)], none, []⟩,
  ⟨some 59, .call { callee := .builtin .append, args := #[.tmp 56, .tmp 58], argTypes := #[26, 26] }, none, []⟩,
  ⟨some 60, .fieldAddr 30 (.tmp 9) 1, none, []⟩,
  ⟨none, .store 26 (.tmp 60) (.tmp 59), none, []⟩] [1, 2, 4, 7, 8, 9, 10, 21]) .skip))))) (.seq (.reg [⟨some 20, .move (.tmp 10), none, []⟩,
  ⟨some 21, .binOp .add 3 (.tmp 20) (.const (.int .i64 1)) 3, none, []⟩,
  ⟨some 10, .assign (.tmp 21), none, []⟩] [1, 2, 4, 7, 8, 9, 10, 21]) .skip))))) .skip)) (.seq (.reg [⟨some 61, .load 30 (.tmp 9), none, []⟩,
  ⟨none, .store 30 (.tmp 8) (.tmp 61), none, []⟩] [8]) .ret))))))
theorem s125 : TextK Proofs.Try.prog 0 125 62 [ResultVar.cell 8 30] c125 := .mk' Proofs.Try.f125 _ (by kernel_rfl) rfl rfl rfl (by kernel_rfl) rfl (by kernel_rfl)
theorem putPart_ok (m : Image) (id : Int) (n : Nat) (p : Part) (hm : m.Pre) (hn : ∀ t ∈ m.topics, t.id = id → n ≤ t.parts.length) : ACall pg 125 [encM m, I id, I n, encP p] (encM (m.putPart id n p)) := by
  refine s125.call mo (by simp) fun hxs => ?_
  clear hxs
  have htl := hm.tl
  unfold c125
  repeat' first
      | (with_reducible first | refine thN ?_ | refine thR ?_ | refine thE ?_ | refine inN ?_ | refine inR ?_ | refine inH ?_ | refine fF ?_ | refine fS ?_ | refine fR ?_ | refine fQ ?_ | refine fC ?_ | refine fB ?_ | refine fL ?_ | refine fE ?_ | refine fT ?_ | refine awBlock ?_ | refine awExit ?_ | refine awRet ?_ | refine awSkip ?_ | refine inM (by decide) ?_)
      | ((with_reducible refine awReg fun K hok hK => ?_); clear hok; (try simp (maxSteps := 10000000) (disch := first | omega | simp) []); (repeat' first
          | (with_reducible refine hK _ (by simp) ?_)
          | ((with_reducible refine gdT (fun h => ?_) (fun h => ?_)) <;> (simp (maxSteps := 10000000) (disch := first | omega | simp) [h]; (try simp at h); (try (exfalso; omega))))
          | ((with_reducible refine gdF (fun h => ?_) (fun h => ?_)) <;> (simp (maxSteps := 10000000) (disch := first | omega | simp) [h]; (try simp at h); (try (exfalso; omega))))
          | ((with_reducible refine gdU ?_); (try simp (maxSteps := 10000000) (disch := first | omega | simp) []))) <;> clear hK K)
      | ((with_reducible refine awCond fun A B hA hB => ?_); simp (maxSteps := 10000000) (disch := first | omega | simp) []; (first | refine ⟨fun h => hA ?_, fun h => hB ?_⟩ | refine hA ?_ | refine hB ?_) <;> (clear hA hB A B; (try (exfalso; omega))))
  refine awFor m.topics.length (fun i (s : List Topic) => s ++ (m.topics.drop i).map (fun t => if t.id = id then { t with parts := setAt t.parts n p } else t) = (m.putPart id n p).topics ∧ s.length ≤ i) (fun i s => [(10, .p (I i)), (9, .p (.own [.sl (m.brokers.map encB), .uq (s.map encT), .sl (m.configs.map encC), .sl (m.done.map encD), I m.last])), (8, .p (.own [.uq [], .uq [], .uq [], .uq [], I 0])), (7, .p (.own (encP p).cells)), (4, .p (.own (encM m).cells)), (2, .p (I n)), (1, .p (I id))]) [] (Wk.ofA (by simp)) (by simp [Image.putPart]) fun i s hi hs => ?_
  obtain ⟨hs, hsl⟩ := hs
  repeat' first
      | (with_reducible first | refine thN ?_ | refine thR ?_ | refine thE ?_ | refine inN ?_ | refine inR ?_ | refine inH ?_ | refine fF ?_ | refine fS ?_ | refine fR ?_ | refine fQ ?_ | refine fC ?_ | refine fB ?_ | refine fL ?_ | refine fE ?_ | refine fT ?_ | refine awBlock ?_ | refine awExit ?_ | refine awRet ?_ | refine awSkip ?_ | refine inM (by decide) ?_)
      | ((with_reducible refine awReg fun K hok hK => ?_); clear hok; (try simp (maxSteps := 10000000) (disch := first | omega | simp) []); (repeat' first
          | (with_reducible refine hK _ (by simp) ?_)
          | ((with_reducible refine gdT (fun h => ?_) (fun h => ?_)) <;> (simp (maxSteps := 10000000) (disch := first | omega | simp) [h]; (try simp at h); (try (exfalso; omega))))
          | ((with_reducible refine gdF (fun h => ?_) (fun h => ?_)) <;> (simp (maxSteps := 10000000) (disch := first | omega | simp) [h]; (try simp at h); (try (exfalso; omega))))
          | ((with_reducible refine gdU ?_); (try simp (maxSteps := 10000000) (disch := first | omega | simp) []))) <;> clear hK K)
      | ((with_reducible refine awCond fun A B hA hB => ?_); simp (maxSteps := 10000000) (disch := first | omega | simp) []; (first | refine ⟨fun h => hA ?_, fun h => hB ?_⟩ | refine hA ?_ | refine hB ?_) <;> (clear hA hB A B; (try (exfalso; omega))))
  · have hnn := hn m.topics[i] (List.getElem_mem _) (by assumption)
    have hpp := hm.pl m.topics[i] (List.getElem_mem _)
    repeat' first
        | (with_reducible first | refine thN ?_ | refine thR ?_ | refine thE ?_ | refine inN ?_ | refine inR ?_ | refine inH ?_ | refine fF ?_ | refine fS ?_ | refine fR ?_ | refine fQ ?_ | refine fC ?_ | refine fB ?_ | refine fL ?_ | refine fE ?_ | refine fT ?_ | refine awBlock ?_ | refine awExit ?_ | refine awRet ?_ | refine awSkip ?_ | refine inM (by decide) ?_)
        | ((with_reducible refine awReg fun K hok hK => ?_); clear hok; (try simp (maxSteps := 10000000) (disch := first | omega | simp) []); (repeat' first
            | (with_reducible refine hK _ (by simp) ?_)
            | ((with_reducible refine gdT (fun h => ?_) (fun h => ?_)) <;> (simp (maxSteps := 10000000) (disch := first | omega | simp) [h]; (try simp at h); (try (exfalso; omega))))
            | ((with_reducible refine gdF (fun h => ?_) (fun h => ?_)) <;> (simp (maxSteps := 10000000) (disch := first | omega | simp) [h]; (try simp at h); (try (exfalso; omega))))
            | ((with_reducible refine gdU ?_); (try simp (maxSteps := 10000000) (disch := first | omega | simp) []))) <;> clear hK K)
        | ((with_reducible refine awCond fun A B hA hB => ?_); simp (maxSteps := 10000000) (disch := first | omega | simp) []; (first | refine ⟨fun h => hA ?_, fun h => hB ?_⟩ | refine hA ?_ | refine hB ?_) <;> (clear hA hB A B; (try (exfalso; omega))))
    all_goals
      have hi2 : i < m.topics.length := by assumption
      rw [drop_cons hi2] at hs
      refine ⟨hi2, s ++ [⟨m.topics[i].id, m.topics[i].name, setAt m.topics[i].parts n p⟩], ⟨?_, by simp; omega⟩, Wk.ofA ?_⟩
      · rw [← hs]; clear hs; simp [*, -List.getElem_cons_drop]
      · clear hs; simp [setAt, drop_nil, *]
        try omega
  · rw [drop_cons (by assumption)] at hs
    refine ⟨by assumption, s ++ [m.topics[i]], ⟨?_, by simp; omega⟩, Wk.ofA (by simp; done)⟩
    rw [← hs]; clear hs; simp [*, -List.getElem_cons_drop]
  · rw [drop_nil (by assumption)] at hs
    simp at hs
    subst hs
    (refine aEnR (aRes [true] fun K hK => ?_); simp (maxSteps := 10000000) (disch := first | omega | simp) []; refine hK _ ?_ (by simp); clear hK; (try unfold Image.putPart); ((repeat' split) <;> first | rfl | (exfalso; omega) | (exfalso; simp only [*, Bool.false_eq_true, Bool.true_eq_false, not_true, not_false_iff] at *; done) | (simp_all; done) | (exfalso; simp_all; omega)))
end
end Go.Am
