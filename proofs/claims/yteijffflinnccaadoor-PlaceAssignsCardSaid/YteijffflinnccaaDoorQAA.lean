/- Part of the proof of a law of placing. -/
import Derived.Test.YteijffflinnccaaDoorQData
set_option linter.all false
section
set_option maxRecDepth 100000
namespace Go.Am
open Go
noncomputable section
def c25 : SC := (.seq (.reg [⟨some 2, .box 30 (.tmp 0), none, []⟩,
  ⟨some 4, .alloc 34, none, []⟩,
  ⟨some 5, .assign (.const (.bool false)), none, []⟩] [1, 2, 4]) (.seq (.reg [⟨some 6, .assign (.const (.int .i64 0)), none, []⟩] [1, 2, 4, 6, 13]) (.seq (.block 0 (.seq (.loop (.seq (.reg [⟨some 7, .move (.tmp 6), none, []⟩,
  ⟨some 8, .fieldAddr 30 (.tmp 2) 0, none, []⟩,
  ⟨some 9, .load 25 (.tmp 8), none, []⟩,
  ⟨some 10, .call { callee := .builtin .len, args := #[.tmp 9], argTypes := #[25] }, none, []⟩,
  ⟨some 11, .binOp .lss 3 (.tmp 7) (.tmp 10) 3, none, []⟩] [1, 2, 4, 6, 11, 13]) (.seq (.cond (.tmp 11) .skip (.exit 0)) (.seq (.block 1 (.seq (.reg [⟨some 14, .fieldAddr 30 (.tmp 2) 0, none, []⟩,
  ⟨some 15, .load 25 (.tmp 14), none, []⟩,
  ⟨some 16, .move (.tmp 6), none, []⟩,
  ⟨some 17, .indexAddr 25 (.tmp 15) (.tmp 16), none, []⟩,
  ⟨some 18, .fieldAddr 34 (.tmp 17) 0, none, []⟩,
  ⟨some 19, .load 3 (.tmp 18), none, []⟩,
  ⟨some 20, .move (.tmp 1), none, []⟩,
  ⟨some 21, .binOp .eql 3 (.tmp 19) (.tmp 20) 3, none, []⟩] [1, 2, 4, 6, 13, 21]) (.seq (.cond (.tmp 21) (.seq (.reg [⟨some 22, .fieldAddr 30 (.tmp 2) 0, none, []⟩,
  ⟨some 23, .load 25 (.tmp 22), none, []⟩,
  ⟨some 24, .move (.tmp 6), none, []⟩,
  ⟨some 25, .indexAddr 25 (.tmp 23) (.tmp 24), none, []⟩,
  ⟨some 26, .load 34 (.tmp 25), none, []⟩,
  ⟨none, .store 34 (.tmp 4) (.tmp 26), none, []⟩,
  ⟨some 5, .assign (.const (.bool true)), none, []⟩] [4, 5]) .ret) .skip) .skip))) (.seq (.reg [⟨some 12, .move (.tmp 6), none, []⟩,
  ⟨some 13, .binOp .add 3 (.tmp 12) (.const (.int .i64 1)) 3, none, []⟩,
  ⟨some 6, .assign (.tmp 13), none, []⟩] [1, 2, 4, 6, 13]) .skip))))) .skip)) (.seq (.reg [⟨some 27, .build 34 #[], none, []⟩,
  ⟨none, .store 34 (.tmp 4) (.tmp 27), none, []⟩,
  ⟨some 5, .assign (.const (.bool false)), none, []⟩] [4, 5]) .ret))))
theorem s25 : TextK Proofs.Tryd.prog 0 25 28 [ResultVar.cell 4 34, ResultVar.tmp 5] c25 := .mk' Proofs.Tryd.f25 _ (by kernel_rfl) rfl rfl rfl (by kernel_rfl) rfl (by kernel_rfl)
theorem broker_ok (m : Image) (id : Int) : ACall pg 25 [encM m, I id] (.tup [encB ((m.broker id).getD zB), B (m.broker id).isSome]) := by
  refine s25.call mo (by simp) fun hxs => ?_
  have hlen := okLen (l := m.brokers.map encB) (by simpa using hxs.1.1)
  simp at hlen
  clear hxs
  unfold c25
  repeat' first
      | (with_reducible first | refine thN ?_ | refine thR ?_ | refine thE ?_ | refine inN ?_ | refine inR ?_ | refine inH ?_ | refine fF ?_ | refine fS ?_ | refine fR ?_ | refine fQ ?_ | refine fC ?_ | refine fB ?_ | refine fL ?_ | refine fE ?_ | refine fT ?_ | refine awBlock ?_ | refine awExit ?_ | refine awRet ?_ | refine awSkip ?_ | refine inM (by decide) ?_)
      | ((with_reducible refine awReg fun K hok hK => ?_); clear hok; (try simp (maxSteps := 10000000) (disch := first | omega | simp) []); (repeat' first
          | (with_reducible refine hK _ (by simp) ?_)
          | ((with_reducible refine gdT (fun h => ?_) (fun h => ?_)) <;> (simp (maxSteps := 10000000) (disch := first | omega | simp) [h]; (try simp at h); (try (exfalso; omega))))
          | ((with_reducible refine gdF (fun h => ?_) (fun h => ?_)) <;> (simp (maxSteps := 10000000) (disch := first | omega | simp) [h]; (try simp at h); (try (exfalso; omega))))
          | ((with_reducible refine gdU ?_); (try simp (maxSteps := 10000000) (disch := first | omega | simp) []))) <;> clear hK K)
      | ((with_reducible refine awCond fun A B hA hB => ?_); simp (maxSteps := 10000000) (disch := first | omega | simp) []; (first | refine ⟨fun h => hA ?_, fun h => hB ?_⟩ | refine hA ?_ | refine hB ?_) <;> (clear hA hB A B; (try (exfalso; omega))))
  refine awLoop (fun k Γ => ∃ i, i ≤ m.brokers.length ∧ k = m.brokers.length - i ∧ (∀ b ∈ m.brokers.take i, (b.id == id) = false) ∧ Γ = ofA [(6, .p (I i)), (4, .p (.own [I 0, I 0, St ⟨#[]⟩, B false, B false])), (2, .p (.own (encM m).cells)), (1, .p (I id))]) _ _ (Wk.ofA ?_) ⟨0, by simp, rfl, by simp, rfl⟩ ?_
  · simp
  rintro _ _ ⟨i, hi, rfl, hni, rfl⟩
  repeat' first
      | (with_reducible first | refine thN ?_ | refine thR ?_ | refine thE ?_ | refine inN ?_ | refine inR ?_ | refine inH ?_ | refine fF ?_ | refine fS ?_ | refine fR ?_ | refine fQ ?_ | refine fC ?_ | refine fB ?_ | refine fL ?_ | refine fE ?_ | refine fT ?_ | refine awBlock ?_ | refine awExit ?_ | refine awRet ?_ | refine awSkip ?_ | refine inM (by decide) ?_)
      | ((with_reducible refine awReg fun K hok hK => ?_); clear hok; (try simp (maxSteps := 10000000) (disch := first | omega | simp) []); (repeat' first
          | (with_reducible refine hK _ (by simp) ?_)
          | ((with_reducible refine gdT (fun h => ?_) (fun h => ?_)) <;> (simp (maxSteps := 10000000) (disch := first | omega | simp) [h]; (try simp at h); (try (exfalso; omega))))
          | ((with_reducible refine gdF (fun h => ?_) (fun h => ?_)) <;> (simp (maxSteps := 10000000) (disch := first | omega | simp) [h]; (try simp at h); (try (exfalso; omega))))
          | ((with_reducible refine gdU ?_); (try simp (maxSteps := 10000000) (disch := first | omega | simp) []))) <;> clear hK K)
      | ((with_reducible refine awCond fun A B hA hB => ?_); simp (maxSteps := 10000000) (disch := first | omega | simp) []; (first | refine ⟨fun h => hA ?_, fun h => hB ?_⟩ | refine hA ?_ | refine hB ?_) <;> (clear hA hB A B; (try (exfalso; omega))))
  · rw [show m.broker id = some m.brokers[i] from find_at (by assumption) hni (by simpa using ‹_›)]
    (refine aEnR (aRes [] fun K hK => ?_); simp (maxSteps := 10000000) (disch := first | omega | simp) []; refine hK _ ?_ (by simp); simp (maxSteps := 10000000) (disch := first | omega | simp) [])
  · refine ⟨_, _, ?_, Wk.ofA ?_, i + 1, by omega, rfl, all_take (by assumption) hni (by simpa using ‹_›), rfl⟩
    · omega
    · simp
  · rw [show m.broker id = none from find_no (by assumption) hni]
    (refine aEnR (aRes [] fun K hK => ?_); simp (maxSteps := 10000000) (disch := first | omega | simp) [zB]; refine hK _ ?_ (by simp); simp (maxSteps := 10000000) (disch := first | omega | simp) [zB])
end
end Go.Am
end
section
set_option maxRecDepth 100000
namespace Go.Am
open Go
noncomputable section
end
end Go.Am
end
section
set_option maxRecDepth 100000
set_option maxHeartbeats 0
namespace Go.Am
open Go
noncomputable section
end
end Go.Am
end
section
set_option maxRecDepth 100000
set_option maxHeartbeats 0
namespace Go.Am
open Go
noncomputable section
end
end Go.Am
end
section
set_option maxRecDepth 100000
set_option maxHeartbeats 0
namespace Go.Am
open Go
noncomputable section
def c9 : SC := (.seq (.reg [⟨some 4, .assign (.const (.bool false)), none, []⟩] [0, 1]) (.seq (.reg [⟨some 6, .move (.tmp 0), none, []⟩,
  ⟨some 7, .call { callee := .builtin .len, args := #[.tmp 6], argTypes := #[23] }, none, []⟩,
  ⟨some 8, .move (.tmp 1), none, []⟩,
  ⟨some 9, .call { callee := .builtin .len, args := #[.tmp 8], argTypes := #[23] }, none, []⟩,
  ⟨some 10, .binOp .neq 3 (.tmp 7) (.tmp 9) 3, none, []⟩] [0, 1, 10]) (.seq (.cond (.tmp 10) (.seq (.reg [⟨some 4, .assign (.const (.bool false)), none, []⟩] [4]) .ret) .skip) (.seq (.reg [⟨some 5, .assign (.const (.int .i64 0)), none, []⟩] [0, 1, 5, 16]) (.seq (.block 0 (.seq (.loop (.seq (.reg [⟨some 11, .move (.tmp 5), none, []⟩,
  ⟨some 12, .move (.tmp 0), none, []⟩,
  ⟨some 13, .call { callee := .builtin .len, args := #[.tmp 12], argTypes := #[23] }, none, []⟩,
  ⟨some 14, .binOp .lss 3 (.tmp 11) (.tmp 13) 3, none, []⟩] [0, 1, 5, 14, 16]) (.seq (.cond (.tmp 14) .skip (.exit 0)) (.seq (.block 1 (.seq (.reg [⟨some 17, .move (.tmp 0), none, [18, 21, 22, 23, 24]⟩,
  ⟨some 18, .move (.tmp 5), none, [17, 21, 22, 23, 24]⟩,
  ⟨some 19, .indexAddr 23 (.tmp 17) (.tmp 18), none, [21, 22, 23, 24]⟩,
  ⟨some 20, .load 3 (.tmp 19), none, [21, 22, 23, 24]⟩,
  ⟨some 21, .move (.tmp 1), none, [17, 18, 19, 20, 22]⟩,
  ⟨some 22, .move (.tmp 5), none, [17, 18, 19, 20, 21]⟩,
  ⟨some 23, .indexAddr 23 (.tmp 21) (.tmp 22), none, [17, 18, 19, 20]⟩,
  ⟨some 24, .load 3 (.tmp 23), none, [17, 18, 19, 20]⟩,
  ⟨some 25, .binOp .neq 3 (.tmp 20) (.tmp 24) 3, none, []⟩] [0, 1, 5, 16, 25]) (.seq (.cond (.tmp 25) (.seq (.reg [⟨some 4, .assign (.const (.bool false)), none, []⟩] [4]) .ret) .skip) .skip))) (.seq (.reg [⟨some 15, .move (.tmp 5), none, []⟩,
  ⟨some 16, .binOp .add 3 (.tmp 15) (.const (.int .i64 1)) 3, none, []⟩,
  ⟨some 5, .assign (.tmp 16), none, []⟩] [0, 1, 5, 16]) .skip))))) .skip)) (.seq (.reg [⟨some 4, .assign (.const (.bool true)), none, []⟩] [4]) .ret))))))
theorem s9 : TextK Proofs.Tryd.prog 0 9 26 [ResultVar.tmp 4] c9 := .mk' Proofs.Tryd.f9 _ (by kernel_rfl) rfl rfl rfl (by kernel_rfl) rfl (by kernel_rfl)
theorem okLenI {l : List Int} (h : okV (Li l)) : l.length ≤ 9223372036854775807 := by have := okLen h; simpa using this
theorem ints_ok (a b : List Int) : ACall pg 9 [Li a, Li b] (B (a == b)) := by
  refine s9.call mo (by simp) fun hxs => ?_
  have hla := okLenI hxs.1
  have hlb := okLenI hxs.2.1
  clear hxs
  unfold c9
  repeat' first
      | (with_reducible first | refine thN ?_ | refine thR ?_ | refine thE ?_ | refine inN ?_ | refine inR ?_ | refine inH ?_ | refine fF ?_ | refine fS ?_ | refine fR ?_ | refine fQ ?_ | refine fC ?_ | refine fB ?_ | refine fL ?_ | refine fE ?_ | refine fT ?_ | refine awBlock ?_ | refine awExit ?_ | refine awRet ?_ | refine awSkip ?_ | refine inM (by decide) ?_)
      | ((with_reducible refine awReg fun K hok hK => ?_); clear hok; (try simp (maxSteps := 10000000) (disch := first | omega | simp) []); (repeat' first
          | (with_reducible refine hK _ (by simp) ?_)
          | ((with_reducible refine gdT (fun h => ?_) (fun h => ?_)) <;> (simp (maxSteps := 10000000) (disch := first | omega | simp) [h]; (try simp at h); (try (exfalso; omega))))
          | ((with_reducible refine gdF (fun h => ?_) (fun h => ?_)) <;> (simp (maxSteps := 10000000) (disch := first | omega | simp) [h]; (try simp at h); (try (exfalso; omega))))
          | ((with_reducible refine sideSt' fun K2 hK2 => ?_); (try simp (maxSteps := 10000000) (disch := first | omega | simp) []); refine hK2 _ ?_; clear hK2 K2; (try simp (maxSteps := 10000000) (disch := first | omega | simp) []))
          | ((with_reducible refine gdU ?_); (try simp (maxSteps := 10000000) (disch := first | omega | simp) []))
          | ((with_reducible refine sideQ' ?_ ?_ fun K2 hK2 => ?_); exact rfl; exact rfl; (try simp (maxSteps := 10000000) (disch := first | omega | simp) []); with_reducible refine hK2 _ _ ?_; clear hK2 K2; (try simp (maxSteps := 10000000) (disch := first | omega | simp) []))
          | ((with_reducible refine side' ?_ fun K2 hK2 => ?_); exact rfl; (try simp (maxSteps := 10000000) (disch := first | omega | simp) []); refine hK2 _ _ (by simp) ?_; clear hK2 K2; (try simp (maxSteps := 10000000) (disch := first | omega | simp) []))) <;> clear hK K)
      | ((with_reducible refine awCond fun A B hA hB => ?_); simp (maxSteps := 10000000) (disch := first | omega | simp) []; (first | refine ⟨fun h => hA ?_, fun h => hB ?_⟩ | refine hA ?_ | refine hB ?_) <;> (clear hA hB A B; (try (exfalso; omega))))
  · have e : (a == b) = false := by rw [beq_eq_false_iff_ne]; intro e; subst e; simp_all
    (refine aEnR (aRes [] fun K hK => ?_); simp (maxSteps := 10000000) (disch := first | omega | simp) [e]; refine hK _ ?_ (by simp); simp (maxSteps := 10000000) (disch := first | omega | simp) [e])
  have hl : a.length = b.length := by omega
  refine awLoop (fun k Γ => ∃ i, i ≤ a.length ∧ k = a.length - i ∧ a.take i = b.take i ∧ Γ = ofA [(5, .p (I i)), (0, .p (Li a)), (1, .p (Li b))]) _ _ (Wk.ofA ?_) ⟨0, by simp, rfl, by simp, rfl⟩ ?_
  · simp
  rintro _ _ ⟨i, hi, rfl, ht, rfl⟩
  repeat' first
      | (with_reducible first | refine thN ?_ | refine thR ?_ | refine thE ?_ | refine inN ?_ | refine inR ?_ | refine inH ?_ | refine fF ?_ | refine fS ?_ | refine fR ?_ | refine fQ ?_ | refine fC ?_ | refine fB ?_ | refine fL ?_ | refine fE ?_ | refine fT ?_ | refine awBlock ?_ | refine awExit ?_ | refine awRet ?_ | refine awSkip ?_ | refine inM (by decide) ?_)
      | ((with_reducible refine awReg fun K hok hK => ?_); clear hok; (try simp (maxSteps := 10000000) (disch := first | omega | simp) []); (repeat' first
          | (with_reducible refine hK _ (by simp) ?_)
          | ((with_reducible refine gdT (fun h => ?_) (fun h => ?_)) <;> (simp (maxSteps := 10000000) (disch := first | omega | simp) [h]; (try simp at h); (try (exfalso; omega))))
          | ((with_reducible refine gdF (fun h => ?_) (fun h => ?_)) <;> (simp (maxSteps := 10000000) (disch := first | omega | simp) [h]; (try simp at h); (try (exfalso; omega))))
          | ((with_reducible refine sideSt' fun K2 hK2 => ?_); (try simp (maxSteps := 10000000) (disch := first | omega | simp) []); refine hK2 _ ?_; clear hK2 K2; (try simp (maxSteps := 10000000) (disch := first | omega | simp) []))
          | ((with_reducible refine gdU ?_); (try simp (maxSteps := 10000000) (disch := first | omega | simp) []))
          | ((with_reducible refine sideQ' ?_ ?_ fun K2 hK2 => ?_); exact rfl; exact rfl; (try simp (maxSteps := 10000000) (disch := first | omega | simp) []); with_reducible refine hK2 _ _ ?_; clear hK2 K2; (try simp (maxSteps := 10000000) (disch := first | omega | simp) []))
          | ((with_reducible refine side' ?_ fun K2 hK2 => ?_); exact rfl; (try simp (maxSteps := 10000000) (disch := first | omega | simp) []); refine hK2 _ _ (by simp) ?_; clear hK2 K2; (try simp (maxSteps := 10000000) (disch := first | omega | simp) []))) <;> clear hK K)
      | ((with_reducible refine awCond fun A B hA hB => ?_); simp (maxSteps := 10000000) (disch := first | omega | simp) []; (first | refine ⟨fun h => hA ?_, fun h => hB ?_⟩ | refine hA ?_ | refine hB ?_) <;> (clear hA hB A B; (try (exfalso; omega))))
  · have hi2 : i < a.length := by assumption
    have hi3 : i < b.length := by omega
    have e : (a == b) = false := by
      rw [beq_eq_false_iff_ne]; intro e; subst e; simp at h
    (refine aEnR (aRes [] fun K hK => ?_); simp (maxSteps := 10000000) (disch := first | omega | simp) [e]; refine hK _ ?_ (by simp); simp (maxSteps := 10000000) (disch := first | omega | simp) [e])
  · have hi2 : i < a.length := by assumption
    have hi3 : i < b.length := by omega
    refine ⟨_, _, ?_, Wk.ofA ?_, i + 1, by omega, rfl, eq_take hi2 hi3 ht (by simpa using h), rfl⟩
    · omega
    · simp
  · have e : a = b := by
      rw [List.take_of_length_le (by assumption), List.take_of_length_le (by omega)] at ht; exact ht
    (refine aEnR (aRes [] fun K hK => ?_); simp (maxSteps := 10000000) (disch := first | omega | simp) [e]; refine hK _ ?_ (by simp); simp (maxSteps := 10000000) (disch := first | omega | simp) [e])
end
end Go.Am
end
section
set_option maxRecDepth 100000
set_option maxHeartbeats 0
namespace Go.Am
open Go
noncomputable section
def c26 : SC := (.seq (.reg [⟨some 4, .assign (.const (.bool false)), none, []⟩] [0, 1]) (.seq (.reg [⟨some 5, .assign (.const (.int .i64 0)), none, []⟩] [0, 1, 5, 11]) (.seq (.block 0 (.seq (.loop (.seq (.reg [⟨some 6, .move (.tmp 5), none, []⟩,
  ⟨some 7, .move (.tmp 0), none, []⟩,
  ⟨some 8, .call { callee := .builtin .len, args := #[.tmp 7], argTypes := #[23] }, none, []⟩,
  ⟨some 9, .binOp .lss 3 (.tmp 6) (.tmp 8) 3, none, []⟩] [0, 1, 5, 9, 11]) (.seq (.cond (.tmp 9) .skip (.exit 0)) (.seq (.block 1 (.seq (.reg [⟨some 12, .move (.tmp 0), none, []⟩,
  ⟨some 13, .move (.tmp 5), none, []⟩,
  ⟨some 14, .indexAddr 23 (.tmp 12) (.tmp 13), none, []⟩,
  ⟨some 15, .load 3 (.tmp 14), none, []⟩,
  ⟨some 16, .move (.tmp 1), none, []⟩,
  ⟨some 17, .binOp .eql 3 (.tmp 15) (.tmp 16) 3, none, []⟩] [0, 1, 5, 11, 17]) (.seq (.cond (.tmp 17) (.seq (.reg [⟨some 4, .assign (.const (.bool true)), none, []⟩] [4]) .ret) .skip) .skip))) (.seq (.reg [⟨some 10, .move (.tmp 5), none, []⟩,
  ⟨some 11, .binOp .add 3 (.tmp 10) (.const (.int .i64 1)) 3, none, []⟩,
  ⟨some 5, .assign (.tmp 11), none, []⟩] [0, 1, 5, 11]) .skip))))) .skip)) (.seq (.reg [⟨some 4, .assign (.const (.bool false)), none, []⟩] [4]) .ret))))
theorem s26 : TextK Proofs.Tryd.prog 0 26 18 [ResultVar.tmp 4] c26 := .mk' Proofs.Tryd.f26 _ (by kernel_rfl) rfl rfl rfl (by kernel_rfl) rfl (by kernel_rfl)
theorem has_ok (l : List Int) (n : Int) : ACall pg 26 [Li l, I n] (B (l.contains n)) := by
  refine s26.call mo (by simp) fun hxs => ?_
  have hlen := okLenI hxs.1
  clear hxs
  unfold c26
  repeat' first
      | (with_reducible first | refine thN ?_ | refine thR ?_ | refine thE ?_ | refine inN ?_ | refine inR ?_ | refine inH ?_ | refine fF ?_ | refine fS ?_ | refine fR ?_ | refine fQ ?_ | refine fC ?_ | refine fB ?_ | refine fL ?_ | refine fE ?_ | refine fT ?_ | refine awBlock ?_ | refine awExit ?_ | refine awRet ?_ | refine awSkip ?_ | refine inM (by decide) ?_)
      | ((with_reducible refine awReg fun K hok hK => ?_); clear hok; (try simp (maxSteps := 10000000) (disch := first | omega | simp) []); (repeat' first
          | (with_reducible refine hK _ (by simp) ?_)
          | ((with_reducible refine gdT (fun h => ?_) (fun h => ?_)) <;> (simp (maxSteps := 10000000) (disch := first | omega | simp) [h]; (try simp at h); (try (exfalso; omega))))
          | ((with_reducible refine gdF (fun h => ?_) (fun h => ?_)) <;> (simp (maxSteps := 10000000) (disch := first | omega | simp) [h]; (try simp at h); (try (exfalso; omega))))
          | ((with_reducible refine gdU ?_); (try simp (maxSteps := 10000000) (disch := first | omega | simp) []))) <;> clear hK K)
      | ((with_reducible refine awCond fun A B hA hB => ?_); simp (maxSteps := 10000000) (disch := first | omega | simp) []; (first | refine ⟨fun h => hA ?_, fun h => hB ?_⟩ | refine hA ?_ | refine hB ?_) <;> (clear hA hB A B; (try (exfalso; omega))))
  refine awLoop (fun k Γ => ∃ i, i ≤ l.length ∧ k = l.length - i ∧ n ∉ l.take i ∧ Γ = ofA [(5, .p (I i)), (0, .p (Li l)), (1, .p (I n))]) _ _ (Wk.ofA ?_) ⟨0, by simp, rfl, by simp, rfl⟩ ?_
  · simp
  rintro _ _ ⟨i, hi, rfl, hni, rfl⟩
  repeat' first
      | (with_reducible first | refine thN ?_ | refine thR ?_ | refine thE ?_ | refine inN ?_ | refine inR ?_ | refine inH ?_ | refine fF ?_ | refine fS ?_ | refine fR ?_ | refine fQ ?_ | refine fC ?_ | refine fB ?_ | refine fL ?_ | refine fE ?_ | refine fT ?_ | refine awBlock ?_ | refine awExit ?_ | refine awRet ?_ | refine awSkip ?_ | refine inM (by decide) ?_)
      | ((with_reducible refine awReg fun K hok hK => ?_); clear hok; (try simp (maxSteps := 10000000) (disch := first | omega | simp) []); (repeat' first
          | (with_reducible refine hK _ (by simp) ?_)
          | ((with_reducible refine gdT (fun h => ?_) (fun h => ?_)) <;> (simp (maxSteps := 10000000) (disch := first | omega | simp) [h]; (try simp at h); (try (exfalso; omega))))
          | ((with_reducible refine gdF (fun h => ?_) (fun h => ?_)) <;> (simp (maxSteps := 10000000) (disch := first | omega | simp) [h]; (try simp at h); (try (exfalso; omega))))
          | ((with_reducible refine gdU ?_); (try simp (maxSteps := 10000000) (disch := first | omega | simp) []))) <;> clear hK K)
      | ((with_reducible refine awCond fun A B hA hB => ?_); simp (maxSteps := 10000000) (disch := first | omega | simp) []; (first | refine ⟨fun h => hA ?_, fun h => hB ?_⟩ | refine hA ?_ | refine hB ?_) <;> (clear hA hB A B; (try (exfalso; omega))))
  · have e : l.contains n = true := by rw [List.contains_iff_mem]; exact h ▸ List.getElem_mem (by assumption)
    (refine aEnR (aRes [] fun K hK => ?_); simp (maxSteps := 10000000) (disch := first | omega | simp) [e]; refine hK _ ?_ (by simp); simp (maxSteps := 10000000) (disch := first | omega | simp) [e])
    simpa using e
  · refine ⟨_, _, ?_, Wk.ofA ?_, i + 1, by omega, rfl, not_take (List.getElem?_eq_getElem (by assumption)) hni h, rfl⟩
    · omega
    · simp
  · have e : l.contains n = false := by
      rw [List.take_of_length_le h] at hni; simpa using hni
    (refine aEnR (aRes [] fun K hK => ?_); simp (maxSteps := 10000000) (disch := first | omega | simp) [e]; refine hK _ ?_ (by simp); simp (maxSteps := 10000000) (disch := first | omega | simp) [e])
    simpa using e
end
end Go.Am
end
section
set_option maxRecDepth 100000
set_option maxHeartbeats 0
namespace Go.Am
open Go
noncomputable section
end
end Go.Am
end
