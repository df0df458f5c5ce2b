/- Part of the proof of a law of moving. -/
import Derived.Test.YtmnheledelnbfaaGreatQData
set_option linter.all false
section
set_option maxRecDepth 100000
namespace Go.Am
open Go
noncomputable section
def c35 : SC := (.seq (.reg [⟨some 2, .box 36 (.tmp 0), none, []⟩,
  ⟨some 4, .alloc 84, none, []⟩,
  ⟨some 5, .assign (.const (.bool false)), none, []⟩] [1, 2, 4]) (.seq (.reg [⟨some 6, .assign (.const (.int .i64 0)), none, []⟩] [1, 2, 4, 6, 13]) (.seq (.block 0 (.seq (.loop (.seq (.reg [⟨some 7, .move (.tmp 6), none, []⟩,
  ⟨some 8, .fieldAddr 36 (.tmp 2) 0, none, []⟩,
  ⟨some 9, .load 31 (.tmp 8), none, []⟩,
  ⟨some 10, .call { callee := .builtin .len, args := #[.tmp 9], argTypes := #[31] }, none, []⟩,
  ⟨some 11, .binOp .lss 3 (.tmp 7) (.tmp 10) 3, none, []⟩] [1, 2, 4, 6, 11, 13]) (.seq (.cond (.tmp 11) .skip (.exit 0)) (.seq (.block 1 (.seq (.reg [⟨some 14, .fieldAddr 36 (.tmp 2) 0, none, []⟩,
  ⟨some 15, .load 31 (.tmp 14), none, []⟩,
  ⟨some 16, .move (.tmp 6), none, []⟩,
  ⟨some 17, .indexAddr 31 (.tmp 15) (.tmp 16), none, []⟩,
  ⟨some 18, .fieldAddr 84 (.tmp 17) 0, none, []⟩,
  ⟨some 19, .load 3 (.tmp 18), none, []⟩,
  ⟨some 20, .move (.tmp 1), none, []⟩,
  ⟨some 21, .binOp .eql 3 (.tmp 19) (.tmp 20) 3, none, []⟩] [1, 2, 4, 6, 13, 21]) (.seq (.cond (.tmp 21) (.seq (.reg [⟨some 22, .fieldAddr 36 (.tmp 2) 0, none, []⟩,
  ⟨some 23, .load 31 (.tmp 22), none, []⟩,
  ⟨some 24, .move (.tmp 6), none, []⟩,
  ⟨some 25, .indexAddr 31 (.tmp 23) (.tmp 24), none, []⟩,
  ⟨some 26, .load 84 (.tmp 25), none, []⟩,
  ⟨none, .store 84 (.tmp 4) (.tmp 26), none, []⟩,
  ⟨some 5, .assign (.const (.bool true)), none, []⟩] [4, 5]) .ret) .skip) .skip))) (.seq (.reg [⟨some 12, .move (.tmp 6), none, []⟩,
  ⟨some 13, .binOp .add 3 (.tmp 12) (.const (.int .i64 1)) 3, none, []⟩,
  ⟨some 6, .assign (.tmp 13), none, []⟩] [1, 2, 4, 6, 13]) .skip))))) .skip)) (.seq (.reg [⟨some 27, .build 84 #[], none, []⟩,
  ⟨none, .store 84 (.tmp 4) (.tmp 27), none, []⟩,
  ⟨some 5, .assign (.const (.bool false)), none, []⟩] [4, 5]) .ret))))
theorem s35 : TextK Proofs.Tryz.prog 0 35 28 [ResultVar.cell 4 84, ResultVar.tmp 5] c35 := .mk' Proofs.Tryz.f35 _ (by kernel_rfl) rfl rfl rfl (by kernel_rfl) rfl (by kernel_rfl)
theorem broker_ok (m : Image) (id : Int) : ACall pg 35 [encM m, I id] (.tup [encB ((m.broker id).getD zB), B (m.broker id).isSome]) := by
  refine s35.call mo (by simp) fun hxs => ?_
  have hlen := okLen (l := m.brokers.map encB) (by simpa using hxs.1.1)
  simp at hlen
  clear hxs
  unfold c35
  repeat' first | (with_reducible first | refine thN ?_ | refine thR ?_ | refine thE ?_ | refine inN ?_ | refine inR ?_ | refine inH ?_ | refine fS ?_ | refine fR ?_ | refine fQ ?_ | refine fE ?_ | refine fT ?_ | refine awBlock ?_ | refine awExit ?_ | refine awRet ?_ | refine awSkip ?_) | ((with_reducible refine awReg fun K hok hK => ?_); clear hok; (try simp (maxSteps := 10000000) (disch := first | omega | simp) []); (repeat' first | (with_reducible refine hK _ (by simp) ?_)) <;> clear hK K) | ((with_reducible refine awCond fun A B hA hB => ?_); simp (maxSteps := 10000000) (disch := first | omega | simp) []; (first | refine ⟨fun h => hA ?_, fun h => hB ?_⟩ | refine hA ?_ | refine hB ?_) <;> (clear hA hB A B; (try (exfalso; omega))))
  refine awLoop (fun k Γ => ∃ i, i ≤ m.brokers.length ∧ k = m.brokers.length - i ∧ (∀ b ∈ m.brokers.take i, (b.id == id) = false) ∧ Γ = ofA [(6, .p (I i)), (4, .p (.own [I 0, I 0, St ⟨#[]⟩, B false, B false])), (2, .p (.own (encM m).cells)), (1, .p (I id))]) _ _ (Wk.ofA ?_) ⟨0, by simp, rfl, by simp, rfl⟩ ?_
  · simp
  rintro _ _ ⟨i, hi, rfl, hni, rfl⟩
  repeat' first | (with_reducible first | refine thN ?_ | refine thR ?_ | refine thE ?_ | refine inN ?_ | refine inR ?_ | refine inH ?_ | refine fS ?_ | refine fR ?_ | refine fQ ?_ | refine fE ?_ | refine fT ?_ | refine awBlock ?_ | refine awExit ?_ | refine awRet ?_ | refine awSkip ?_) | ((with_reducible refine awReg fun K hok hK => ?_); clear hok; (try simp (maxSteps := 10000000) (disch := first | omega | simp) []); (repeat' first | (with_reducible refine hK _ (by simp) ?_)) <;> clear hK K) | ((with_reducible refine awCond fun A B hA hB => ?_); simp (maxSteps := 10000000) (disch := first | omega | simp) []; (first | refine ⟨fun h => hA ?_, fun h => hB ?_⟩ | refine hA ?_ | refine hB ?_) <;> (clear hA hB A B; (try (exfalso; omega))))
  · rw [show m.broker id = some m.brokers[i] from find_at (by assumption) hni (by simpa using ‹_›)]
    (refine aEnR (aRes [] fun K hK => ?_); simp (maxSteps := 10000000) (disch := first | omega | simp) []; refine hK _ ?_ (by simp); simp (maxSteps := 10000000) (disch := first | omega | simp) [])
  · refine ⟨_, _, ?_, Wk.ofA ?_, i + 1, by omega, rfl, all_take (by assumption) hni (by simpa using ‹_›), rfl⟩
    · omega
    · simp
  · rw [show m.broker id = none from find_no (by assumption) hni]
    (refine aEnR (aRes [] fun K hK => ?_); simp (maxSteps := 10000000) (disch := first | omega | simp) [zB]; refine hK _ ?_ (by simp); simp (maxSteps := 10000000) (disch := first | omega | simp) [zB])
end
end Go.Am
end
section
set_option maxRecDepth 100000
namespace Go.Am
open Go
noncomputable section
def c34 : SC := (.seq (.reg [⟨some 2, .box 36 (.tmp 0), none, []⟩,
  ⟨some 4, .alloc 50, none, []⟩,
  ⟨some 5, .assign (.const (.bool false)), none, []⟩] [1, 2, 4]) (.seq (.reg [⟨some 6, .assign (.const (.int .i64 0)), none, []⟩] [1, 2, 4, 6, 13]) (.seq (.block 0 (.seq (.loop (.seq (.reg [⟨some 7, .move (.tmp 6), none, []⟩,
  ⟨some 8, .fieldAddr 36 (.tmp 2) 1, none, []⟩,
  ⟨some 9, .load 32 (.tmp 8), none, []⟩,
  ⟨some 10, .call { callee := .builtin .len, args := #[.tmp 9], argTypes := #[32] }, none, []⟩,
  ⟨some 11, .binOp .lss 3 (.tmp 7) (.tmp 10) 3, none, []⟩] [1, 2, 4, 6, 11, 13]) (.seq (.cond (.tmp 11) .skip (.exit 0)) (.seq (.block 1 (.seq (.reg [⟨some 14, .fieldAddr 36 (.tmp 2) 1, none, []⟩,
  ⟨some 15, .load 32 (.tmp 14), none, []⟩,
  ⟨some 16, .move (.tmp 6), none, []⟩,
  ⟨some 17, .indexAddr 32 (.tmp 15) (.tmp 16), none, []⟩,
  ⟨some 18, .fieldAddr 50 (.tmp 17) 0, none, []⟩,
  ⟨some 19, .load 3 (.tmp 18), none, []⟩,
  ⟨some 20, .move (.tmp 1), none, []⟩,
  ⟨some 21, .binOp .eql 3 (.tmp 19) (.tmp 20) 3, none, []⟩] [1, 2, 4, 6, 13, 21]) (.seq (.cond (.tmp 21) (.seq (.reg [⟨some 22, .fieldAddr 36 (.tmp 2) 1, none, []⟩,
  ⟨some 23, .load 32 (.tmp 22), none, []⟩,
  ⟨some 24, .move (.tmp 6), none, []⟩,
  ⟨some 25, .indexAddr 32 (.tmp 23) (.tmp 24), none, []⟩,
  ⟨some 26, .load 50 (.tmp 25), none, []⟩,
  ⟨none, .store 50 (.tmp 4) (.tmp 26), none, []⟩,
  ⟨some 5, .assign (.const (.bool true)), none, []⟩] [4, 5]) .ret) .skip) .skip))) (.seq (.reg [⟨some 12, .move (.tmp 6), none, []⟩,
  ⟨some 13, .binOp .add 3 (.tmp 12) (.const (.int .i64 1)) 3, none, []⟩,
  ⟨some 6, .assign (.tmp 13), none, []⟩] [1, 2, 4, 6, 13]) .skip))))) .skip)) (.seq (.reg [⟨some 27, .build 50 #[], none, []⟩,
  ⟨none, .store 50 (.tmp 4) (.tmp 27), none, []⟩,
  ⟨some 5, .assign (.const (.bool false)), none, []⟩] [4, 5]) .ret))))
theorem s34 : TextK Proofs.Tryz.prog 0 34 28 [ResultVar.cell 4 50, ResultVar.tmp 5] c34 := .mk' Proofs.Tryz.f34 _ (by kernel_rfl) rfl rfl rfl (by kernel_rfl) rfl (by kernel_rfl)
def c70 : SC := (.seq (.reg [⟨some 2, .box 36 (.tmp 0), none, []⟩,
  ⟨some 4, .alloc 50, none, []⟩,
  ⟨some 5, .assign (.const (.bool false)), none, []⟩] [1, 2, 4]) (.seq (.reg [⟨some 6, .assign (.const (.int .i64 0)), none, []⟩] [1, 2, 4, 6, 13]) (.seq (.block 0 (.seq (.loop (.seq (.reg [⟨some 7, .move (.tmp 6), none, []⟩,
  ⟨some 8, .fieldAddr 36 (.tmp 2) 1, none, []⟩,
  ⟨some 9, .load 32 (.tmp 8), none, []⟩,
  ⟨some 10, .call { callee := .builtin .len, args := #[.tmp 9], argTypes := #[32] }, none, []⟩,
  ⟨some 11, .binOp .lss 3 (.tmp 7) (.tmp 10) 3, none, []⟩] [1, 2, 4, 6, 11, 13]) (.seq (.cond (.tmp 11) .skip (.exit 0)) (.seq (.block 1 (.seq (.reg [⟨some 14, .fieldAddr 36 (.tmp 2) 1, none, []⟩,
  ⟨some 15, .load 32 (.tmp 14), none, []⟩,
  ⟨some 16, .move (.tmp 6), none, []⟩,
  ⟨some 17, .indexAddr 32 (.tmp 15) (.tmp 16), none, []⟩,
  ⟨some 18, .fieldAddr 50 (.tmp 17) 1, none, []⟩,
  ⟨some 19, .load 9 (.tmp 18), none, []⟩,
  ⟨some 20, .move (.tmp 1), none, []⟩,
  ⟨some 21, .binOp .eql 9 (.tmp 19) (.tmp 20) 9, none, []⟩] [1, 2, 4, 6, 13, 21]) (.seq (.cond (.tmp 21) (.seq (.reg [⟨some 22, .fieldAddr 36 (.tmp 2) 1, none, []⟩,
  ⟨some 23, .load 32 (.tmp 22), none, []⟩,
  ⟨some 24, .move (.tmp 6), none, []⟩,
  ⟨some 25, .indexAddr 32 (.tmp 23) (.tmp 24), none, []⟩,
  ⟨some 26, .load 50 (.tmp 25), none, []⟩,
  ⟨none, .store 50 (.tmp 4) (.tmp 26), none, []⟩,
  ⟨some 5, .assign (.const (.bool true)), none, []⟩] [4, 5]) .ret) .skip) .skip))) (.seq (.reg [⟨some 12, .move (.tmp 6), none, []⟩,
  ⟨some 13, .binOp .add 3 (.tmp 12) (.const (.int .i64 1)) 3, none, []⟩,
  ⟨some 6, .assign (.tmp 13), none, []⟩] [1, 2, 4, 6, 13]) .skip))))) .skip)) (.seq (.reg [⟨some 27, .build 50 #[], none, []⟩,
  ⟨none, .store 50 (.tmp 4) (.tmp 27), none, []⟩,
  ⟨some 5, .assign (.const (.bool false)), none, []⟩] [4, 5]) .ret))))
theorem s70 : TextK Proofs.Tryz.prog 0 70 28 [ResultVar.cell 4 50, ResultVar.tmp 5] c70 := .mk' Proofs.Tryz.f70 _ (by kernel_rfl) rfl rfl rfl (by kernel_rfl) rfl (by kernel_rfl)
theorem topic_ok (m : Image) (id : Int) : ACall pg 34 [encM m, I id] (.tup [encT ((m.topic id).getD zT), B (m.topic id).isSome]) := by
  refine s34.call mo (by simp) fun hxs => ?_
  have hlen := okLen (l := m.topics.map encT) (by simpa using hxs.1.2.1)
  simp at hlen
  clear hxs
  unfold c34
  repeat' first | (with_reducible first | refine thN ?_ | refine thR ?_ | refine thE ?_ | refine inN ?_ | refine inR ?_ | refine inH ?_ | refine fS ?_ | refine fR ?_ | refine fQ ?_ | refine fE ?_ | refine fT ?_ | refine awBlock ?_ | refine awExit ?_ | refine awRet ?_ | refine awSkip ?_) | ((with_reducible refine awReg fun K hok hK => ?_); clear hok; (try simp (maxSteps := 10000000) (disch := first | omega | simp) []); (repeat' first | (with_reducible refine hK _ (by simp) ?_)) <;> clear hK K) | ((with_reducible refine awCond fun A B hA hB => ?_); simp (maxSteps := 10000000) (disch := first | omega | simp) []; (first | refine ⟨fun h => hA ?_, fun h => hB ?_⟩ | refine hA ?_ | refine hB ?_) <;> (clear hA hB A B; (try (exfalso; omega))))
  refine awLoop (fun k Γ => ∃ i, i ≤ m.topics.length ∧ k = m.topics.length - i ∧ (∀ t ∈ m.topics.take i, (t.id == id) = false) ∧ Γ = ofA [(6, .p (I i)), (4, .p (.own [I 0, St ⟨#[]⟩, .uq []])), (2, .p (.own (encM m).cells)), (1, .p (I id))]) _ _ (Wk.ofA ?_) ⟨0, by simp, rfl, by simp, rfl⟩ ?_
  · simp
  rintro _ _ ⟨i, hi, rfl, hni, rfl⟩
  repeat' first | (with_reducible first | refine thN ?_ | refine thR ?_ | refine thE ?_ | refine inN ?_ | refine inR ?_ | refine inH ?_ | refine fS ?_ | refine fR ?_ | refine fQ ?_ | refine fE ?_ | refine fT ?_ | refine awBlock ?_ | refine awExit ?_ | refine awRet ?_ | refine awSkip ?_) | ((with_reducible refine awReg fun K hok hK => ?_); clear hok; (try simp (maxSteps := 10000000) (disch := first | omega | simp) []); (repeat' first | (with_reducible refine hK _ (by simp) ?_)) <;> clear hK K) | ((with_reducible refine awCond fun A B hA hB => ?_); simp (maxSteps := 10000000) (disch := first | omega | simp) []; (first | refine ⟨fun h => hA ?_, fun h => hB ?_⟩ | refine hA ?_ | refine hB ?_) <;> (clear hA hB A B; (try (exfalso; omega))))
  · rw [show m.topic id = some m.topics[i] from find_at (by assumption) hni (by simpa using ‹_›)]
    (refine aEnR (aRes [] fun K hK => ?_); simp (maxSteps := 10000000) (disch := first | omega | simp) []; refine hK _ ?_ (by simp); simp (maxSteps := 10000000) (disch := first | omega | simp) [])
  · refine ⟨_, _, ?_, Wk.ofA ?_, i + 1, by omega, rfl, all_take (by assumption) hni (by simpa using ‹_›), rfl⟩
    · omega
    · simp
  · rw [show m.topic id = none from find_no (by assumption) hni]
    (refine aEnR (aRes [] fun K hK => ?_); simp (maxSteps := 10000000) (disch := first | omega | simp) [zT]; refine hK _ ?_ (by simp); simp (maxSteps := 10000000) (disch := first | omega | simp) [zT])
theorem named_ok (m : Image) (s : ByteArray) : ACall pg 70 [encM m, St s] (.tup [encT ((m.named s).getD zT), B (m.named s).isSome]) := by
  refine s70.call mo (by simp) fun hxs => ?_
  have hlen := okLen (l := m.topics.map encT) (by simpa using hxs.1.2.1)
  simp at hlen
  clear hxs
  unfold c70
  repeat' first | (with_reducible first | refine thN ?_ | refine thR ?_ | refine thE ?_ | refine inN ?_ | refine inR ?_ | refine inH ?_ | refine fS ?_ | refine fR ?_ | refine fQ ?_ | refine fE ?_ | refine fT ?_ | refine awBlock ?_ | refine awExit ?_ | refine awRet ?_ | refine awSkip ?_) | ((with_reducible refine awReg fun K hok hK => ?_); clear hok; (try simp (maxSteps := 10000000) (disch := first | omega | simp) []); (repeat' first | (with_reducible refine hK _ (by simp) ?_)) <;> clear hK K) | ((with_reducible refine awCond fun A B hA hB => ?_); simp (maxSteps := 10000000) (disch := first | omega | simp) []; (first | refine ⟨fun h => hA ?_, fun h => hB ?_⟩ | refine hA ?_ | refine hB ?_) <;> (clear hA hB A B; (try (exfalso; omega))))
  refine awLoop (fun k Γ => ∃ i, i ≤ m.topics.length ∧ k = m.topics.length - i ∧ (∀ t ∈ m.topics.take i, (t.name.toList == s.toList) = false) ∧ Γ = ofA [(6, .p (I i)), (4, .p (.own [I 0, St ⟨#[]⟩, .uq []])), (2, .p (.own (encM m).cells)), (1, .p (St s))]) _ _ (Wk.ofA ?_) ⟨0, by simp, rfl, by simp, rfl⟩ ?_
  · simp
  rintro _ _ ⟨i, hi, rfl, hni, rfl⟩
  repeat' first | (with_reducible first | refine thN ?_ | refine thR ?_ | refine thE ?_ | refine inN ?_ | refine inR ?_ | refine inH ?_ | refine fS ?_ | refine fR ?_ | refine fQ ?_ | refine fE ?_ | refine fT ?_ | refine awBlock ?_ | refine awExit ?_ | refine awRet ?_ | refine awSkip ?_) | ((with_reducible refine awReg fun K hok hK => ?_); clear hok; (try simp (maxSteps := 10000000) (disch := first | omega | simp) []); (repeat' first | (with_reducible refine hK _ (by simp) ?_)) <;> clear hK K) | ((with_reducible refine awCond fun A B hA hB => ?_); simp (maxSteps := 10000000) (disch := first | omega | simp) []; (first | refine ⟨fun h => hA ?_, fun h => hB ?_⟩ | refine hA ?_ | refine hB ?_) <;> (clear hA hB A B; (try (exfalso; omega))))
  · rw [show m.named s = some m.topics[i] from find_at (by assumption) hni (by simpa using ‹_›)]
    (refine aEnR (aRes [] fun K hK => ?_); simp (maxSteps := 10000000) (disch := first | omega | simp) []; refine hK _ ?_ (by simp); simp (maxSteps := 10000000) (disch := first | omega | simp) [])
  · refine ⟨_, _, ?_, Wk.ofA ?_, i + 1, by omega, rfl, all_take (by assumption) hni (by simpa using ‹_›), rfl⟩
    · omega
    · simp
  · rw [show m.named s = none from find_no (by assumption) hni]
    (refine aEnR (aRes [] fun K hK => ?_); simp (maxSteps := 10000000) (disch := first | omega | simp) [zT]; refine hK _ ?_ (by simp); simp (maxSteps := 10000000) (disch := first | omega | simp) [zT])
end
end Go.Am
end
section
set_option maxRecDepth 100000
set_option maxHeartbeats 0
namespace Go.Am
open Go
noncomputable section
def c71 : SC := (.seq (.reg [⟨some 3, .box 36 (.tmp 0), none, []⟩,
  ⟨some 6, .assign (.const (.string ⟨#[]⟩)), none, []⟩,
  ⟨some 7, .assign (.const (.bool false)), none, []⟩] [1, 2, 3, 8, 15, 34, 35, 36, 37, 38, 39]) (.seq (.reg [⟨some 8, .assign (.const (.int .i64 0)), none, []⟩] [1, 2, 3, 8, 15, 34, 35, 36, 37, 38, 39]) (.seq (.block 0 (.seq (.loop (.seq (.reg [⟨some 9, .move (.tmp 8), none, []⟩,
  ⟨some 10, .fieldAddr 36 (.tmp 3) 2, none, []⟩,
  ⟨some 11, .load 33 (.tmp 10), none, []⟩,
  ⟨some 12, .call { callee := .builtin .len, args := #[.tmp 11], argTypes := #[33] }, none, []⟩,
  ⟨some 13, .binOp .lss 3 (.tmp 9) (.tmp 12) 3, none, []⟩] [1, 2, 3, 8, 13, 15, 34, 35, 36, 37, 38, 39]) (.seq (.cond (.tmp 13) .skip (.exit 0)) (.seq (.block 1 (.seq (.reg [⟨some 16, .fieldAddr 36 (.tmp 3) 2, none, []⟩,
  ⟨some 17, .load 33 (.tmp 16), none, []⟩,
  ⟨some 18, .move (.tmp 8), none, []⟩,
  ⟨some 19, .indexAddr 33 (.tmp 17) (.tmp 18), none, []⟩,
  ⟨some 20, .fieldAddr 115 (.tmp 19) 0, none, []⟩,
  ⟨some 21, .load 3 (.tmp 20), none, []⟩,
  ⟨some 22, .move (.tmp 1), none, []⟩,
  ⟨some 23, .binOp .eql 3 (.tmp 21) (.tmp 22) 3, none, []⟩,
  ⟨some 24, .move (.tmp 23), none, []⟩,
  ⟨some 25, .fieldAddr 36 (.tmp 3) 2, (some (24, true)), []⟩,
  ⟨some 26, .load 33 (.tmp 25), (some (24, true)), []⟩,
  ⟨some 27, .move (.tmp 8), (some (24, true)), []⟩,
  ⟨some 28, .indexAddr 33 (.tmp 26) (.tmp 27), (some (24, true)), []⟩,
  ⟨some 29, .fieldAddr 115 (.tmp 28) 1, (some (24, true)), []⟩,
  ⟨some 30, .load 9 (.tmp 29), (some (24, true)), []⟩,
  ⟨some 31, .move (.tmp 2), (some (24, true)), []⟩,
  ⟨some 32, .binOp .eql 9 (.tmp 30) (.tmp 31) 9, (some (24, true)), []⟩,
  ⟨some 33, .pick (.tmp 24) (.tmp 32) (.const (.bool false)), none, []⟩] [1, 2, 3, 8, 15, 23, 24, 32, 33, 34, 35, 36, 37, 38, 39]) (.seq (.cond (.tmp 33) (.seq (.reg [⟨some 34, .fieldAddr 36 (.tmp 3) 2, none, []⟩,
  ⟨some 35, .load 33 (.tmp 34), none, []⟩,
  ⟨some 36, .move (.tmp 8), none, []⟩,
  ⟨some 37, .indexAddr 33 (.tmp 35) (.tmp 36), none, []⟩,
  ⟨some 38, .fieldAddr 115 (.tmp 37) 2, none, []⟩,
  ⟨some 39, .load 9 (.tmp 38), none, []⟩,
  ⟨some 6, .assign (.tmp 39), none, []⟩,
  ⟨some 7, .assign (.const (.bool true)), none, []⟩] [3, 6, 7, 8, 15, 34, 35, 36, 37, 38, 39]) .ret) .skip) .skip))) (.seq (.reg [⟨some 14, .move (.tmp 8), none, []⟩,
  ⟨some 15, .binOp .add 3 (.tmp 14) (.const (.int .i64 1)) 3, none, []⟩,
  ⟨some 8, .assign (.tmp 15), none, []⟩] [1, 2, 3, 8, 15, 34, 35, 36, 37, 38, 39]) .skip))))) .skip)) (.seq (.reg [⟨some 6, .assign (.const (.string ⟨#[]⟩)), none, []⟩,
  ⟨some 7, .assign (.const (.bool false)), none, []⟩] [3, 6, 7, 8, 15, 34, 35, 36, 37, 38, 39]) .ret))))
theorem s71 : TextK Proofs.Tryz.prog 0 71 40 [ResultVar.tmp 6, ResultVar.tmp 7] c71 := .mk' Proofs.Tryz.f71 _ (by kernel_rfl) rfl rfl rfl (by kernel_rfl) rfl (by kernel_rfl)
def c72 : SC := (.seq (.reg [⟨some 3, .box 36 (.tmp 0), none, []⟩,
  ⟨some 6, .assign (.const (.int .i64 0)), none, []⟩,
  ⟨some 7, .assign (.const (.bool false)), none, []⟩] [1, 2, 3, 8, 15, 34, 35, 36, 37, 38, 39]) (.seq (.reg [⟨some 8, .assign (.const (.int .i64 0)), none, []⟩] [1, 2, 3, 8, 15, 34, 35, 36, 37, 38, 39]) (.seq (.block 0 (.seq (.loop (.seq (.reg [⟨some 9, .move (.tmp 8), none, []⟩,
  ⟨some 10, .fieldAddr 36 (.tmp 3) 3, none, []⟩,
  ⟨some 11, .load 34 (.tmp 10), none, []⟩,
  ⟨some 12, .call { callee := .builtin .len, args := #[.tmp 11], argTypes := #[34] }, none, []⟩,
  ⟨some 13, .binOp .lss 3 (.tmp 9) (.tmp 12) 3, none, []⟩] [1, 2, 3, 8, 13, 15, 34, 35, 36, 37, 38, 39]) (.seq (.cond (.tmp 13) .skip (.exit 0)) (.seq (.block 1 (.seq (.reg [⟨some 16, .fieldAddr 36 (.tmp 3) 3, none, []⟩,
  ⟨some 17, .load 34 (.tmp 16), none, []⟩,
  ⟨some 18, .move (.tmp 8), none, []⟩,
  ⟨some 19, .indexAddr 34 (.tmp 17) (.tmp 18), none, []⟩,
  ⟨some 20, .fieldAddr 121 (.tmp 19) 0, none, []⟩,
  ⟨some 21, .load 3 (.tmp 20), none, []⟩,
  ⟨some 22, .move (.tmp 1), none, []⟩,
  ⟨some 23, .binOp .eql 3 (.tmp 21) (.tmp 22) 3, none, []⟩,
  ⟨some 24, .move (.tmp 23), none, []⟩,
  ⟨some 25, .fieldAddr 36 (.tmp 3) 3, (some (24, true)), []⟩,
  ⟨some 26, .load 34 (.tmp 25), (some (24, true)), []⟩,
  ⟨some 27, .move (.tmp 8), (some (24, true)), []⟩,
  ⟨some 28, .indexAddr 34 (.tmp 26) (.tmp 27), (some (24, true)), []⟩,
  ⟨some 29, .fieldAddr 121 (.tmp 28) 1, (some (24, true)), []⟩,
  ⟨some 30, .load 3 (.tmp 29), (some (24, true)), []⟩,
  ⟨some 31, .move (.tmp 2), (some (24, true)), []⟩,
  ⟨some 32, .binOp .eql 3 (.tmp 30) (.tmp 31) 3, (some (24, true)), []⟩,
  ⟨some 33, .pick (.tmp 24) (.tmp 32) (.const (.bool false)), none, []⟩] [1, 2, 3, 8, 15, 23, 24, 32, 33, 34, 35, 36, 37, 38, 39]) (.seq (.cond (.tmp 33) (.seq (.reg [⟨some 34, .fieldAddr 36 (.tmp 3) 3, none, []⟩,
  ⟨some 35, .load 34 (.tmp 34), none, []⟩,
  ⟨some 36, .move (.tmp 8), none, []⟩,
  ⟨some 37, .indexAddr 34 (.tmp 35) (.tmp 36), none, []⟩,
  ⟨some 38, .fieldAddr 121 (.tmp 37) 2, none, []⟩,
  ⟨some 39, .load 3 (.tmp 38), none, []⟩,
  ⟨some 6, .assign (.tmp 39), none, []⟩,
  ⟨some 7, .assign (.const (.bool true)), none, []⟩] [3, 6, 7, 8, 15, 34, 35, 36, 37, 38, 39]) .ret) .skip) .skip))) (.seq (.reg [⟨some 14, .move (.tmp 8), none, []⟩,
  ⟨some 15, .binOp .add 3 (.tmp 14) (.const (.int .i64 1)) 3, none, []⟩,
  ⟨some 8, .assign (.tmp 15), none, []⟩] [1, 2, 3, 8, 15, 34, 35, 36, 37, 38, 39]) .skip))))) .skip)) (.seq (.reg [⟨some 6, .assign (.const (.int .i64 0)), none, []⟩,
  ⟨some 7, .assign (.const (.bool false)), none, []⟩] [3, 6, 7, 8, 15, 34, 35, 36, 37, 38, 39]) .ret))))
theorem s72 : TextK Proofs.Tryz.prog 0 72 40 [ResultVar.tmp 6, ResultVar.tmp 7] c72 := .mk' Proofs.Tryz.f72 _ (by kernel_rfl) rfl rfl rfl (by kernel_rfl) rfl (by kernel_rfl)
theorem config_ok (m : Image) (t : Int) (k : ByteArray) : ACall pg 71 [encM m, I t, St k] (.tup [St (((m.config t k).map Config.value).getD ⟨#[]⟩), B (m.config t k).isSome]) := by
  refine s71.call mo (by simp) fun hxs => ?_
  have hlen := okLen (l := m.configs.map encC) (by simpa using hxs.1.2.2.1)
  simp at hlen
  clear hxs
  unfold c71
  repeat' first | (with_reducible first | refine thN ?_ | refine thR ?_ | refine thE ?_ | refine inN ?_ | refine inR ?_ | refine inH ?_ | refine fS ?_ | refine fR ?_ | refine fQ ?_ | refine fE ?_ | refine fT ?_ | refine awBlock ?_ | refine awExit ?_ | refine awRet ?_ | refine awSkip ?_) | ((with_reducible refine awReg fun K hok hK => ?_); clear hok; (try simp (maxSteps := 10000000) (disch := first | omega | simp) []); (repeat' first | (with_reducible refine hK _ (by simp) ?_) | ((with_reducible refine gdT (fun h => ?_) (fun h => ?_)) <;> (simp (maxSteps := 10000000) (disch := first | omega | simp) [h]; (try simp at h); (try (exfalso; omega))))) <;> clear hK K) | ((with_reducible refine awCond fun A B hA hB => ?_); simp (maxSteps := 10000000) (disch := first | omega | simp) []; (first | refine ⟨fun h => hA ?_, fun h => hB ?_⟩ | refine hA ?_ | refine hB ?_) <;> (clear hA hB A B; (try (exfalso; omega))))
  refine awLoop (fun n Γ => ∃ i, i ≤ m.configs.length ∧ n = m.configs.length - i ∧ (∀ c ∈ m.configs.take i, (c.topic == t && c.key.toList == k.toList) = false) ∧ Γ = ofA [(8, .p (I i)), (3, .p (.own (encM m).cells)), (1, .p (I t)), (2, .p (St k))]) _ _ (Wk.ofA ?_) ⟨0, by simp, rfl, by simp, rfl⟩ ?_
  · simp
  rintro _ _ ⟨i, hi, rfl, hni, rfl⟩
  repeat' first | (with_reducible first | refine thN ?_ | refine thR ?_ | refine thE ?_ | refine inN ?_ | refine inR ?_ | refine inH ?_ | refine fS ?_ | refine fR ?_ | refine fQ ?_ | refine fE ?_ | refine fT ?_ | refine awBlock ?_ | refine awExit ?_ | refine awRet ?_ | refine awSkip ?_) | ((with_reducible refine awReg fun K hok hK => ?_); clear hok; (try simp (maxSteps := 10000000) (disch := first | omega | simp) []); (repeat' first | (with_reducible refine hK _ (by simp) ?_) | ((with_reducible refine gdT (fun h => ?_) (fun h => ?_)) <;> (simp (maxSteps := 10000000) (disch := first | omega | simp) [h]; (try simp at h); (try (exfalso; omega))))) <;> clear hK K) | ((with_reducible refine awCond fun A B hA hB => ?_); simp (maxSteps := 10000000) (disch := first | omega | simp) []; (first | refine ⟨fun h => hA ?_, fun h => hB ?_⟩ | refine hA ?_ | refine hB ?_) <;> (clear hA hB A B; (try (exfalso; omega))))
  · rw [show m.config t k = some m.configs[i] from find_at (by assumption) hni (by simp_all)]
    (refine aEnR (aRes [] fun K hK => ?_); simp (maxSteps := 10000000) (disch := first | omega | simp) []; refine hK _ ?_ (by simp); simp (maxSteps := 10000000) (disch := first | omega | simp) [])
  · refine ⟨_, _, ?_, Wk.ofA ?_, i + 1, by omega, rfl, all_take (by assumption) hni (by simp_all), rfl⟩
    · omega
    · simp
  · refine ⟨_, _, ?_, Wk.ofA ?_, i + 1, by omega, rfl, all_take (by assumption) hni (by simp_all), rfl⟩
    · omega
    · simp
  · rw [show m.config t k = none from find_no (by assumption) hni]
    (refine aEnR (aRes [] fun K hK => ?_); simp (maxSteps := 10000000) (disch := first | omega | simp) []; refine hK _ ?_ (by simp); simp (maxSteps := 10000000) (disch := first | omega | simp) [])
theorem answered_ok (m : Image) (c s : Int) : ACall pg 72 [encM m, I c, I s] (.tup [I (((m.answered c s).map Done.code).getD 0), B (m.answered c s).isSome]) := by
  refine s72.call mo (by simp) fun hxs => ?_
  have hlen := okLen (l := m.done.map encD) (by simpa using hxs.1.2.2.2.1)
  simp at hlen
  clear hxs
  unfold c72
  repeat' first | (with_reducible first | refine thN ?_ | refine thR ?_ | refine thE ?_ | refine inN ?_ | refine inR ?_ | refine inH ?_ | refine fS ?_ | refine fR ?_ | refine fQ ?_ | refine fE ?_ | refine fT ?_ | refine awBlock ?_ | refine awExit ?_ | refine awRet ?_ | refine awSkip ?_) | ((with_reducible refine awReg fun K hok hK => ?_); clear hok; (try simp (maxSteps := 10000000) (disch := first | omega | simp) []); (repeat' first | (with_reducible refine hK _ (by simp) ?_) | ((with_reducible refine gdT (fun h => ?_) (fun h => ?_)) <;> (simp (maxSteps := 10000000) (disch := first | omega | simp) [h]; (try simp at h); (try (exfalso; omega))))) <;> clear hK K) | ((with_reducible refine awCond fun A B hA hB => ?_); simp (maxSteps := 10000000) (disch := first | omega | simp) []; (first | refine ⟨fun h => hA ?_, fun h => hB ?_⟩ | refine hA ?_ | refine hB ?_) <;> (clear hA hB A B; (try (exfalso; omega))))
  refine awLoop (fun n Γ => ∃ i, i ≤ m.done.length ∧ n = m.done.length - i ∧ (∀ d ∈ m.done.take i, (d.client == c && d.serial == s) = false) ∧ Γ = ofA [(8, .p (I i)), (3, .p (.own (encM m).cells)), (1, .p (I c)), (2, .p (I s))]) _ _ (Wk.ofA ?_) ⟨0, by simp, rfl, by simp, rfl⟩ ?_
  · simp
  rintro _ _ ⟨i, hi, rfl, hni, rfl⟩
  repeat' first | (with_reducible first | refine thN ?_ | refine thR ?_ | refine thE ?_ | refine inN ?_ | refine inR ?_ | refine inH ?_ | refine fS ?_ | refine fR ?_ | refine fQ ?_ | refine fE ?_ | refine fT ?_ | refine awBlock ?_ | refine awExit ?_ | refine awRet ?_ | refine awSkip ?_) | ((with_reducible refine awReg fun K hok hK => ?_); clear hok; (try simp (maxSteps := 10000000) (disch := first | omega | simp) []); (repeat' first | (with_reducible refine hK _ (by simp) ?_) | ((with_reducible refine gdT (fun h => ?_) (fun h => ?_)) <;> (simp (maxSteps := 10000000) (disch := first | omega | simp) [h]; (try simp at h); (try (exfalso; omega))))) <;> clear hK K) | ((with_reducible refine awCond fun A B hA hB => ?_); simp (maxSteps := 10000000) (disch := first | omega | simp) []; (first | refine ⟨fun h => hA ?_, fun h => hB ?_⟩ | refine hA ?_ | refine hB ?_) <;> (clear hA hB A B; (try (exfalso; omega))))
  · rw [show m.answered c s = some m.done[i] from find_at (by assumption) hni (by simp_all)]
    (refine aEnR (aRes [] fun K hK => ?_); simp (maxSteps := 10000000) (disch := first | omega | simp) []; refine hK _ ?_ (by simp); simp (maxSteps := 10000000) (disch := first | omega | simp) [])
  · refine ⟨_, _, ?_, Wk.ofA ?_, i + 1, by omega, rfl, all_take (by assumption) hni (by simp_all), rfl⟩
    · omega
    · simp
  · refine ⟨_, _, ?_, Wk.ofA ?_, i + 1, by omega, rfl, all_take (by assumption) hni (by simp_all), rfl⟩
    · omega
    · simp
  · rw [show m.answered c s = none from find_no (by assumption) hni]
    (refine aEnR (aRes [] fun K hK => ?_); simp (maxSteps := 10000000) (disch := first | omega | simp) []; refine hK _ ?_ (by simp); simp (maxSteps := 10000000) (disch := first | omega | simp) [])
end
end Go.Am
end
section
set_option maxRecDepth 100000
set_option maxHeartbeats 0
namespace Go.Am
open Go
noncomputable section
def c19 : SC := (.seq (.reg [⟨some 2, .box 36 (.tmp 0), none, []⟩,
  ⟨some 4, .assign (.const (.bool false)), none, []⟩] [1, 2]) (.seq (.reg [⟨some 8, .load 36 (.tmp 2), none, []⟩,
  ⟨some 9, .move (.tmp 1), none, []⟩,
  ⟨some 10, .call { callee := .value (.func 35), args := #[.tmp 8, .tmp 9], argTypes := #[36, 3] }, none, []⟩,
  ⟨some 7, .move (.tmp 10), none, []⟩,
  ⟨some 11, .extract (.tmp 7) 0, none, []⟩,
  ⟨some 12, .extract (.tmp 7) 1, none, []⟩,
  ⟨some 5, .alloc 84, none, []⟩,
  ⟨none, .store 84 (.tmp 5) (.tmp 11), none, []⟩,
  ⟨some 6, .assign (.tmp 12), none, []⟩] [5, 6, 7, 10, 12]) (.seq (.reg [⟨some 13, .move (.tmp 6), none, []⟩,
  ⟨some 14, .move (.tmp 13), none, []⟩,
  ⟨some 15, .fieldAddr 84 (.tmp 5) 3, (some (14, true)), []⟩,
  ⟨some 16, .load 4 (.tmp 15), (some (14, true)), []⟩,
  ⟨some 17, .unOp .not 4 (.tmp 16), (some (14, true)), []⟩,
  ⟨some 18, .pick (.tmp 14) (.tmp 17) (.const (.bool false)), none, []⟩,
  ⟨some 4, .assign (.tmp 18), none, []⟩] [4, 6, 7, 10, 12, 13, 14, 17, 18]) .ret)))
theorem s19 : TextK Proofs.Tryz.prog 0 19 19 [ResultVar.tmp 4] c19 := .mk' Proofs.Tryz.f19 _ (by kernel_rfl) rfl rfl rfl (by kernel_rfl) rfl (by kernel_rfl)
def c15 : SC := (.seq (.reg [⟨some 3, .box 36 (.tmp 0), none, []⟩,
  ⟨some 6, .alloc 52, none, []⟩,
  ⟨some 7, .assign (.const (.bool false)), none, []⟩] [1, 2, 3, 6]) (.seq (.reg [⟨some 11, .load 36 (.tmp 3), none, []⟩,
  ⟨some 12, .move (.tmp 1), none, []⟩,
  ⟨some 13, .call { callee := .value (.func 34), args := #[.tmp 11, .tmp 12], argTypes := #[36, 3] }, none, []⟩,
  ⟨some 10, .move (.tmp 13), none, []⟩,
  ⟨some 14, .extract (.tmp 10) 0, none, []⟩,
  ⟨some 15, .extract (.tmp 10) 1, none, []⟩,
  ⟨some 8, .alloc 50, none, []⟩,
  ⟨none, .store 50 (.tmp 8) (.tmp 14), none, []⟩,
  ⟨some 9, .assign (.tmp 15), none, []⟩] [2, 6, 8, 9, 10, 13, 15]) (.seq (.reg [⟨some 16, .move (.tmp 9), none, []⟩,
  ⟨some 17, .unOp .not 4 (.tmp 16), none, []⟩,
  ⟨some 18, .move (.tmp 17), none, []⟩,
  ⟨some 19, .move (.tmp 2), (some (18, false)), []⟩,
  ⟨some 20, .binOp .lss 3 (.tmp 19) (.const (.int .i64 0)) 3, (some (18, false)), []⟩,
  ⟨some 21, .pick (.tmp 18) (.const (.bool true)) (.tmp 20), none, []⟩,
  ⟨some 22, .move (.tmp 21), none, []⟩,
  ⟨some 23, .move (.tmp 2), (some (22, false)), []⟩,
  ⟨some 24, .fieldAddr 50 (.tmp 8) 2, (some (22, false)), []⟩,
  ⟨some 25, .load 48 (.tmp 24), (some (22, false)), []⟩,
  ⟨some 26, .call { callee := .builtin .len, args := #[.tmp 25], argTypes := #[48] }, (some (22, false)), []⟩,
  ⟨some 27, .binOp .geq 3 (.tmp 23) (.tmp 26) 3, (some (22, false)), []⟩,
  ⟨some 28, .pick (.tmp 22) (.const (.bool true)) (.tmp 27), none, []⟩] [2, 6, 8, 17, 18, 20, 21, 22, 27, 28]) (.seq (.cond (.tmp 28) (.seq (.reg [⟨some 29, .build 52 #[], none, []⟩,
  ⟨none, .store 52 (.tmp 6) (.tmp 29), none, []⟩,
  ⟨some 7, .assign (.const (.bool false)), none, []⟩] [6, 7]) .ret) .skip) (.seq (.reg [⟨some 30, .fieldAddr 50 (.tmp 8) 2, none, []⟩,
  ⟨some 31, .load 48 (.tmp 30), none, []⟩,
  ⟨some 32, .move (.tmp 2), none, []⟩,
  ⟨some 33, .indexAddr 48 (.tmp 31) (.tmp 32), none, []⟩,
  ⟨some 34, .load 52 (.tmp 33), none, []⟩,
  ⟨none, .store 52 (.tmp 6) (.tmp 34), none, []⟩,
  ⟨some 7, .assign (.const (.bool true)), none, []⟩] [6, 7]) .ret)))))
theorem s15 : TextK Proofs.Tryz.prog 0 15 35 [ResultVar.cell 6 52, ResultVar.tmp 7] c15 := .mk' Proofs.Tryz.f15 _ (by kernel_rfl) rfl rfl rfl (by kernel_rfl) rfl (by kernel_rfl)
theorem alive_ok (m : Image) (id : Int) : ACall pg 19 [encM m, I id] (B (m.alive id)) := by
  refine s19.call mo (by simp) fun hxs => ?_
  clear hxs
  unfold c19
  repeat' first | (with_reducible first | refine awRet ?_) | ((with_reducible refine awReg fun K hok hK => ?_); clear hok; (try simp (maxSteps := 10000000) (disch := first | omega | simp) []); (repeat' first | (with_reducible refine hK _ (by simp) ?_) | ((with_reducible refine gdT (fun h => ?_) (fun h => ?_)) <;> (simp (maxSteps := 10000000) (disch := first | omega | simp) [h]; (try simp at h); (try (exfalso; omega)))) | ((with_reducible refine callS' fun K2 hK2 => ?_); (try simp (maxSteps := 10000000) (disch := first | omega | simp) []); (refine hK2 _ _ (broker_ok m id) rfl fun hk9 => ?_); clear hk9; clear hK2 K2; (try simp (maxSteps := 10000000) (disch := first | omega | simp) []))) <;> clear hK K) | ((with_reducible refine awCond fun A B hA hB => ?_); simp (maxSteps := 10000000) (disch := first | omega | simp) []; (first | refine ⟨fun h => hA ?_, fun h => hB ?_⟩ | refine hA ?_ | refine hB ?_) <;> (clear hA hB A B; (try (exfalso; omega))))
  all_goals ((refine aEnR (aRes [] fun K hK => ?_); simp (maxSteps := 10000000) (disch := first | omega | simp) []; refine hK _ ?_ (by simp); simp (maxSteps := 10000000) (disch := first | omega | simp) []); unfold Image.alive; cases hb : m.broker id <;> simp_all)
theorem part_ok (m : Image) (id n : Int) : ACall pg 15 [encM m, I id, I n] (.tup [encP ((m.part id n).getD zP), B (m.part id n).isSome]) := by
  refine s15.call mo (by simp) fun hxs => ?_
  clear hxs
  unfold c15
  cases ht : m.topic id with
  | none =>
    repeat' first | (with_reducible first | refine fS ?_ | refine fR ?_ | refine fQ ?_ | refine fT ?_ | refine awRet ?_) | ((with_reducible refine awReg fun K hok hK => ?_); clear hok; (try simp (maxSteps := 10000000) (disch := first | omega | simp) [ht, zT]); (repeat' first | (with_reducible refine hK _ (by simp) ?_) | ((with_reducible refine gdF (fun h => ?_) (fun h => ?_)) <;> (simp (maxSteps := 10000000) (disch := first | omega | simp) [h, ht, zT]; (try simp at h); (try (exfalso; omega)))) | ((with_reducible refine callF' fun K2 hK2 => ?_); (try simp (maxSteps := 10000000) (disch := first | omega | simp) [ht, zT]); (refine hK2 _ _ _ (topic_ok m id) fun _ => ?_); clear hK2 K2; (try simp (maxSteps := 10000000) (disch := first | omega | simp) [ht, zT]))) <;> clear hK K) | ((with_reducible refine awCond fun A B hA hB => ?_); simp (maxSteps := 10000000) (disch := first | omega | simp) [ht, zT]; (first | refine ⟨fun h => hA ?_, fun h => hB ?_⟩ | refine hA ?_ | refine hB ?_) <;> (clear hA hB A B; (try (exfalso; omega))))
    (refine aEnR (aRes [] fun K hK => ?_); simp (maxSteps := 10000000) (disch := first | omega | simp) [Image.part, ht, zP]; refine hK _ ?_ (by simp); simp (maxSteps := 10000000) (disch := first | omega | simp) [Image.part, ht, zP])
  | some t =>
    repeat' first | (with_reducible first | refine fS ?_ | refine fR ?_ | refine fQ ?_ | refine fT ?_ | refine awRet ?_) | ((with_reducible refine awReg fun K hok hK => ?_); clear hok; (try simp (maxSteps := 10000000) (disch := first | omega | simp) [ht, zT]); (repeat' first | (with_reducible refine hK _ (by simp) ?_) | ((with_reducible refine gdF (fun h => ?_) (fun h => ?_)) <;> (simp (maxSteps := 10000000) (disch := first | omega | simp) [h, ht, zT]; (try simp at h); (try (exfalso; omega)))) | ((with_reducible refine callF' fun K2 hK2 => ?_); (try simp (maxSteps := 10000000) (disch := first | omega | simp) [ht, zT]); (refine hK2 _ _ _ (topic_ok m id) fun _ => ?_); clear hK2 K2; (try simp (maxSteps := 10000000) (disch := first | omega | simp) [ht, zT]))) <;> clear hK K) | ((with_reducible refine awCond fun A B hA hB => ?_); simp (maxSteps := 10000000) (disch := first | omega | simp) [ht, zT]; (first | refine ⟨fun h => hA ?_, fun h => hB ?_⟩ | refine hA ?_ | refine hB ?_) <;> (clear hA hB A B; (try (exfalso; omega))))
    · have e : m.part id n = none := by
        simp only [Image.part, ht]; rw [if_neg (by omega)]; simp; try omega
      (refine aEnR (aRes [] fun K hK => ?_); simp (maxSteps := 10000000) (disch := first | omega | simp) [e, zP]; refine hK _ ?_ (by simp); simp (maxSteps := 10000000) (disch := first | omega | simp) [e, zP])
    · obtain ⟨k, rfl⟩ : ∃ k : Nat, n = k := ⟨n.toNat, by omega⟩
      have hk : k < t.parts.length := by omega
      have e : m.part id k = some t.parts[k] := by
        simp only [Image.part, ht]; rw [if_neg (by omega)]; simp [hk]
      repeat' first | (with_reducible first | refine fS ?_ | refine fR ?_ | refine fQ ?_ | refine fT ?_ | refine awRet ?_) | ((with_reducible refine awReg fun K hok hK => ?_); clear hok; (try simp (maxSteps := 10000000) (disch := first | omega | simp) []); (repeat' first | (with_reducible refine hK _ (by simp) ?_) | ((with_reducible refine gdF (fun h => ?_) (fun h => ?_)) <;> (simp (maxSteps := 10000000) (disch := first | omega | simp) [h]; (try simp at h); (try (exfalso; omega))))) <;> clear hK K) | ((with_reducible refine awCond fun A B hA hB => ?_); simp (maxSteps := 10000000) (disch := first | omega | simp) []; (first | refine ⟨fun h => hA ?_, fun h => hB ?_⟩ | refine hA ?_ | refine hB ?_) <;> (clear hA hB A B; (try (exfalso; omega))))
      (refine aEnR (aRes [] fun K hK => ?_); simp (maxSteps := 10000000) (disch := first | omega | simp) [e, zP]; refine hK _ ?_ (by simp); simp (maxSteps := 10000000) (disch := first | omega | simp) [e, zP])
    · have e : m.part id n = none := by
        simp only [Image.part, ht]; rw [if_pos (by omega)]
      (refine aEnR (aRes [] fun K hK => ?_); simp (maxSteps := 10000000) (disch := first | omega | simp) [e, zP]; refine hK _ ?_ (by simp); simp (maxSteps := 10000000) (disch := first | omega | simp) [e, zP])
end
end Go.Am
end
section
set_option maxRecDepth 100000
set_option maxHeartbeats 0
namespace Go.Am
open Go
noncomputable section
def c16 : SC := (.seq (.reg [⟨some 4, .assign (.const (.bool false)), none, []⟩] [0, 1]) (.seq (.reg [⟨some 6, .move (.tmp 0), none, []⟩,
  ⟨some 7, .call { callee := .builtin .len, args := #[.tmp 6], argTypes := #[23] }, none, []⟩,
  ⟨some 8, .move (.tmp 1), none, []⟩,
  ⟨some 9, .call { callee := .builtin .len, args := #[.tmp 8], argTypes := #[23] }, none, []⟩,
  ⟨some 10, .binOp .neq 3 (.tmp 7) (.tmp 9) 3, none, []⟩] [0, 1, 10]) (.seq (.cond (.tmp 10) (.seq (.reg [⟨some 4, .assign (.const (.bool false)), none, []⟩] [4]) .ret) .skip) (.seq (.reg [⟨some 5, .assign (.const (.int .i64 0)), none, []⟩] [0, 1, 5, 16]) (.seq (.block 0 (.seq (.loop (.seq (.reg [⟨some 11, .move (.tmp 5), none, []⟩,
  ⟨some 12, .move (.tmp 0), none, []⟩,
  ⟨some 13, .call { callee := .builtin .len, args := #[.tmp 12], argTypes := #[23] }, none, []⟩,
  ⟨some 14, .binOp .lss 3 (.tmp 11) (.tmp 13) 3, none, []⟩] [0, 1, 5, 14, 16]) (.seq (.cond (.tmp 14) .skip (.exit 0)) (.seq (.block 1 (.seq (.reg [⟨some 17, .move (.tmp 0), none, [18, 21, 22, 23, 24]⟩,
  ⟨some 18, .move (.tmp 5), none, [17, 21, 22, 23, 24]⟩,
  ⟨some 19, .indexAddr 23 (.tmp 17) (.tmp 18), none, [21, 22, 23, 24]⟩,
  ⟨some 20, .load 3 (.tmp 19), none, [21, 22, 23, 24]⟩,
  ⟨some 21, .move (.tmp 1), none, [17, 18, 19, 20, 22]⟩,
  ⟨some 22, .move (.tmp 5), none, [17, 18, 19, 20, 21]⟩,
  ⟨some 23, .indexAddr 23 (.tmp 21) (.tmp 22), none, [17, 18, 19, 20]⟩,
  ⟨some 24, .load 3 (.tmp 23), none, [17, 18, 19, 20]⟩,
  ⟨some 25, .binOp .neq 3 (.tmp 20) (.tmp 24) 3, none, []⟩] [0, 1, 5, 16, 25]) (.seq (.cond (.tmp 25) (.seq (.reg [⟨some 4, .assign (.const (.bool false)), none, []⟩] [4]) .ret) .skip) .skip))) (.seq (.reg [⟨some 15, .move (.tmp 5), none, []⟩,
  ⟨some 16, .binOp .add 3 (.tmp 15) (.const (.int .i64 1)) 3, none, []⟩,
  ⟨some 5, .assign (.tmp 16), none, []⟩] [0, 1, 5, 16]) .skip))))) .skip)) (.seq (.reg [⟨some 4, .assign (.const (.bool true)), none, []⟩] [4]) .ret))))))
theorem s16 : TextK Proofs.Tryz.prog 0 16 26 [ResultVar.tmp 4] c16 := .mk' Proofs.Tryz.f16 _ (by kernel_rfl) rfl rfl rfl (by kernel_rfl) rfl (by kernel_rfl)
def c23 : SC := (.seq (.reg [⟨some 2, .box 52 (.tmp 0), none, []⟩,
  ⟨some 3, .box 52 (.tmp 1), none, []⟩,
  ⟨some 4, .assign (.const (.bool false)), none, []⟩] [2, 3, 5, 22, 23, 28, 29, 30, 31, 36, 37, 38, 43, 44]) (.seq (.reg [⟨some 6, .fieldAddr 52 (.tmp 2) 2, none, []⟩,
  ⟨some 7, .load 3 (.tmp 6), none, []⟩,
  ⟨some 8, .fieldAddr 52 (.tmp 3) 2, none, []⟩,
  ⟨some 9, .load 3 (.tmp 8), none, []⟩,
  ⟨some 10, .binOp .neq 3 (.tmp 7) (.tmp 9) 3, none, []⟩,
  ⟨some 11, .move (.tmp 10), none, []⟩,
  ⟨some 12, .fieldAddr 52 (.tmp 2) 3, (some (11, false)), []⟩,
  ⟨some 13, .load 3 (.tmp 12), (some (11, false)), []⟩,
  ⟨some 14, .fieldAddr 52 (.tmp 3) 3, (some (11, false)), []⟩,
  ⟨some 15, .load 3 (.tmp 14), (some (11, false)), []⟩,
  ⟨some 16, .binOp .neq 3 (.tmp 13) (.tmp 15) 3, (some (11, false)), []⟩,
  ⟨some 17, .pick (.tmp 11) (.const (.bool true)) (.tmp 16), none, []⟩] [2, 3, 5, 10, 11, 16, 17, 22, 23, 28, 29, 30, 31, 36, 37, 38, 43, 44]) (.seq (.cond (.tmp 17) (.seq (.reg [⟨some 4, .assign (.const (.bool false)), none, []⟩] [4, 5, 22, 23, 28, 29, 30, 31, 36, 37, 38, 43, 44]) .ret) .skip) (.seq (.reg [⟨some 18, .fieldAddr 52 (.tmp 2) 0, none, []⟩,
  ⟨some 19, .load 23 (.tmp 18), none, []⟩,
  ⟨some 20, .fieldAddr 52 (.tmp 3) 0, none, []⟩,
  ⟨some 21, .load 23 (.tmp 20), none, []⟩,
  ⟨some 22, .call { callee := .value (.func 16), args := #[.tmp 19, .tmp 21], argTypes := #[23, 23] }, none, []⟩,
  ⟨some 23, .move (.tmp 22), none, []⟩,
  ⟨some 24, .fieldAddr 52 (.tmp 2) 1, (some (23, true)), []⟩,
  ⟨some 25, .load 23 (.tmp 24), (some (23, true)), []⟩,
  ⟨some 26, .fieldAddr 52 (.tmp 3) 1, (some (23, true)), []⟩,
  ⟨some 27, .load 23 (.tmp 26), (some (23, true)), []⟩,
  ⟨some 28, .call { callee := .value (.func 16), args := #[.tmp 25, .tmp 27], argTypes := #[23, 23] }, (some (23, true)), []⟩,
  ⟨some 29, .pick (.tmp 23) (.tmp 28) (.const (.bool false)), none, []⟩,
  ⟨some 5, .assign (.tmp 29), none, []⟩] [2, 3, 5, 22, 23, 28, 29]) (.seq (.reg [⟨some 30, .move (.tmp 5), none, []⟩,
  ⟨some 31, .move (.tmp 30), none, []⟩,
  ⟨some 32, .fieldAddr 52 (.tmp 2) 4, (some (31, true)), []⟩,
  ⟨some 33, .load 23 (.tmp 32), (some (31, true)), []⟩,
  ⟨some 34, .fieldAddr 52 (.tmp 3) 4, (some (31, true)), []⟩,
  ⟨some 35, .load 23 (.tmp 34), (some (31, true)), []⟩,
  ⟨some 36, .call { callee := .value (.func 16), args := #[.tmp 33, .tmp 35], argTypes := #[23, 23] }, (some (31, true)), []⟩,
  ⟨some 37, .pick (.tmp 31) (.tmp 36) (.const (.bool false)), none, []⟩,
  ⟨some 38, .move (.tmp 37), none, []⟩,
  ⟨some 39, .fieldAddr 52 (.tmp 2) 5, (some (38, true)), []⟩,
  ⟨some 40, .load 23 (.tmp 39), (some (38, true)), []⟩,
  ⟨some 41, .fieldAddr 52 (.tmp 3) 5, (some (38, true)), []⟩,
  ⟨some 42, .load 23 (.tmp 41), (some (38, true)), []⟩,
  ⟨some 43, .call { callee := .value (.func 16), args := #[.tmp 40, .tmp 42], argTypes := #[23, 23] }, (some (38, true)), []⟩,
  ⟨some 44, .pick (.tmp 38) (.tmp 43) (.const (.bool false)), none, []⟩,
  ⟨some 4, .assign (.tmp 44), none, []⟩] [4, 5, 22, 23, 28, 29, 30, 31, 36, 37, 38, 43, 44]) .ret)))))
theorem s23 : TextK Proofs.Tryz.prog 0 23 45 [ResultVar.tmp 4] c23 := .mk' Proofs.Tryz.f23 _ (by kernel_rfl) rfl rfl rfl (by kernel_rfl) rfl (by kernel_rfl)
theorem okLenI {l : List Int} (h : okV (Li l)) : l.length ≤ 9223372036854775807 := by have := okLen h; simpa using this
theorem ints_ok (a b : List Int) : ACall pg 16 [Li a, Li b] (B (a == b)) := by
  refine s16.call mo (by simp) fun hxs => ?_
  have hla := okLenI hxs.1
  have hlb := okLenI hxs.2.1
  clear hxs
  unfold c16
  repeat' first | (with_reducible first | refine thN ?_ | refine thR ?_ | refine thE ?_ | refine inN ?_ | refine inR ?_ | refine inH ?_ | refine fS ?_ | refine fR ?_ | refine fQ ?_ | refine fE ?_ | refine fT ?_ | refine awBlock ?_ | refine awExit ?_ | refine awRet ?_ | refine awSkip ?_) | ((with_reducible refine awReg fun K hok hK => ?_); clear hok; (try simp (maxSteps := 10000000) (disch := first | omega | simp) []); (repeat' first | (with_reducible refine hK _ (by simp) ?_) | ((with_reducible refine sideQ' ?_ ?_ fun K2 hK2 => ?_); exact rfl; exact rfl; (try simp (maxSteps := 10000000) (disch := first | omega | simp) []); with_reducible refine hK2 _ _ ?_; clear hK2 K2; (try simp (maxSteps := 10000000) (disch := first | omega | simp) []))) <;> clear hK K) | ((with_reducible refine awCond fun A B hA hB => ?_); simp (maxSteps := 10000000) (disch := first | omega | simp) []; (first | refine ⟨fun h => hA ?_, fun h => hB ?_⟩ | refine hA ?_ | refine hB ?_) <;> (clear hA hB A B; (try (exfalso; omega))))
  · have e : (a == b) = false := by rw [beq_eq_false_iff_ne]; intro e; subst e; simp_all
    (refine aEnR (aRes [] fun K hK => ?_); simp (maxSteps := 10000000) (disch := first | omega | simp) [e]; refine hK _ ?_ (by simp); simp (maxSteps := 10000000) (disch := first | omega | simp) [e])
  have hl : a.length = b.length := by omega
  refine awLoop (fun k Γ => ∃ i, i ≤ a.length ∧ k = a.length - i ∧ a.take i = b.take i ∧ Γ = ofA [(5, .p (I i)), (0, .p (Li a)), (1, .p (Li b))]) _ _ (Wk.ofA ?_) ⟨0, by simp, rfl, by simp, rfl⟩ ?_
  · simp
  rintro _ _ ⟨i, hi, rfl, ht, rfl⟩
  repeat' first | (with_reducible first | refine thN ?_ | refine thR ?_ | refine thE ?_ | refine inN ?_ | refine inR ?_ | refine inH ?_ | refine fS ?_ | refine fR ?_ | refine fQ ?_ | refine fE ?_ | refine fT ?_ | refine awBlock ?_ | refine awExit ?_ | refine awRet ?_ | refine awSkip ?_) | ((with_reducible refine awReg fun K hok hK => ?_); clear hok; (try simp (maxSteps := 10000000) (disch := first | omega | simp) []); (repeat' first | (with_reducible refine hK _ (by simp) ?_) | ((with_reducible refine sideQ' ?_ ?_ fun K2 hK2 => ?_); exact rfl; exact rfl; (try simp (maxSteps := 10000000) (disch := first | omega | simp) []); with_reducible refine hK2 _ _ ?_; clear hK2 K2; (try simp (maxSteps := 10000000) (disch := first | omega | simp) []))) <;> clear hK K) | ((with_reducible refine awCond fun A B hA hB => ?_); simp (maxSteps := 10000000) (disch := first | omega | simp) []; (first | refine ⟨fun h => hA ?_, fun h => hB ?_⟩ | refine hA ?_ | refine hB ?_) <;> (clear hA hB A B; (try (exfalso; omega))))
  · have hi2 : i < a.length := by assumption
    have hi3 : i < b.length := by omega
    have e : (a == b) = false := by
      rw [beq_eq_false_iff_ne]; intro e; subst e; simp at h
    (refine aEnR (aRes [] fun K hK => ?_); simp (maxSteps := 10000000) (disch := first | omega | simp) [e]; refine hK _ ?_ (by simp); simp (maxSteps := 10000000) (disch := first | omega | simp) [e])
  · have hi2 : i < a.length := by assumption
    have hi3 : i < b.length := by omega
    refine ⟨_, _, ?_, Wk.ofA ?_, i + 1, by omega, rfl, eq_take hi2 hi3 ht (by simpa using h), rfl⟩
    · omega
    · simp
  · have e : a = b := by
      rw [List.take_of_length_le (by assumption), List.take_of_length_le (by omega)] at ht; exact ht
    (refine aEnR (aRes [] fun K hK => ?_); simp (maxSteps := 10000000) (disch := first | omega | simp) [e]; refine hK _ ?_ (by simp); simp (maxSteps := 10000000) (disch := first | omega | simp) [e])
theorem samePart_ok (a b : Part) : ACall pg 23 [encP a, encP b] (B (a.leader == b.leader && a.epoch == b.epoch && a.ids == b.ids && a.isr == b.isr && a.add == b.add && a.drop == b.drop)) := by
  refine s23.call mo (by simp) fun hxs => ?_
  clear hxs
  unfold c23
  repeat' first | (with_reducible first | refine fS ?_ | refine fR ?_ | refine fQ ?_ | refine fT ?_ | refine awRet ?_) | ((with_reducible refine awReg fun K hok hK => ?_); clear hok; (try simp (maxSteps := 10000000) (disch := first | omega | simp) []); (repeat' first | (with_reducible refine hK _ (by simp) ?_) | ((with_reducible refine gdT (fun h => ?_) (fun h => ?_)) <;> (simp (maxSteps := 10000000) (disch := first | omega | simp) [h]; (try simp at h); (try (exfalso; omega)))) | ((with_reducible refine gdF (fun h => ?_) (fun h => ?_)) <;> (simp (maxSteps := 10000000) (disch := first | omega | simp) [h]; (try simp at h); (try (exfalso; omega)))) | ((with_reducible refine callS' fun K2 hK2 => ?_); (try simp (maxSteps := 10000000) (disch := first | omega | simp) []); (refine hK2 _ _ (ints_ok _ _) rfl fun hk9 => ?_); clear hk9; clear hK2 K2; (try simp (maxSteps := 10000000) (disch := first | omega | simp) []))) <;> clear hK K) | ((with_reducible refine awCond fun A B hA hB => ?_); simp (maxSteps := 10000000) (disch := first | omega | simp) []; (first | refine ⟨fun h => hA ?_, fun h => hB ?_⟩ | refine hA ?_ | refine hB ?_) <;> (clear hA hB A B; (try (exfalso; omega))))
  all_goals ((refine aEnR (aRes [] fun K hK => ?_); simp (maxSteps := 10000000) (disch := first | omega | simp) []; refine hK _ ?_ (by simp); simp (maxSteps := 10000000) (disch := first | omega | simp) []) <;> simp_all)
end
end Go.Am
end
section
set_option maxRecDepth 100000
set_option maxHeartbeats 0
namespace Go.Am
open Go
noncomputable section
def c18 : SC := (.seq (.reg [⟨some 4, .assign (.const (.bool false)), none, []⟩] [0, 1]) (.seq (.reg [⟨some 5, .assign (.const (.int .i64 0)), none, []⟩] [0, 1, 5, 11]) (.seq (.block 0 (.seq (.loop (.seq (.reg [⟨some 6, .move (.tmp 5), none, []⟩,
  ⟨some 7, .move (.tmp 0), none, []⟩,
  ⟨some 8, .call { callee := .builtin .len, args := #[.tmp 7], argTypes := #[23] }, none, []⟩,
  ⟨some 9, .binOp .lss 3 (.tmp 6) (.tmp 8) 3, none, []⟩] [0, 1, 5, 9, 11]) (.seq (.cond (.tmp 9) .skip (.exit 0)) (.seq (.block 1 (.seq (.reg [⟨some 12, .move (.tmp 0), none, []⟩,
  ⟨some 13, .move (.tmp 5), none, []⟩,
  ⟨some 14, .indexAddr 23 (.tmp 12) (.tmp 13), none, []⟩,
  ⟨some 15, .load 3 (.tmp 14), none, []⟩,
  ⟨some 16, .move (.tmp 1), none, []⟩,
  ⟨some 17, .binOp .eql 3 (.tmp 15) (.tmp 16) 3, none, []⟩] [0, 1, 5, 11, 17]) (.seq (.cond (.tmp 17) (.seq (.reg [⟨some 4, .assign (.const (.bool true)), none, []⟩] [4]) .ret) .skip) .skip))) (.seq (.reg [⟨some 10, .move (.tmp 5), none, []⟩,
  ⟨some 11, .binOp .add 3 (.tmp 10) (.const (.int .i64 1)) 3, none, []⟩,
  ⟨some 5, .assign (.tmp 11), none, []⟩] [0, 1, 5, 11]) .skip))))) .skip)) (.seq (.reg [⟨some 4, .assign (.const (.bool false)), none, []⟩] [4]) .ret))))
theorem s18 : TextK Proofs.Tryz.prog 0 18 18 [ResultVar.tmp 4] c18 := .mk' Proofs.Tryz.f18 _ (by kernel_rfl) rfl rfl rfl (by kernel_rfl) rfl (by kernel_rfl)
def c65 : SC := (.seq (.reg [⟨some 2, .box 36 (.tmp 0), none, []⟩,
  ⟨some 4, .assign (.const (.bool false)), none, []⟩] [1, 2]) (.seq (.reg [⟨some 5, .assign (.const (.int .i64 0)), none, []⟩] [1, 2, 5, 13]) (.seq (.block 0 (.seq (.loop (.seq (.reg [⟨some 7, .move (.tmp 5), none, []⟩,
  ⟨some 8, .fieldAddr 36 (.tmp 2) 1, none, []⟩,
  ⟨some 9, .load 32 (.tmp 8), none, []⟩,
  ⟨some 10, .call { callee := .builtin .len, args := #[.tmp 9], argTypes := #[32] }, none, []⟩,
  ⟨some 11, .binOp .lss 3 (.tmp 7) (.tmp 10) 3, none, []⟩] [1, 2, 5, 11, 13]) (.seq (.cond (.tmp 11) .skip (.exit 0)) (.seq (.block 1 (.seq (.reg [⟨some 6, .assign (.const (.int .i64 0)), none, []⟩] [1, 2, 5, 6, 13, 24]) (.seq (.block 2 (.seq (.loop (.seq (.reg [⟨some 14, .move (.tmp 6), none, []⟩,
  ⟨some 15, .fieldAddr 36 (.tmp 2) 1, none, []⟩,
  ⟨some 16, .load 32 (.tmp 15), none, []⟩,
  ⟨some 17, .move (.tmp 5), none, []⟩,
  ⟨some 18, .indexAddr 32 (.tmp 16) (.tmp 17), none, []⟩,
  ⟨some 19, .fieldAddr 50 (.tmp 18) 2, none, []⟩,
  ⟨some 20, .load 48 (.tmp 19), none, []⟩,
  ⟨some 21, .call { callee := .builtin .len, args := #[.tmp 20], argTypes := #[48] }, none, []⟩,
  ⟨some 22, .binOp .lss 3 (.tmp 14) (.tmp 21) 3, none, []⟩] [1, 2, 5, 6, 13, 22, 24]) (.seq (.cond (.tmp 22) .skip (.exit 2)) (.seq (.block 3 (.seq (.reg [⟨some 25, .fieldAddr 36 (.tmp 2) 1, none, []⟩,
  ⟨some 26, .load 32 (.tmp 25), none, []⟩,
  ⟨some 27, .move (.tmp 5), none, []⟩,
  ⟨some 28, .indexAddr 32 (.tmp 26) (.tmp 27), none, []⟩,
  ⟨some 29, .fieldAddr 50 (.tmp 28) 2, none, []⟩,
  ⟨some 30, .load 48 (.tmp 29), none, []⟩,
  ⟨some 31, .move (.tmp 6), none, []⟩,
  ⟨some 32, .indexAddr 48 (.tmp 30) (.tmp 31), none, []⟩,
  ⟨some 33, .fieldAddr 52 (.tmp 32) 2, none, []⟩,
  ⟨some 34, .load 3 (.tmp 33), none, []⟩,
  ⟨some 35, .move (.tmp 1), none, []⟩,
  ⟨some 36, .binOp .eql 3 (.tmp 34) (.tmp 35) 3, none, []⟩] [1, 2, 5, 6, 13, 24, 36]) (.seq (.cond (.tmp 36) (.seq (.reg [⟨some 4, .assign (.const (.bool true)), none, []⟩] [4]) .ret) .skip) .skip))) (.seq (.reg [⟨some 23, .move (.tmp 6), none, []⟩,
  ⟨some 24, .binOp .add 3 (.tmp 23) (.const (.int .i64 1)) 3, none, []⟩,
  ⟨some 6, .assign (.tmp 24), none, []⟩] [1, 2, 5, 6, 13, 24]) .skip))))) .skip)) .skip))) (.seq (.reg [⟨some 12, .move (.tmp 5), none, []⟩,
  ⟨some 13, .binOp .add 3 (.tmp 12) (.const (.int .i64 1)) 3, none, []⟩,
  ⟨some 5, .assign (.tmp 13), none, []⟩] [1, 2, 5, 13]) .skip))))) .skip)) (.seq (.reg [⟨some 4, .assign (.const (.bool false)), none, []⟩] [4]) .ret))))
theorem s65 : TextK Proofs.Tryz.prog 0 65 37 [ResultVar.tmp 4] c65 := .mk' Proofs.Tryz.f65 _ (by kernel_rfl) rfl rfl rfl (by kernel_rfl) rfl (by kernel_rfl)
def c67 : SC := (.seq (.reg [⟨some 2, .box 36 (.tmp 0), none, []⟩,
  ⟨some 4, .assign (.const (.bool false)), none, []⟩] [1, 2]) (.seq (.reg [⟨some 5, .assign (.const (.int .i64 0)), none, []⟩] [1, 2, 5, 13]) (.seq (.block 0 (.seq (.loop (.seq (.reg [⟨some 7, .move (.tmp 5), none, []⟩,
  ⟨some 8, .fieldAddr 36 (.tmp 2) 1, none, []⟩,
  ⟨some 9, .load 32 (.tmp 8), none, []⟩,
  ⟨some 10, .call { callee := .builtin .len, args := #[.tmp 9], argTypes := #[32] }, none, []⟩,
  ⟨some 11, .binOp .lss 3 (.tmp 7) (.tmp 10) 3, none, []⟩] [1, 2, 5, 11, 13]) (.seq (.cond (.tmp 11) .skip (.exit 0)) (.seq (.block 1 (.seq (.reg [⟨some 6, .assign (.const (.int .i64 0)), none, []⟩] [1, 2, 5, 6, 13, 24]) (.seq (.block 2 (.seq (.loop (.seq (.reg [⟨some 14, .move (.tmp 6), none, []⟩,
  ⟨some 15, .fieldAddr 36 (.tmp 2) 1, none, []⟩,
  ⟨some 16, .load 32 (.tmp 15), none, []⟩,
  ⟨some 17, .move (.tmp 5), none, []⟩,
  ⟨some 18, .indexAddr 32 (.tmp 16) (.tmp 17), none, []⟩,
  ⟨some 19, .fieldAddr 50 (.tmp 18) 2, none, []⟩,
  ⟨some 20, .load 48 (.tmp 19), none, []⟩,
  ⟨some 21, .call { callee := .builtin .len, args := #[.tmp 20], argTypes := #[48] }, none, []⟩,
  ⟨some 22, .binOp .lss 3 (.tmp 14) (.tmp 21) 3, none, []⟩] [1, 2, 5, 6, 13, 22, 24]) (.seq (.cond (.tmp 22) .skip (.exit 2)) (.seq (.block 3 (.seq (.reg [⟨some 25, .fieldAddr 36 (.tmp 2) 1, none, []⟩,
  ⟨some 26, .load 32 (.tmp 25), none, []⟩,
  ⟨some 27, .move (.tmp 5), none, []⟩,
  ⟨some 28, .indexAddr 32 (.tmp 26) (.tmp 27), none, []⟩,
  ⟨some 29, .fieldAddr 50 (.tmp 28) 2, none, []⟩,
  ⟨some 30, .load 48 (.tmp 29), none, []⟩,
  ⟨some 31, .move (.tmp 6), none, []⟩,
  ⟨some 32, .indexAddr 48 (.tmp 30) (.tmp 31), none, []⟩,
  ⟨some 33, .fieldAddr 52 (.tmp 32) 0, none, []⟩,
  ⟨some 34, .load 23 (.tmp 33), none, []⟩,
  ⟨some 35, .move (.tmp 1), none, []⟩,
  ⟨some 36, .call { callee := .value (.func 18), args := #[.tmp 34, .tmp 35], argTypes := #[23, 3] }, none, []⟩] [1, 2, 5, 6, 13, 24, 36]) (.seq (.cond (.tmp 36) (.seq (.reg [⟨some 4, .assign (.const (.bool true)), none, []⟩] [4]) .ret) .skip) .skip))) (.seq (.reg [⟨some 23, .move (.tmp 6), none, []⟩,
  ⟨some 24, .binOp .add 3 (.tmp 23) (.const (.int .i64 1)) 3, none, []⟩,
  ⟨some 6, .assign (.tmp 24), none, []⟩] [1, 2, 5, 6, 13, 24]) .skip))))) .skip)) .skip))) (.seq (.reg [⟨some 12, .move (.tmp 5), none, []⟩,
  ⟨some 13, .binOp .add 3 (.tmp 12) (.const (.int .i64 1)) 3, none, []⟩,
  ⟨some 5, .assign (.tmp 13), none, []⟩] [1, 2, 5, 13]) .skip))))) .skip)) (.seq (.reg [⟨some 4, .assign (.const (.bool false)), none, []⟩] [4]) .ret))))
theorem s67 : TextK Proofs.Tryz.prog 0 67 37 [ResultVar.tmp 4] c67 := .mk' Proofs.Tryz.f67 _ (by kernel_rfl) rfl rfl rfl (by kernel_rfl) rfl (by kernel_rfl)
theorem has_ok (l : List Int) (n : Int) : ACall pg 18 [Li l, I n] (B (l.contains n)) := by
  refine s18.call mo (by simp) fun hxs => ?_
  have hlen := okLenI hxs.1
  clear hxs
  unfold c18
  repeat' first | (with_reducible first | refine thN ?_ | refine thR ?_ | refine thE ?_ | refine inN ?_ | refine inR ?_ | refine inH ?_ | refine fS ?_ | refine fR ?_ | refine fQ ?_ | refine fE ?_ | refine fT ?_ | refine awBlock ?_ | refine awExit ?_ | refine awRet ?_ | refine awSkip ?_) | ((with_reducible refine awReg fun K hok hK => ?_); clear hok; (try simp (maxSteps := 10000000) (disch := first | omega | simp) []); (repeat' first | (with_reducible refine hK _ (by simp) ?_)) <;> clear hK K) | ((with_reducible refine awCond fun A B hA hB => ?_); simp (maxSteps := 10000000) (disch := first | omega | simp) []; (first | refine ⟨fun h => hA ?_, fun h => hB ?_⟩ | refine hA ?_ | refine hB ?_) <;> (clear hA hB A B; (try (exfalso; omega))))
  refine awLoop (fun k Γ => ∃ i, i ≤ l.length ∧ k = l.length - i ∧ n ∉ l.take i ∧ Γ = ofA [(5, .p (I i)), (0, .p (Li l)), (1, .p (I n))]) _ _ (Wk.ofA ?_) ⟨0, by simp, rfl, by simp, rfl⟩ ?_
  · simp
  rintro _ _ ⟨i, hi, rfl, hni, rfl⟩
  repeat' first | (with_reducible first | refine thN ?_ | refine thR ?_ | refine thE ?_ | refine inN ?_ | refine inR ?_ | refine inH ?_ | refine fS ?_ | refine fR ?_ | refine fQ ?_ | refine fE ?_ | refine fT ?_ | refine awBlock ?_ | refine awExit ?_ | refine awRet ?_ | refine awSkip ?_) | ((with_reducible refine awReg fun K hok hK => ?_); clear hok; (try simp (maxSteps := 10000000) (disch := first | omega | simp) []); (repeat' first | (with_reducible refine hK _ (by simp) ?_)) <;> clear hK K) | ((with_reducible refine awCond fun A B hA hB => ?_); simp (maxSteps := 10000000) (disch := first | omega | simp) []; (first | refine ⟨fun h => hA ?_, fun h => hB ?_⟩ | refine hA ?_ | refine hB ?_) <;> (clear hA hB A B; (try (exfalso; omega))))
  · have e : l.contains n = true := by rw [List.contains_iff_mem]; exact h ▸ List.getElem_mem (by assumption)
    (refine aEnR (aRes [] fun K hK => ?_); simp (maxSteps := 10000000) (disch := first | omega | simp) [e]; refine hK _ ?_ (by simp); simp (maxSteps := 10000000) (disch := first | omega | simp) [e])
    simpa using e
  · refine ⟨_, _, ?_, Wk.ofA ?_, i + 1, by omega, rfl, not_take (List.getElem?_eq_getElem (by assumption)) hni h, rfl⟩
    · omega
    · simp
  · have e : l.contains n = false := by
      rw [List.take_of_length_le h] at hni; simpa using hni
    (refine aEnR (aRes [] fun K hK => ?_); simp (maxSteps := 10000000) (disch := first | omega | simp) [e]; refine hK _ ?_ (by simp); simp (maxSteps := 10000000) (disch := first | omega | simp) [e])
    simpa using e
theorem leads_ok (m : Image) (id : Int) : ACall pg 65 [encM m, I id] (B (m.any fun p => p.leader == id)) := by
  refine s65.call mo (by simp) fun hxs => ?_
  have hlen := okLen (l := m.topics.map encT) (by simpa using hxs.1.2.1)
  simp at hlen
  have hpl : ∀ t ∈ m.topics, t.parts.length ≤ 9223372036854775807 := by
    intro t ht
    have h1 := hxs.1.2.1
    have h2 := okL_iff.1 h1.2 (encT t) (List.mem_map.2 ⟨t, ht, rfl⟩)
    have := okLen (l := t.parts.map encP) (by simpa using h2.2.2.1)
    simpa using this
  clear hxs
  unfold c65
  repeat' first | (with_reducible first | refine thN ?_ | refine thR ?_ | refine thE ?_ | refine inN ?_ | refine inR ?_ | refine inH ?_ | refine fS ?_ | refine fR ?_ | refine fQ ?_ | refine fE ?_ | refine fT ?_ | refine awBlock ?_ | refine awExit ?_ | refine awRet ?_ | refine awSkip ?_) | ((with_reducible refine awReg fun K hok hK => ?_); clear hok; (try simp (maxSteps := 10000000) (disch := first | omega | simp) []); (repeat' first | (with_reducible refine hK _ (by simp) ?_)) <;> clear hK K) | ((with_reducible refine awCond fun A B hA hB => ?_); simp (maxSteps := 10000000) (disch := first | omega | simp) []; (first | refine ⟨fun h => hA ?_, fun h => hB ?_⟩ | refine hA ?_ | refine hB ?_) <;> (clear hA hB A B; (try (exfalso; omega))))
  refine awLoop (fun k Γ => ∃ i, i ≤ m.topics.length ∧ k = m.topics.length - i ∧ (∀ t ∈ m.topics.take i, (t.any fun p => p.leader == id) = false) ∧ Γ = ofA [(5, .p (I i)), (2, .p (.own (encM m).cells)), (1, .p (I id))]) _ _ (Wk.ofA ?_) ⟨0, by simp, rfl, by simp, rfl⟩ ?_
  · simp
  rintro _ _ ⟨i, hi, rfl, hni, rfl⟩
  repeat' first | (with_reducible first | refine thN ?_ | refine thR ?_ | refine thE ?_ | refine inN ?_ | refine inR ?_ | refine inH ?_ | refine fS ?_ | refine fR ?_ | refine fQ ?_ | refine fE ?_ | refine fT ?_ | refine awBlock ?_ | refine awExit ?_ | refine awRet ?_ | refine awSkip ?_) | ((with_reducible refine awReg fun K hok hK => ?_); clear hok; (try simp (maxSteps := 10000000) (disch := first | omega | simp) []); (repeat' first | (with_reducible refine hK _ (by simp) ?_)) <;> clear hK K) | ((with_reducible refine awCond fun A B hA hB => ?_); simp (maxSteps := 10000000) (disch := first | omega | simp) []; (first | refine ⟨fun h => hA ?_, fun h => hB ?_⟩ | refine hA ?_ | refine hB ?_) <;> (clear hA hB A B; (try (exfalso; omega))))
  · have hi2 : i < m.topics.length := by assumption
    have hpl := hpl m.topics[i] (List.getElem_mem hi2)
    refine awLoop (fun k Γ => ∃ j, j ≤ m.topics[i].parts.length ∧ k = m.topics[i].parts.length - j ∧ (∀ p ∈ m.topics[i].parts.take j, (p.leader == id) = false) ∧ Γ = ofA [(6, .p (I j)), (5, .p (I i)), (2, .p (.own (encM m).cells)), (1, .p (I id))]) _ _ (Wk.ofA ?_) ⟨0, by simp, rfl, by simp, rfl⟩ ?_
    · simp
    rintro _ _ ⟨j, hj, rfl, hnj, rfl⟩
    repeat' first | (with_reducible first | refine thN ?_ | refine thR ?_ | refine thE ?_ | refine inN ?_ | refine inR ?_ | refine inH ?_ | refine fS ?_ | refine fR ?_ | refine fQ ?_ | refine fE ?_ | refine fT ?_ | refine awBlock ?_ | refine awExit ?_ | refine awRet ?_ | refine awSkip ?_) | ((with_reducible refine awReg fun K hok hK => ?_); clear hok; (try simp (maxSteps := 10000000) (disch := first | omega | simp) []); (repeat' first | (with_reducible refine hK _ (by simp) ?_)) <;> clear hK K) | ((with_reducible refine awCond fun A B hA hB => ?_); simp (maxSteps := 10000000) (disch := first | omega | simp) []; (first | refine ⟨fun h => hA ?_, fun h => hB ?_⟩ | refine hA ?_ | refine hB ?_) <;> (clear hA hB A B; (try (exfalso; omega))))
    · have e : (m.any fun p => p.leader == id) = true := any_at hi2 (any_at (by assumption) (by simpa using h))
      (refine aEnR (aRes [] fun K hK => ?_); simp (maxSteps := 10000000) (disch := first | omega | simp) [e]; refine hK _ ?_ (by simp); simp (maxSteps := 10000000) (disch := first | omega | simp) [e])
    · refine ⟨_, _, ?_, Wk.ofA ?_, j + 1, by omega, rfl, all_take (by assumption) hnj (by simpa using h), rfl⟩
      · omega
      · simp
    · refine ⟨_, _, ?_, Wk.ofA ?_, i + 1, by omega, rfl, all_take hi2 hni (any_no h hnj), rfl⟩
      · omega
      · simp
  · have e : (m.any fun p => p.leader == id) = false := any_no h hni
    (refine aEnR (aRes [] fun K hK => ?_); simp (maxSteps := 10000000) (disch := first | omega | simp) [e]; refine hK _ ?_ (by simp); simp (maxSteps := 10000000) (disch := first | omega | simp) [e])
theorem used_ok (m : Image) (id : Int) : ACall pg 67 [encM m, I id] (B (m.any fun p => p.ids.contains id)) := by
  refine s67.call mo (by simp) fun hxs => ?_
  have hlen := okLen (l := m.topics.map encT) (by simpa using hxs.1.2.1)
  simp at hlen
  have hpl : ∀ t ∈ m.topics, t.parts.length ≤ 9223372036854775807 := by
    intro t ht
    have h1 := hxs.1.2.1
    have h2 := okL_iff.1 h1.2 (encT t) (List.mem_map.2 ⟨t, ht, rfl⟩)
    have := okLen (l := t.parts.map encP) (by simpa using h2.2.2.1)
    simpa using this
  clear hxs
  unfold c67
  repeat' first | (with_reducible first | refine thN ?_ | refine thR ?_ | refine thE ?_ | refine inN ?_ | refine inR ?_ | refine inH ?_ | refine fS ?_ | refine fR ?_ | refine fQ ?_ | refine fE ?_ | refine fT ?_ | refine awBlock ?_ | refine awExit ?_ | refine awRet ?_ | refine awSkip ?_) | ((with_reducible refine awReg fun K hok hK => ?_); clear hok; (try simp (maxSteps := 10000000) (disch := first | omega | simp) []); (repeat' first | (with_reducible refine hK _ (by simp) ?_)) <;> clear hK K) | ((with_reducible refine awCond fun A B hA hB => ?_); simp (maxSteps := 10000000) (disch := first | omega | simp) []; (first | refine ⟨fun h => hA ?_, fun h => hB ?_⟩ | refine hA ?_ | refine hB ?_) <;> (clear hA hB A B; (try (exfalso; omega))))
  refine awLoop (fun k Γ => ∃ i, i ≤ m.topics.length ∧ k = m.topics.length - i ∧ (∀ t ∈ m.topics.take i, (t.any fun p => p.ids.contains id) = false) ∧ Γ = ofA [(5, .p (I i)), (2, .p (.own (encM m).cells)), (1, .p (I id))]) _ _ (Wk.ofA ?_) ⟨0, by simp, rfl, by simp, rfl⟩ ?_
  · simp
  rintro _ _ ⟨i, hi, rfl, hni, rfl⟩
  repeat' first | (with_reducible first | refine thN ?_ | refine thR ?_ | refine thE ?_ | refine inN ?_ | refine inR ?_ | refine inH ?_ | refine fS ?_ | refine fR ?_ | refine fQ ?_ | refine fE ?_ | refine fT ?_ | refine awBlock ?_ | refine awExit ?_ | refine awRet ?_ | refine awSkip ?_) | ((with_reducible refine awReg fun K hok hK => ?_); clear hok; (try simp (maxSteps := 10000000) (disch := first | omega | simp) []); (repeat' first | (with_reducible refine hK _ (by simp) ?_)) <;> clear hK K) | ((with_reducible refine awCond fun A B hA hB => ?_); simp (maxSteps := 10000000) (disch := first | omega | simp) []; (first | refine ⟨fun h => hA ?_, fun h => hB ?_⟩ | refine hA ?_ | refine hB ?_) <;> (clear hA hB A B; (try (exfalso; omega))))
  · have hi2 : i < m.topics.length := by assumption
    have hpl := hpl m.topics[i] (List.getElem_mem hi2)
    refine awLoop (fun k Γ => ∃ j, j ≤ m.topics[i].parts.length ∧ k = m.topics[i].parts.length - j ∧ (∀ p ∈ m.topics[i].parts.take j, (p.ids.contains id) = false) ∧ Γ = ofA [(6, .p (I j)), (5, .p (I i)), (2, .p (.own (encM m).cells)), (1, .p (I id))]) _ _ (Wk.ofA ?_) ⟨0, by simp, rfl, by simp, rfl⟩ ?_
    · simp
    rintro _ _ ⟨j, hj, rfl, hnj, rfl⟩
    repeat' first | (with_reducible first | refine thN ?_ | refine thR ?_ | refine thE ?_ | refine inN ?_ | refine inR ?_ | refine inH ?_ | refine fS ?_ | refine fR ?_ | refine fQ ?_ | refine fE ?_ | refine fT ?_ | refine awBlock ?_ | refine awExit ?_ | refine awRet ?_ | refine awSkip ?_) | ((with_reducible refine awReg fun K hok hK => ?_); clear hok; (try simp (maxSteps := 10000000) (disch := first | omega | simp) []); (repeat' first | (with_reducible refine hK _ (by simp) ?_) | ((with_reducible refine callS' fun K2 hK2 => ?_); (try simp (maxSteps := 10000000) (disch := first | omega | simp) []); (refine hK2 _ _ (has_ok _ _) rfl fun hk9 => ?_); clear hk9; clear hK2 K2; (try simp (maxSteps := 10000000) (disch := first | omega | simp) []))) <;> clear hK K) | ((with_reducible refine awCond fun A B hA hB => ?_); simp (maxSteps := 10000000) (disch := first | omega | simp) []; (first | refine ⟨fun h => hA ?_, fun h => hB ?_⟩ | refine hA ?_ | refine hB ?_) <;> (clear hA hB A B; (try (exfalso; omega))))
    · have e : (m.any fun p => p.ids.contains id) = true := any_at hi2 (any_at (by assumption) (by simpa using h))
      ((refine aEnR (aRes [] fun K hK => ?_); simp (maxSteps := 10000000) (disch := first | omega | simp) [e]; refine hK _ ?_ (by simp); simp (maxSteps := 10000000) (disch := first | omega | simp) [e]); simpa using e)
    · refine ⟨_, _, ?_, Wk.ofA ?_, j + 1, by omega, rfl, all_take (by assumption) hnj (by simpa using h), rfl⟩
      · omega
      · simp
    · refine ⟨_, _, ?_, Wk.ofA ?_, i + 1, by omega, rfl, all_take hi2 hni (any_no h hnj), rfl⟩
      · omega
      · simp
  · have e : (m.any fun p => p.ids.contains id) = false := any_no h hni
    ((refine aEnR (aRes [] fun K hK => ?_); simp (maxSteps := 10000000) (disch := first | omega | simp) [e]; refine hK _ ?_ (by simp); simp (maxSteps := 10000000) (disch := first | omega | simp) [e]); simpa using e)
end
end Go.Am
end
section
set_option maxRecDepth 100000
set_option maxHeartbeats 0
namespace Go.Am
open Go
noncomputable section
def c66 : SC := (.seq (.reg [⟨some 3, .box 84 (.tmp 1), none, []⟩,
  ⟨some 4, .assign (.const (.slice none 0 0)), none, []⟩] [0, 3, 29, 44, 50]) (.seq (.reg [⟨some 5, .assign (.const (.slice none 0 0)), none, []⟩] [0, 3, 5, 29, 44, 50]) (.seq (.reg [⟨some 6, .assign (.const (.bool false)), none, []⟩] [0, 3, 5, 6, 29, 44, 50]) (.seq (.reg [⟨some 7, .assign (.const (.int .i64 0)), none, []⟩] [0, 3, 5, 6, 7, 13, 29, 44, 50]) (.seq (.block 0 (.seq (.loop (.seq (.reg [⟨some 8, .move (.tmp 7), none, []⟩,
  ⟨some 9, .move (.tmp 0), none, []⟩,
  ⟨some 10, .call { callee := .builtin .len, args := #[.tmp 9], argTypes := #[31] }, none, []⟩,
  ⟨some 11, .binOp .lss 3 (.tmp 8) (.tmp 10) 3, none, []⟩] [0, 3, 5, 6, 7, 11, 13, 29, 44, 50]) (.seq (.cond (.tmp 11) .skip (.exit 0)) (.seq (.block 1 (.seq (.reg [⟨some 14, .move (.tmp 6), none, []⟩,
  ⟨some 15, .unOp .not 4 (.tmp 14), none, []⟩,
  ⟨some 16, .move (.tmp 15), none, []⟩,
  ⟨some 17, .move (.tmp 0), (some (16, true)), [18, 22, 23]⟩,
  ⟨some 18, .move (.tmp 7), (some (16, true)), [17, 22, 23]⟩,
  ⟨some 19, .indexAddr 31 (.tmp 17) (.tmp 18), (some (16, true)), [22, 23]⟩,
  ⟨some 20, .fieldAddr 84 (.tmp 19) 0, (some (16, true)), [22, 23]⟩,
  ⟨some 21, .load 3 (.tmp 20), (some (16, true)), [22, 23]⟩,
  ⟨some 22, .fieldAddr 84 (.tmp 3) 0, (some (16, true)), [17, 18, 19, 20, 21]⟩,
  ⟨some 23, .load 3 (.tmp 22), (some (16, true)), [17, 18, 19, 20, 21]⟩,
  ⟨some 24, .binOp .geq 3 (.tmp 21) (.tmp 23) 3, (some (16, true)), []⟩,
  ⟨some 25, .pick (.tmp 16) (.tmp 24) (.const (.bool false)), none, []⟩] [0, 3, 5, 6, 7, 13, 15, 16, 24, 25, 29, 44, 50]) (.seq (.cond (.tmp 25) (.seq (.reg [⟨some 26, .move (.tmp 5), none, []⟩,
  ⟨some 27, .load 84 (.tmp 3), none, []⟩,
  ⟨some 28, .buildSlice 31 1 #[(0, .tmp 27)], none, []⟩,
  ⟨some 29, .call { callee := .builtin .append, args := #[.tmp 26, .tmp 28], argTypes := #[31, 31] }, none, []⟩,
  ⟨some 5, .assign (.tmp 29), none, []⟩] [0, 3, 5, 7, 13, 29, 44, 50]) (.seq (.reg [⟨some 6, .assign (.const (.bool true)), none, []⟩] [0, 3, 5, 6, 7, 13, 29, 44, 50]) .skip)) .skip) (.seq (.reg [⟨some 30, .move (.tmp 0), none, [31, 35, 36]⟩,
  ⟨some 31, .move (.tmp 7), none, [30, 35, 36]⟩,
  ⟨some 32, .indexAddr 31 (.tmp 30) (.tmp 31), none, [35, 36]⟩,
  ⟨some 33, .fieldAddr 84 (.tmp 32) 0, none, [35, 36]⟩,
  ⟨some 34, .load 3 (.tmp 33), none, [35, 36]⟩,
  ⟨some 35, .fieldAddr 84 (.tmp 3) 0, none, [30, 31, 32, 33, 34]⟩,
  ⟨some 36, .load 3 (.tmp 35), none, [30, 31, 32, 33, 34]⟩,
  ⟨some 37, .binOp .neq 3 (.tmp 34) (.tmp 36) 3, none, []⟩] [0, 3, 5, 6, 7, 13, 29, 37, 44, 50]) (.seq (.cond (.tmp 37) (.seq (.reg [⟨some 38, .move (.tmp 5), none, []⟩,
  ⟨some 39, .move (.tmp 0), none, []⟩,
  ⟨some 40, .move (.tmp 7), none, []⟩,
  ⟨some 41, .indexAddr 31 (.tmp 39) (.tmp 40), none, []⟩,
  ⟨some 42, .load 84 (.tmp 41), none, []⟩,
  ⟨some 43, .buildSlice 31 1 #[(0, .tmp 42)], none, []⟩,
  ⟨some 44, .call { callee := .builtin .append, args := #[.tmp 38, .tmp 43], argTypes := #[31, 31] }, none, []⟩,
  ⟨some 5, .assign (.tmp 44), none, []⟩] [0, 3, 5, 6, 7, 13, 29, 44, 50]) .skip) .skip) .skip))))) (.seq (.reg [⟨some 12, .move (.tmp 7), none, []⟩,
  ⟨some 13, .binOp .add 3 (.tmp 12) (.const (.int .i64 1)) 3, none, []⟩,
  ⟨some 7, .assign (.tmp 13), none, []⟩] [0, 3, 5, 6, 7, 13, 29, 44, 50]) .skip))))) .skip)) (.seq (.reg [⟨some 45, .move (.tmp 6), none, []⟩,
  ⟨some 46, .unOp .not 4 (.tmp 45), none, []⟩] [3, 5, 29, 44, 46, 50]) (.seq (.cond (.tmp 46) (.seq (.reg [⟨some 47, .move (.tmp 5), none, []⟩,
  ⟨some 48, .load 84 (.tmp 3), none, []⟩,
  ⟨some 49, .buildSlice 31 1 #[(0, .tmp 48)], none, []⟩,
  ⟨some 50, .call { callee := .builtin .append, args := #[.tmp 47, .tmp 49], argTypes := #[31, 31] }, none, []⟩,
  ⟨some 5, .assign (.tmp 50), none, []⟩] [5, 29, 44, 50]) .skip) .skip) (.seq (.reg [⟨some 51, .move (.tmp 5), none, []⟩,
  ⟨some 4, .assign (.tmp 51), none, []⟩] [4, 5, 29, 44, 50, 51]) .ret))))))))
theorem s66 : TextK Proofs.Tryz.prog 0 66 52 [ResultVar.tmp 4] c66 := .mk' Proofs.Tryz.f66 _ (by kernel_rfl) rfl rfl rfl (by kernel_rfl) rfl (by kernel_rfl)
theorem putBroker_ok (l : List Broker) (b : Broker) (hl : l.length ≤ 1000) : ACall pg 66 [.sl (l.map encB), encB b] (.sl ((putB l b).map encB)) := by
  refine s66.call mo (by simp) fun hxs => ?_
  clear hxs
  unfold c66
  repeat' first | (with_reducible first | refine thN ?_ | refine thE ?_ | refine inN ?_ | refine inH ?_ | refine fS ?_ | refine fR ?_ | refine fQ ?_ | refine fE ?_ | refine awBlock ?_ | refine awExit ?_ | refine awRet ?_ | refine awSkip ?_) | ((with_reducible refine awReg fun K hok hK => ?_); clear hok; (try simp (maxSteps := 10000000) (disch := first | omega | simp) []); (repeat' first | (with_reducible refine hK _ (by simp) ?_) | ((with_reducible refine gdT (fun h => ?_) (fun h => ?_)) <;> (simp (maxSteps := 10000000) (disch := first | omega | simp) [h]; (try simp at h); (try (exfalso; omega)))) | ((first | ((with_reducible refine gdU ?_)) | ((with_reducible refine sideQ' ?_ ?_ fun K2 hK2 => ?_); exact rfl; exact rfl; (try simp (maxSteps := 10000000) (disch := first | omega | simp) []); with_reducible refine hK2 _ _ ?_; clear hK2 K2)); (try simp (maxSteps := 10000000) (disch := first | omega | simp) []))) <;> clear hK K) | ((with_reducible refine awCond fun A B hA hB => ?_); simp (maxSteps := 10000000) (disch := first | omega | simp) []; (first | refine ⟨fun h => hA ?_, fun h => hB ?_⟩ | refine hA ?_ | refine hB ?_) <;> (clear hA hB A B; (try (exfalso; omega))))
  refine awFor l.length (fun i (s : List Broker × Bool) => (l.drop i).foldl (putStep b) s = l.foldl (putStep b) ([], false) ∧ s.1.length ≤ 2 * i) (fun i s => [(7, .p (I i)), (6, .p (B s.2)), (5, .p (.uq (s.1.map encB))), (3, .p (.own (encB b).cells)), (0, .p (.sl (l.map encB)))]) ([], false) (Wk.ofA (by simp)) (by simp) fun i s hi hs => ?_
  obtain ⟨hs, hsl⟩ := hs
  repeat' first | (with_reducible first | refine thN ?_ | refine thE ?_ | refine inN ?_ | refine inH ?_ | refine fS ?_ | refine fR ?_ | refine fQ ?_ | refine fE ?_ | refine awBlock ?_ | refine awExit ?_ | refine awRet ?_ | refine awSkip ?_) | ((with_reducible refine awReg fun K hok hK => ?_); clear hok; (try simp (maxSteps := 10000000) (disch := first | omega | simp) []); (repeat' first | (with_reducible refine hK _ (by simp) ?_) | ((with_reducible refine gdT (fun h => ?_) (fun h => ?_)) <;> (simp (maxSteps := 10000000) (disch := first | omega | simp) [h]; (try simp at h); (try (exfalso; omega)))) | ((first | ((with_reducible refine gdU ?_)) | ((with_reducible refine sideQ' ?_ ?_ fun K2 hK2 => ?_); exact rfl; exact rfl; (try simp (maxSteps := 10000000) (disch := first | omega | simp) []); with_reducible refine hK2 _ _ ?_; clear hK2 K2)); (try simp (maxSteps := 10000000) (disch := first | omega | simp) []))) <;> clear hK K) | ((with_reducible refine awCond fun A B hA hB => ?_); simp (maxSteps := 10000000) (disch := first | omega | simp) []; (first | refine ⟨fun h => hA ?_, fun h => hB ?_⟩ | refine hA ?_ | refine hB ?_) <;> (clear hA hB A B; (try (exfalso; omega))))
  all_goals first
    | (rw [foldl_drop (by assumption)] at hs
       refine ⟨by assumption, putStep b s l[i], ⟨hs, ?_⟩, Wk.ofA ?_⟩
       · clear hs; simp only [putStep]; (repeat' split) <;> simp_all <;> omega
       · clear hs
         simp [putStep, *]
         try (have hn : ¬ b.id ≤ l[i].id := (by omega); simp [hn, *]))
    | (rw [drop_nil (by assumption)] at hs
       have e : putB l b = if s.2 then s.1 else s.1 ++ [b] := by simp only [putB, ← hs]; rfl
       (refine aEnR (aRes [true] fun K hK => ?_); simp (maxSteps := 10000000) (disch := first | omega | simp) [e]; refine hK _ ?_ (by simp); clear hK; first | done | (simp (maxSteps := 10000000) (disch := first | omega | simp) [e, *]; done) | (simp (maxSteps := 10000000) (disch := first | omega | simp) [e, *]; omega) | (simp_all [e]; done) | (simp_all [e]; omega)))
end
end Go.Am
end
