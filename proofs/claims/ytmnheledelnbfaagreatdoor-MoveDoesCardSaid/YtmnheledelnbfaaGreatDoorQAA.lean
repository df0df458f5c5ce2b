/- Part of the proof of a law of moving. -/
import Derived.Test.YtmnheledelnbfaaGreatDoorQData
set_option linter.all false
section
set_option maxRecDepth 100000
namespace Go.Am
open Go
noncomputable section
def c74 : SC := (.seq (.reg [oO 2 36 0,oA 4 123,oZ 5 false] [1,2,4]) (.seq (.reg [oI 6 0] [1,2,4,6,13]) (.seq (.block 0 (.seq (.loop (.seq (.reg [oM 7 6,oF 8 36 2 0,oL 9 31 8,oN 10 9 31,oB 11 .lss 3 7 10 3] [1,2,4,6,11,13]) (.seq (.cond (.tmp 11) .skip (.exit 0)) (.seq (.block 1 (.seq (.reg [oF 14 36 2 0,oL 15 31 14,oM 16 6,oJ 17 31 15 16,oF 18 123 17 0,oL 19 3 18,oM 20 1,oB 21 .eql 3 19 20 3] [1,2,4,6,13,21]) (.seq (.cond (.tmp 21) (.seq (.reg [oF 22 36 2 0,oL 23 31 22,oM 24 6,oJ 25 31 23 24,oL 26 123 25,oS 123 4 26,oZ 5 true] [4,5]) .ret) .skip) .skip))) (.seq (.reg [oM 12 6,oK 13 .add 3 12 1 3,oG 6 13] [1,2,4,6,13]) .skip))))) .skip)) (.seq (.reg [oD 27 (.build 123 #[]),oS 123 4 27,oZ 5 false] [4,5]) .ret))))
theorem s74 : TextK Proofs.Tryz.prog 0 74 28 [ResultVar.cell 4 123, ResultVar.tmp 5] c74 := .mk' Proofs.Tryz.f74 _ (by kernel_rfl) rfl rfl rfl (by kernel_rfl) rfl (by kernel_rfl)
theorem broker_ok (m : Image) (id : Int) : ACall pg 74 [encM m, I id] (.tup [encB ((m.broker id).getD zB), B (m.broker id).isSome]) := by
  refine s74.call mo (by simp) fun hxs => ?_
  have hlen := okLen (l := m.brokers.map encB) (by simpa using hxs.1.1)
  simp at hlen
  clear hxs
  unfold c74; dsimp only [oA, oB, oD, oF, oG, oI, oJ, oK, oL, oM, oN, oO, oS, oZ]
  repeat' first | (with_reducible first | refine thN ?_ | refine thR ?_ | refine thE ?_ | refine inN ?_ | refine inR ?_ | refine inH ?_ | refine fS ?_ | refine fR ?_ | refine fQ ?_ | refine fE ?_ | refine fT ?_ | refine awBlock ?_ | refine awExit ?_ | refine awRet ?_ | refine awSkip ?_) | ((with_reducible refine awReg fun K hok hK => ?_); clear hok; (try simp (maxSteps := 10000000) (disch := first | omega | simp) []); (repeat' first | (with_reducible refine hK _ (by simp) ?_)) <;> clear hK K) | ((with_reducible refine awCond fun A B hA hB => ?_); simp (maxSteps := 10000000) (disch := first | omega | simp) []; (first | refine ⟨fun h => hA ?_, fun h => hB ?_⟩ | refine hA ?_ | refine hB ?_) <;> (clear hA hB A B; (try (exfalso; omega))))
  refine awLoop (fun k Γ => ∃ i, i ≤ m.brokers.length ∧ k = m.brokers.length - i ∧ (∀ b ∈ m.brokers.take i, (b.id == id) = false) ∧ Γ = ofA [(6, .p (I i)), (4, .p (.own [I 0, I 0, St ⟨#[]⟩, B false, B false])), (2, .p (.own (encM m).cells)), (1, .p (I id))]) _ _ (Wk.ofA ?_) ⟨0, by simp, rfl, by simp, rfl⟩ ?_
  · simp
  rintro _ _ ⟨i, hi, rfl, hni, rfl⟩
  repeat' first | (with_reducible first | refine thN ?_ | refine thR ?_ | refine thE ?_ | refine inN ?_ | refine inR ?_ | refine inH ?_ | refine fS ?_ | refine fR ?_ | refine fQ ?_ | refine fE ?_ | refine fT ?_ | refine awBlock ?_ | refine awExit ?_ | refine awRet ?_ | refine awSkip ?_) | ((with_reducible refine awReg fun K hok hK => ?_); clear hok; (try simp (maxSteps := 10000000) (disch := first | omega | simp) []); (repeat' first | (with_reducible refine hK _ (by simp) ?_)) <;> clear hK K) | ((with_reducible refine awCond fun A B hA hB => ?_); simp (maxSteps := 10000000) (disch := first | omega | simp) []; (first | refine ⟨fun h => hA ?_, fun h => hB ?_⟩ | refine hA ?_ | refine hB ?_) <;> (clear hA hB A B; (try (exfalso; omega))))
  · rw [show m.broker id = some m.brokers[i] from find_at (by assumption) hni (by simpa using ‹_›)]
    (refine aEnR (aRes [] fun K hK => ?_); simp (maxSteps := 10000000) (disch := first | omega | simp) []; refine hK _ ?_ (by simp); simp (maxSteps := 10000000) (disch := first | omega | simp) [])
  · refine ⟨_, _, ?_, Wk.ofA ?_, i + 1, by omega, rfl, all_take (by assumption) hni (by simpa using ‹_›), rfl⟩
    · omega
    · simp
  · rw [show m.broker id = none from find_no (by assumption) hni]
    (refine aEnR (aRes [] fun K hK => ?_); simp (maxSteps := 10000000) (disch := first | omega | simp) [zB]; refine hK _ ?_ (by simp); simp (maxSteps := 10000000) (disch := first | omega | simp) [zB])
end
end Go.Am
end
section
set_option maxRecDepth 100000
namespace Go.Am
open Go
noncomputable section
def c54 : SC := (.seq (.reg [oO 2 36 0,oA 4 51,oZ 5 false] [1,2,4]) (.seq (.reg [oI 6 0] [1,2,4,6,13]) (.seq (.block 0 (.seq (.loop (.seq (.reg [oM 7 6,oF 8 36 2 1,oL 9 32 8,oN 10 9 32,oB 11 .lss 3 7 10 3] [1,2,4,6,11,13]) (.seq (.cond (.tmp 11) .skip (.exit 0)) (.seq (.block 1 (.seq (.reg [oF 14 36 2 1,oL 15 32 14,oM 16 6,oJ 17 32 15 16,oF 18 51 17 0,oL 19 3 18,oM 20 1,oB 21 .eql 3 19 20 3] [1,2,4,6,13,21]) (.seq (.cond (.tmp 21) (.seq (.reg [oF 22 36 2 1,oL 23 32 22,oM 24 6,oJ 25 32 23 24,oL 26 51 25,oS 51 4 26,oZ 5 true] [4,5]) .ret) .skip) .skip))) (.seq (.reg [oM 12 6,oK 13 .add 3 12 1 3,oG 6 13] [1,2,4,6,13]) .skip))))) .skip)) (.seq (.reg [oD 27 (.build 51 #[]),oS 51 4 27,oZ 5 false] [4,5]) .ret))))
theorem s54 : TextK Proofs.Tryz.prog 0 54 28 [ResultVar.cell 4 51, ResultVar.tmp 5] c54 := .mk' Proofs.Tryz.f54 _ (by kernel_rfl) rfl rfl rfl (by kernel_rfl) rfl (by kernel_rfl)
def c65 : SC := (.seq (.reg [oO 2 36 0,oA 4 51,oZ 5 false] [1,2,4]) (.seq (.reg [oI 6 0] [1,2,4,6,13]) (.seq (.block 0 (.seq (.loop (.seq (.reg [oM 7 6,oF 8 36 2 1,oL 9 32 8,oN 10 9 32,oB 11 .lss 3 7 10 3] [1,2,4,6,11,13]) (.seq (.cond (.tmp 11) .skip (.exit 0)) (.seq (.block 1 (.seq (.reg [oF 14 36 2 1,oL 15 32 14,oM 16 6,oJ 17 32 15 16,oF 18 51 17 1,oL 19 9 18,oM 20 1,oB 21 .eql 9 19 20 9] [1,2,4,6,13,21]) (.seq (.cond (.tmp 21) (.seq (.reg [oF 22 36 2 1,oL 23 32 22,oM 24 6,oJ 25 32 23 24,oL 26 51 25,oS 51 4 26,oZ 5 true] [4,5]) .ret) .skip) .skip))) (.seq (.reg [oM 12 6,oK 13 .add 3 12 1 3,oG 6 13] [1,2,4,6,13]) .skip))))) .skip)) (.seq (.reg [oD 27 (.build 51 #[]),oS 51 4 27,oZ 5 false] [4,5]) .ret))))
theorem s65 : TextK Proofs.Tryz.prog 0 65 28 [ResultVar.cell 4 51, ResultVar.tmp 5] c65 := .mk' Proofs.Tryz.f65 _ (by kernel_rfl) rfl rfl rfl (by kernel_rfl) rfl (by kernel_rfl)
theorem topic_ok (m : Image) (id : Int) : ACall pg 54 [encM m, I id] (.tup [encT ((m.topic id).getD zT), B (m.topic id).isSome]) := by
  refine s54.call mo (by simp) fun hxs => ?_
  have hlen := okLen (l := m.topics.map encT) (by simpa using hxs.1.2.1)
  simp at hlen
  clear hxs
  unfold c54; dsimp only [oA, oB, oD, oF, oG, oI, oJ, oK, oL, oM, oN, oO, oS, oZ]
  repeat' first | (with_reducible first | refine thN ?_ | refine thR ?_ | refine thE ?_ | refine inN ?_ | refine inR ?_ | refine inH ?_ | refine fS ?_ | refine fR ?_ | refine fQ ?_ | refine fE ?_ | refine fT ?_ | refine awBlock ?_ | refine awExit ?_ | refine awRet ?_ | refine awSkip ?_) | ((with_reducible refine awReg fun K hok hK => ?_); clear hok; (try simp (maxSteps := 10000000) (disch := first | omega | simp) []); (repeat' first | (with_reducible refine hK _ (by simp) ?_)) <;> clear hK K) | ((with_reducible refine awCond fun A B hA hB => ?_); simp (maxSteps := 10000000) (disch := first | omega | simp) []; (first | refine ⟨fun h => hA ?_, fun h => hB ?_⟩ | refine hA ?_ | refine hB ?_) <;> (clear hA hB A B; (try (exfalso; omega))))
  refine awLoop (fun k Γ => ∃ i, i ≤ m.topics.length ∧ k = m.topics.length - i ∧ (∀ t ∈ m.topics.take i, (t.id == id) = false) ∧ Γ = ofA [(6, .p (I i)), (4, .p (.own [I 0, St ⟨#[]⟩, .uq []])), (2, .p (.own (encM m).cells)), (1, .p (I id))]) _ _ (Wk.ofA ?_) ⟨0, by simp, rfl, by simp, rfl⟩ ?_
  · simp
  rintro _ _ ⟨i, hi, rfl, hni, rfl⟩
  repeat' first | (with_reducible first | refine thN ?_ | refine thR ?_ | refine thE ?_ | refine inN ?_ | refine inR ?_ | refine inH ?_ | refine fS ?_ | refine fR ?_ | refine fQ ?_ | refine fE ?_ | refine fT ?_ | refine awBlock ?_ | refine awExit ?_ | refine awRet ?_ | refine awSkip ?_) | ((with_reducible refine awReg fun K hok hK => ?_); clear hok; (try simp (maxSteps := 10000000) (disch := first | omega | simp) []); (repeat' first | (with_reducible refine hK _ (by simp) ?_)) <;> clear hK K) | ((with_reducible refine awCond fun A B hA hB => ?_); simp (maxSteps := 10000000) (disch := first | omega | simp) []; (first | refine ⟨fun h => hA ?_, fun h => hB ?_⟩ | refine hA ?_ | refine hB ?_) <;> (clear hA hB A B; (try (exfalso; omega))))
  · rw [show m.topic id = some m.topics[i] from find_at (by assumption) hni (by simpa using ‹_›)]
    (refine aEnR (aRes [] fun K hK => ?_); simp (maxSteps := 10000000) (disch := first | omega | simp) []; refine hK _ ?_ (by simp); simp (maxSteps := 10000000) (disch := first | omega | simp) [])
  · refine ⟨_, _, ?_, Wk.ofA ?_, i + 1, by omega, rfl, all_take (by assumption) hni (by simpa using ‹_›), rfl⟩
    · omega
    · simp
  · rw [show m.topic id = none from find_no (by assumption) hni]
    (refine aEnR (aRes [] fun K hK => ?_); simp (maxSteps := 10000000) (disch := first | omega | simp) [zT]; refine hK _ ?_ (by simp); simp (maxSteps := 10000000) (disch := first | omega | simp) [zT])
theorem named_ok (m : Image) (s : ByteArray) : ACall pg 65 [encM m, St s] (.tup [encT ((m.named s).getD zT), B (m.named s).isSome]) := by
  refine s65.call mo (by simp) fun hxs => ?_
  have hlen := okLen (l := m.topics.map encT) (by simpa using hxs.1.2.1)
  simp at hlen
  clear hxs
  unfold c65; dsimp only [oA, oB, oD, oF, oG, oI, oJ, oK, oL, oM, oN, oO, oS, oZ]
  repeat' first | (with_reducible first | refine thN ?_ | refine thR ?_ | refine thE ?_ | refine inN ?_ | refine inR ?_ | refine inH ?_ | refine fS ?_ | refine fR ?_ | refine fQ ?_ | refine fE ?_ | refine fT ?_ | refine awBlock ?_ | refine awExit ?_ | refine awRet ?_ | refine awSkip ?_) | ((with_reducible refine awReg fun K hok hK => ?_); clear hok; (try simp (maxSteps := 10000000) (disch := first | omega | simp) []); (repeat' first | (with_reducible refine hK _ (by simp) ?_)) <;> clear hK K) | ((with_reducible refine awCond fun A B hA hB => ?_); simp (maxSteps := 10000000) (disch := first | omega | simp) []; (first | refine ⟨fun h => hA ?_, fun h => hB ?_⟩ | refine hA ?_ | refine hB ?_) <;> (clear hA hB A B; (try (exfalso; omega))))
  refine awLoop (fun k Γ => ∃ i, i ≤ m.topics.length ∧ k = m.topics.length - i ∧ (∀ t ∈ m.topics.take i, (t.name.toList == s.toList) = false) ∧ Γ = ofA [(6, .p (I i)), (4, .p (.own [I 0, St ⟨#[]⟩, .uq []])), (2, .p (.own (encM m).cells)), (1, .p (St s))]) _ _ (Wk.ofA ?_) ⟨0, by simp, rfl, by simp, rfl⟩ ?_
  · simp
  rintro _ _ ⟨i, hi, rfl, hni, rfl⟩
  repeat' first | (with_reducible first | refine thN ?_ | refine thR ?_ | refine thE ?_ | refine inN ?_ | refine inR ?_ | refine inH ?_ | refine fS ?_ | refine fR ?_ | refine fQ ?_ | refine fE ?_ | refine fT ?_ | refine awBlock ?_ | refine awExit ?_ | refine awRet ?_ | refine awSkip ?_) | ((with_reducible refine awReg fun K hok hK => ?_); clear hok; (try simp (maxSteps := 10000000) (disch := first | omega | simp) []); (repeat' first | (with_reducible refine hK _ (by simp) ?_)) <;> clear hK K) | ((with_reducible refine awCond fun A B hA hB => ?_); simp (maxSteps := 10000000) (disch := first | omega | simp) []; (first | refine ⟨fun h => hA ?_, fun h => hB ?_⟩ | refine hA ?_ | refine hB ?_) <;> (clear hA hB A B; (try (exfalso; omega))))
  · rw [show m.named s = some m.topics[i] from find_at (by assumption) hni (by simpa using ‹_›)]
    (refine aEnR (aRes [] fun K hK => ?_); simp (maxSteps := 10000000) (disch := first | omega | simp) []; refine hK _ ?_ (by simp); simp (maxSteps := 10000000) (disch := first | omega | simp) [])
  · refine ⟨_, _, ?_, Wk.ofA ?_, i + 1, by omega, rfl, all_take (by assumption) hni (by simpa using ‹_›), rfl⟩
    · omega
    · simp
  · rw [show m.named s = none from find_no (by assumption) hni]
    (refine aEnR (aRes [] fun K hK => ?_); simp (maxSteps := 10000000) (disch := first | omega | simp) [zT]; refine hK _ ?_ (by simp); simp (maxSteps := 10000000) (disch := first | omega | simp) [zT])
end
end Go.Am
end
section
set_option maxRecDepth 100000
set_option maxHeartbeats 0
namespace Go.Am
open Go
noncomputable section
def c89 : SC := (.seq (.reg [oO 3 36 0,oD 6 (.assign (.const (.string ⟨#[]⟩))),oZ 7 false] [1,2,3,8,15,34,35,36,37,38,39]) (.seq (.reg [oI 8 0] [1,2,3,8,15,34,35,36,37,38,39]) (.seq (.block 0 (.seq (.loop (.seq (.reg [oM 9 8,oF 10 36 3 2,oL 11 33 10,oN 12 11 33,oB 13 .lss 3 9 12 3] [1,2,3,8,13,15,34,35,36,37,38,39]) (.seq (.cond (.tmp 13) .skip (.exit 0)) (.seq (.block 1 (.seq (.reg [oF 16 36 3 2,oL 17 33 16,oM 18 8,oJ 19 33 17 18,oF 20 138 19 0,oL 21 3 20,oM 22 1,oB 23 .eql 3 21 22 3,oM 24 23,oW 24 true (oF 25 36 3 2),oW 24 true (oL 26 33 25),oW 24 true (oM 27 8),oW 24 true (oJ 28 33 26 27),oW 24 true (oF 29 138 28 1),oW 24 true (oL 30 9 29),oW 24 true (oM 31 2),oW 24 true (oB 32 .eql 9 30 31 9),oQ 33 24 32 false] [1,2,3,8,15,23,24,32,33,34,35,36,37,38,39]) (.seq (.cond (.tmp 33) (.seq (.reg [oF 34 36 3 2,oL 35 33 34,oM 36 8,oJ 37 33 35 36,oF 38 138 37 2,oL 39 9 38,oG 6 39,oZ 7 true] [3,6,7,8,15,34,35,36,37,38,39]) .ret) .skip) .skip))) (.seq (.reg [oM 14 8,oK 15 .add 3 14 1 3,oG 8 15] [1,2,3,8,15,34,35,36,37,38,39]) .skip))))) .skip)) (.seq (.reg [oD 6 (.assign (.const (.string ⟨#[]⟩))),oZ 7 false] [3,6,7,8,15,34,35,36,37,38,39]) .ret))))
theorem s89 : TextK Proofs.Tryz.prog 0 89 40 [ResultVar.tmp 6, ResultVar.tmp 7] c89 := .mk' Proofs.Tryz.f89 _ (by kernel_rfl) rfl rfl rfl (by kernel_rfl) rfl (by kernel_rfl)
def c90 : SC := (.seq (.reg [oO 3 36 0,oI 6 0,oZ 7 false] [1,2,3,8,15,34,35,36,37,38,39]) (.seq (.reg [oI 8 0] [1,2,3,8,15,34,35,36,37,38,39]) (.seq (.block 0 (.seq (.loop (.seq (.reg [oM 9 8,oF 10 36 3 3,oL 11 34 10,oN 12 11 34,oB 13 .lss 3 9 12 3] [1,2,3,8,13,15,34,35,36,37,38,39]) (.seq (.cond (.tmp 13) .skip (.exit 0)) (.seq (.block 1 (.seq (.reg [oF 16 36 3 3,oL 17 34 16,oM 18 8,oJ 19 34 17 18,oF 20 144 19 0,oL 21 3 20,oM 22 1,oB 23 .eql 3 21 22 3,oM 24 23,oW 24 true (oF 25 36 3 3),oW 24 true (oL 26 34 25),oW 24 true (oM 27 8),oW 24 true (oJ 28 34 26 27),oW 24 true (oF 29 144 28 1),oW 24 true (oL 30 3 29),oW 24 true (oM 31 2),oW 24 true (oB 32 .eql 3 30 31 3),oQ 33 24 32 false] [1,2,3,8,15,23,24,32,33,34,35,36,37,38,39]) (.seq (.cond (.tmp 33) (.seq (.reg [oF 34 36 3 3,oL 35 34 34,oM 36 8,oJ 37 34 35 36,oF 38 144 37 2,oL 39 3 38,oG 6 39,oZ 7 true] [3,6,7,8,15,34,35,36,37,38,39]) .ret) .skip) .skip))) (.seq (.reg [oM 14 8,oK 15 .add 3 14 1 3,oG 8 15] [1,2,3,8,15,34,35,36,37,38,39]) .skip))))) .skip)) (.seq (.reg [oI 6 0,oZ 7 false] [3,6,7,8,15,34,35,36,37,38,39]) .ret))))
theorem s90 : TextK Proofs.Tryz.prog 0 90 40 [ResultVar.tmp 6, ResultVar.tmp 7] c90 := .mk' Proofs.Tryz.f90 _ (by kernel_rfl) rfl rfl rfl (by kernel_rfl) rfl (by kernel_rfl)
theorem config_ok (m : Image) (t : Int) (k : ByteArray) : ACall pg 89 [encM m, I t, St k] (.tup [St (((m.config t k).map Config.value).getD ⟨#[]⟩), B (m.config t k).isSome]) := by
  refine s89.call mo (by simp) fun hxs => ?_
  have hlen := okLen (l := m.configs.map encC) (by simpa using hxs.1.2.2.1)
  simp at hlen
  clear hxs
  unfold c89; dsimp only [oB, oD, oF, oG, oI, oJ, oK, oL, oM, oN, oO, oQ, oW, oZ]
  repeat' first | (with_reducible first | refine thN ?_ | refine thR ?_ | refine thE ?_ | refine inN ?_ | refine inR ?_ | refine inH ?_ | refine fS ?_ | refine fR ?_ | refine fQ ?_ | refine fE ?_ | refine fT ?_ | refine awBlock ?_ | refine awExit ?_ | refine awRet ?_ | refine awSkip ?_) | ((with_reducible refine awReg fun K hok hK => ?_); clear hok; (try simp (maxSteps := 10000000) (disch := first | omega | simp) []); (repeat' first | (with_reducible refine hK _ (by simp) ?_) | ((with_reducible refine gdT (fun h => ?_) (fun h => ?_)) <;> (simp (maxSteps := 10000000) (disch := first | omega | simp) [h]; (try simp at h); (try (exfalso; omega))))) <;> clear hK K) | ((with_reducible refine awCond fun A B hA hB => ?_); simp (maxSteps := 10000000) (disch := first | omega | simp) []; (first | refine ⟨fun h => hA ?_, fun h => hB ?_⟩ | refine hA ?_ | refine hB ?_) <;> (clear hA hB A B; (try (exfalso; omega))))
  refine awLoop (fun n Γ => ∃ i, i ≤ m.configs.length ∧ n = m.configs.length - i ∧ (∀ c ∈ m.configs.take i, (c.topic == t && c.key.toList == k.toList) = false) ∧ Γ = ofA [(8, .p (I i)), (3, .p (.own (encM m).cells)), (1, .p (I t)), (2, .p (St k))]) _ _ (Wk.ofA ?_) ⟨0, by simp, rfl, by simp, rfl⟩ ?_
  · simp
  rintro _ _ ⟨i, hi, rfl, hni, rfl⟩
  repeat' first | (with_reducible first | refine thN ?_ | refine thR ?_ | refine thE ?_ | refine inN ?_ | refine inR ?_ | refine inH ?_ | refine fS ?_ | refine fR ?_ | refine fQ ?_ | refine fE ?_ | refine fT ?_ | refine awBlock ?_ | refine awExit ?_ | refine awRet ?_ | refine awSkip ?_) | ((with_reducible refine awReg fun K hok hK => ?_); clear hok; (try simp (maxSteps := 10000000) (disch := first | omega | simp) []); (repeat' first | (with_reducible refine hK _ (by simp) ?_) | ((with_reducible refine gdT (fun h => ?_) (fun h => ?_)) <;> (simp (maxSteps := 10000000) (disch := first | omega | simp) [h]; (try simp at h); (try (exfalso; omega))))) <;> clear hK K) | ((with_reducible refine awCond fun A B hA hB => ?_); simp (maxSteps := 10000000) (disch := first | omega | simp) []; (first | refine ⟨fun h => hA ?_, fun h => hB ?_⟩ | refine hA ?_ | refine hB ?_) <;> (clear hA hB A B; (try (exfalso; omega))))
  · rw [show m.config t k = some m.configs[i] from find_at (by assumption) hni (by simp_all)]
    (refine aEnR (aRes [] fun K hK => ?_); simp (maxSteps := 10000000) (disch := first | omega | simp) []; refine hK _ ?_ (by simp); simp (maxSteps := 10000000) (disch := first | omega | simp) [])
  · refine ⟨_, _, ?_, Wk.ofA ?_, i + 1, by omega, rfl, all_take (by assumption) hni (by simp_all), rfl⟩
    · omega
    · simp
  · refine ⟨_, _, ?_, Wk.ofA ?_, i + 1, by omega, rfl, all_take (by assumption) hni (by simp_all), rfl⟩
    · omega
    · simp
  · rw [show m.config t k = none from find_no (by assumption) hni]
    (refine aEnR (aRes [] fun K hK => ?_); simp (maxSteps := 10000000) (disch := first | omega | simp) []; refine hK _ ?_ (by simp); simp (maxSteps := 10000000) (disch := first | omega | simp) [])
theorem answered_ok (m : Image) (c s : Int) : ACall pg 90 [encM m, I c, I s] (.tup [I (((m.answered c s).map Done.code).getD 0), B (m.answered c s).isSome]) := by
  refine s90.call mo (by simp) fun hxs => ?_
  have hlen := okLen (l := m.done.map encD) (by simpa using hxs.1.2.2.2.1)
  simp at hlen
  clear hxs
  unfold c90; dsimp only [oB, oF, oG, oI, oJ, oK, oL, oM, oN, oO, oQ, oW, oZ]
  repeat' first | (with_reducible first | refine thN ?_ | refine thR ?_ | refine thE ?_ | refine inN ?_ | refine inR ?_ | refine inH ?_ | refine fS ?_ | refine fR ?_ | refine fQ ?_ | refine fE ?_ | refine fT ?_ | refine awBlock ?_ | refine awExit ?_ | refine awRet ?_ | refine awSkip ?_) | ((with_reducible refine awReg fun K hok hK => ?_); clear hok; (try simp (maxSteps := 10000000) (disch := first | omega | simp) []); (repeat' first | (with_reducible refine hK _ (by simp) ?_) | ((with_reducible refine gdT (fun h => ?_) (fun h => ?_)) <;> (simp (maxSteps := 10000000) (disch := first | omega | simp) [h]; (try simp at h); (try (exfalso; omega))))) <;> clear hK K) | ((with_reducible refine awCond fun A B hA hB => ?_); simp (maxSteps := 10000000) (disch := first | omega | simp) []; (first | refine ⟨fun h => hA ?_, fun h => hB ?_⟩ | refine hA ?_ | refine hB ?_) <;> (clear hA hB A B; (try (exfalso; omega))))
  refine awLoop (fun n Γ => ∃ i, i ≤ m.done.length ∧ n = m.done.length - i ∧ (∀ d ∈ m.done.take i, (d.client == c && d.serial == s) = false) ∧ Γ = ofA [(8, .p (I i)), (3, .p (.own (encM m).cells)), (1, .p (I c)), (2, .p (I s))]) _ _ (Wk.ofA ?_) ⟨0, by simp, rfl, by simp, rfl⟩ ?_
  · simp
  rintro _ _ ⟨i, hi, rfl, hni, rfl⟩
  repeat' first | (with_reducible first | refine thN ?_ | refine thR ?_ | refine thE ?_ | refine inN ?_ | refine inR ?_ | refine inH ?_ | refine fS ?_ | refine fR ?_ | refine fQ ?_ | refine fE ?_ | refine fT ?_ | refine awBlock ?_ | refine awExit ?_ | refine awRet ?_ | refine awSkip ?_) | ((with_reducible refine awReg fun K hok hK => ?_); clear hok; (try simp (maxSteps := 10000000) (disch := first | omega | simp) []); (repeat' first | (with_reducible refine hK _ (by simp) ?_) | ((with_reducible refine gdT (fun h => ?_) (fun h => ?_)) <;> (simp (maxSteps := 10000000) (disch := first | omega | simp) [h]; (try simp at h); (try (exfalso; omega))))) <;> clear hK K) | ((with_reducible refine awCond fun A B hA hB => ?_); simp (maxSteps := 10000000) (disch := first | omega | simp) []; (first | refine ⟨fun h => hA ?_, fun h => hB ?_⟩ | refine hA ?_ | refine hB ?_) <;> (clear hA hB A B; (try (exfalso; omega))))
  · rw [show m.answered c s = some m.done[i] from find_at (by assumption) hni (by simp_all)]
    (refine aEnR (aRes [] fun K hK => ?_); simp (maxSteps := 10000000) (disch := first | omega | simp) []; refine hK _ ?_ (by simp); simp (maxSteps := 10000000) (disch := first | omega | simp) [])
  · refine ⟨_, _, ?_, Wk.ofA ?_, i + 1, by omega, rfl, all_take (by assumption) hni (by simp_all), rfl⟩
    · omega
    · simp
  · refine ⟨_, _, ?_, Wk.ofA ?_, i + 1, by omega, rfl, all_take (by assumption) hni (by simp_all), rfl⟩
    · omega
    · simp
  · rw [show m.answered c s = none from find_no (by assumption) hni]
    (refine aEnR (aRes [] fun K hK => ?_); simp (maxSteps := 10000000) (disch := first | omega | simp) []; refine hK _ ?_ (by simp); simp (maxSteps := 10000000) (disch := first | omega | simp) [])
end
end Go.Am
end
section
set_option maxRecDepth 100000
set_option maxHeartbeats 0
namespace Go.Am
open Go
noncomputable section
def c100 : SC := (.seq (.reg [oO 2 36 0,oZ 4 false] [1,2]) (.seq (.reg [oL 8 36 2,oM 9 1,oC 10 74 #[.tmp 8,.tmp 9] #[36,3],oM 7 10,oX 11 7 0,oX 12 7 1,oA 5 123,oS 123 5 11,oG 6 12] [5,6,7,10,12]) (.seq (.reg [oM 13 6,oM 14 13,oW 14 true (oF 15 123 5 3),oW 14 true (oL 16 4 15),oW 14 true (oD 17 (.unOp .not 4 (.tmp 16))),oQ 18 14 17 false,oG 4 18] [4,6,7,10,12,13,14,17,18]) .ret)))
theorem s100 : TextK Proofs.Tryz.prog 0 100 19 [ResultVar.tmp 4] c100 := .mk' Proofs.Tryz.f100 _ (by kernel_rfl) rfl rfl rfl (by kernel_rfl) rfl (by kernel_rfl)
def c30 : SC := (.seq (.reg [oO 3 36 0,oA 6 53,oZ 7 false] [1,2,3,6]) (.seq (.reg [oL 11 36 3,oM 12 1,oC 13 54 #[.tmp 11,.tmp 12] #[36,3],oM 10 13,oX 14 10 0,oX 15 10 1,oA 8 51,oS 51 8 14,oG 9 15] [2,6,8,9,10,13,15]) (.seq (.reg [oM 16 9,oD 17 (.unOp .not 4 (.tmp 16)),oM 18 17,oW 18 false (oM 19 2),oW 18 false (oK 20 .lss 3 19 0 3),oR 21 18 true 20,oM 22 21,oW 22 false (oM 23 2),oW 22 false (oF 24 51 8 2),oW 22 false (oL 25 49 24),oW 22 false (oN 26 25 49),oW 22 false (oB 27 .geq 3 23 26 3),oR 28 22 true 27] [2,6,8,17,18,20,21,22,27,28]) (.seq (.cond (.tmp 28) (.seq (.reg [oD 29 (.build 53 #[]),oS 53 6 29,oZ 7 false] [6,7]) .ret) .skip) (.seq (.reg [oF 30 51 8 2,oL 31 49 30,oM 32 2,oJ 33 49 31 32,oL 34 53 33,oS 53 6 34,oZ 7 true] [6,7]) .ret)))))
theorem s30 : TextK Proofs.Tryz.prog 0 30 35 [ResultVar.cell 6 53, ResultVar.tmp 7] c30 := .mk' Proofs.Tryz.f30 _ (by kernel_rfl) rfl rfl rfl (by kernel_rfl) rfl (by kernel_rfl)
theorem alive_ok (m : Image) (id : Int) : ACall pg 100 [encM m, I id] (B (m.alive id)) := by
  refine s100.call mo (by simp) fun hxs => ?_
  clear hxs
  unfold c100; dsimp only [oA, oC, oD, oF, oG, oL, oM, oO, oQ, oS, oW, oX, oZ]
  repeat' first | (with_reducible first | refine awRet ?_) | ((with_reducible refine awReg fun K hok hK => ?_); clear hok; (try simp (maxSteps := 10000000) (disch := first | omega | simp) []); (repeat' first | (with_reducible refine hK _ (by simp) ?_) | ((with_reducible refine gdT (fun h => ?_) (fun h => ?_)) <;> (simp (maxSteps := 10000000) (disch := first | omega | simp) [h]; (try simp at h); (try (exfalso; omega)))) | ((with_reducible refine callS' fun K2 hK2 => ?_); (try simp (maxSteps := 10000000) (disch := first | omega | simp) []); (refine hK2 _ _ (broker_ok m id) rfl fun hk9 => ?_); clear hk9; clear hK2 K2; (try simp (maxSteps := 10000000) (disch := first | omega | simp) []))) <;> clear hK K) | ((with_reducible refine awCond fun A B hA hB => ?_); simp (maxSteps := 10000000) (disch := first | omega | simp) []; (first | refine ⟨fun h => hA ?_, fun h => hB ?_⟩ | refine hA ?_ | refine hB ?_) <;> (clear hA hB A B; (try (exfalso; omega))))
  all_goals ((refine aEnR (aRes [] fun K hK => ?_); simp (maxSteps := 10000000) (disch := first | omega | simp) []; refine hK _ ?_ (by simp); simp (maxSteps := 10000000) (disch := first | omega | simp) []); unfold Image.alive; cases hb : m.broker id <;> simp_all)
theorem part_ok (m : Image) (id n : Int) : ACall pg 30 [encM m, I id, I n] (.tup [encP ((m.part id n).getD zP), B (m.part id n).isSome]) := by
  refine s30.call mo (by simp) fun hxs => ?_
  clear hxs
  unfold c30; dsimp only [oA, oB, oC, oD, oF, oG, oJ, oK, oL, oM, oN, oO, oR, oS, oW, oX, oZ]
  cases ht : m.topic id with
  | none =>
    repeat' first | (with_reducible first | refine fS ?_ | refine fR ?_ | refine fQ ?_ | refine fT ?_ | refine awRet ?_) | ((with_reducible refine awReg fun K hok hK => ?_); clear hok; (try simp (maxSteps := 10000000) (disch := first | omega | simp) [ht, zT]); (repeat' first | (with_reducible refine hK _ (by simp) ?_) | ((with_reducible refine gdF (fun h => ?_) (fun h => ?_)) <;> (simp (maxSteps := 10000000) (disch := first | omega | simp) [h, ht, zT]; (try simp at h); (try (exfalso; omega)))) | ((with_reducible refine callF' fun K2 hK2 => ?_); (try simp (maxSteps := 10000000) (disch := first | omega | simp) [ht, zT]); (refine hK2 _ _ _ (topic_ok m id) fun _ => ?_); clear hK2 K2; (try simp (maxSteps := 10000000) (disch := first | omega | simp) [ht, zT]))) <;> clear hK K) | ((with_reducible refine awCond fun A B hA hB => ?_); simp (maxSteps := 10000000) (disch := first | omega | simp) [ht, zT]; (first | refine ⟨fun h => hA ?_, fun h => hB ?_⟩ | refine hA ?_ | refine hB ?_) <;> (clear hA hB A B; (try (exfalso; omega))))
    (refine aEnR (aRes [] fun K hK => ?_); simp (maxSteps := 10000000) (disch := first | omega | simp) [Image.part, ht, zP]; refine hK _ ?_ (by simp); simp (maxSteps := 10000000) (disch := first | omega | simp) [Image.part, ht, zP])
  | some t =>
    repeat' first | (with_reducible first | refine fS ?_ | refine fR ?_ | refine fQ ?_ | refine fT ?_ | refine awRet ?_) | ((with_reducible refine awReg fun K hok hK => ?_); clear hok; (try simp (maxSteps := 10000000) (disch := first | omega | simp) [ht, zT]); (repeat' first | (with_reducible refine hK _ (by simp) ?_) | ((with_reducible refine gdF (fun h => ?_) (fun h => ?_)) <;> (simp (maxSteps := 10000000) (disch := first | omega | simp) [h, ht, zT]; (try simp at h); (try (exfalso; omega)))) | ((with_reducible refine callF' fun K2 hK2 => ?_); (try simp (maxSteps := 10000000) (disch := first | omega | simp) [ht, zT]); (refine hK2 _ _ _ (topic_ok m id) fun _ => ?_); clear hK2 K2; (try simp (maxSteps := 10000000) (disch := first | omega | simp) [ht, zT]))) <;> clear hK K) | ((with_reducible refine awCond fun A B hA hB => ?_); simp (maxSteps := 10000000) (disch := first | omega | simp) [ht, zT]; (first | refine ⟨fun h => hA ?_, fun h => hB ?_⟩ | refine hA ?_ | refine hB ?_) <;> (clear hA hB A B; (try (exfalso; omega))))
    · have e : m.part id n = none := by
        simp only [Image.part, ht]; rw [if_neg (by omega)]; simp; try omega
      (refine aEnR (aRes [] fun K hK => ?_); simp (maxSteps := 10000000) (disch := first | omega | simp) [e, zP]; refine hK _ ?_ (by simp); simp (maxSteps := 10000000) (disch := first | omega | simp) [e, zP])
    · obtain ⟨k, rfl⟩ : ∃ k : Nat, n = k := ⟨n.toNat, by omega⟩
      have hk : k < t.parts.length := by omega
      have e : m.part id k = some t.parts[k] := by
        simp only [Image.part, ht]; rw [if_neg (by omega)]; simp [hk]
      repeat' first | (with_reducible first | refine fS ?_ | refine fR ?_ | refine fQ ?_ | refine fT ?_ | refine awRet ?_) | ((with_reducible refine awReg fun K hok hK => ?_); clear hok; (try simp (maxSteps := 10000000) (disch := first | omega | simp) []); (repeat' first | (with_reducible refine hK _ (by simp) ?_) | ((with_reducible refine gdF (fun h => ?_) (fun h => ?_)) <;> (simp (maxSteps := 10000000) (disch := first | omega | simp) [h]; (try simp at h); (try (exfalso; omega))))) <;> clear hK K) | ((with_reducible refine awCond fun A B hA hB => ?_); simp (maxSteps := 10000000) (disch := first | omega | simp) []; (first | refine ⟨fun h => hA ?_, fun h => hB ?_⟩ | refine hA ?_ | refine hB ?_) <;> (clear hA hB A B; (try (exfalso; omega))))
      (refine aEnR (aRes [] fun K hK => ?_); simp (maxSteps := 10000000) (disch := first | omega | simp) [e, zP]; refine hK _ ?_ (by simp); simp (maxSteps := 10000000) (disch := first | omega | simp) [e, zP])
    · have e : m.part id n = none := by
        simp only [Image.part, ht]; rw [if_pos (by omega)]
      (refine aEnR (aRes [] fun K hK => ?_); simp (maxSteps := 10000000) (disch := first | omega | simp) [e, zP]; refine hK _ ?_ (by simp); simp (maxSteps := 10000000) (disch := first | omega | simp) [e, zP])
end
end Go.Am
end
section
set_option maxRecDepth 100000
set_option maxHeartbeats 0
namespace Go.Am
open Go
noncomputable section
def c26 : SC := (.seq (.reg [oZ 4 false] [0,1]) (.seq (.reg [oM 6 0,oN 7 6 23,oM 8 1,oN 9 8 23,oB 10 .neq 3 7 9 3] [0,1,10]) (.seq (.cond (.tmp 10) (.seq (.reg [oZ 4 false] [4]) .ret) .skip) (.seq (.reg [oI 5 0] [0,1,5,16]) (.seq (.block 0 (.seq (.loop (.seq (.reg [oM 11 5,oM 12 0,oN 13 12 23,oB 14 .lss 3 11 13 3] [0,1,5,14,16]) (.seq (.cond (.tmp 14) .skip (.exit 0)) (.seq (.block 1 (.seq (.reg [oU (oM 17 0) [18,21,22,23,24],oU (oM 18 5) [17,21,22,23,24],oU (oJ 19 23 17 18) [21,22,23,24],oU (oL 20 3 19) [21,22,23,24],oU (oM 21 1) [17,18,19,20,22],oU (oM 22 5) [17,18,19,20,21],oU (oJ 23 23 21 22) [17,18,19,20],oU (oL 24 3 23) [17,18,19,20],oB 25 .neq 3 20 24 3] [0,1,5,16,25]) (.seq (.cond (.tmp 25) (.seq (.reg [oZ 4 false] [4]) .ret) .skip) .skip))) (.seq (.reg [oM 15 5,oK 16 .add 3 15 1 3,oG 5 16] [0,1,5,16]) .skip))))) .skip)) (.seq (.reg [oZ 4 true] [4]) .ret))))))
theorem s26 : TextK Proofs.Tryz.prog 0 26 26 [ResultVar.tmp 4] c26 := .mk' Proofs.Tryz.f26 _ (by kernel_rfl) rfl rfl rfl (by kernel_rfl) rfl (by kernel_rfl)
def c23 : SC := (.seq (.reg [oO 2 53 0,oO 3 53 1,oZ 4 false] [2,3,5,22,23,28,29,30,31,36,37,38,43,44]) (.seq (.reg [oF 6 53 2 2,oL 7 3 6,oF 8 53 3 2,oL 9 3 8,oB 10 .neq 3 7 9 3,oM 11 10,oW 11 false (oF 12 53 2 3),oW 11 false (oL 13 3 12),oW 11 false (oF 14 53 3 3),oW 11 false (oL 15 3 14),oW 11 false (oB 16 .neq 3 13 15 3),oR 17 11 true 16] [2,3,5,10,11,16,17,22,23,28,29,30,31,36,37,38,43,44]) (.seq (.cond (.tmp 17) (.seq (.reg [oZ 4 false] [4,5,22,23,28,29,30,31,36,37,38,43,44]) .ret) .skip) (.seq (.reg [oF 18 53 2 0,oL 19 23 18,oF 20 53 3 0,oL 21 23 20,oC 22 26 #[.tmp 19,.tmp 21] #[23,23],oM 23 22,oW 23 true (oF 24 53 2 1),oW 23 true (oL 25 23 24),oW 23 true (oF 26 53 3 1),oW 23 true (oL 27 23 26),oW 23 true (oC 28 26 #[.tmp 25,.tmp 27] #[23,23]),oQ 29 23 28 false,oG 5 29] [2,3,5,22,23,28,29]) (.seq (.reg [oM 30 5,oM 31 30,oW 31 true (oF 32 53 2 4),oW 31 true (oL 33 23 32),oW 31 true (oF 34 53 3 4),oW 31 true (oL 35 23 34),oW 31 true (oC 36 26 #[.tmp 33,.tmp 35] #[23,23]),oQ 37 31 36 false,oM 38 37,oW 38 true (oF 39 53 2 5),oW 38 true (oL 40 23 39),oW 38 true (oF 41 53 3 5),oW 38 true (oL 42 23 41),oW 38 true (oC 43 26 #[.tmp 40,.tmp 42] #[23,23]),oQ 44 38 43 false,oG 4 44] [4,5,22,23,28,29,30,31,36,37,38,43,44]) .ret)))))
theorem s23 : TextK Proofs.Tryz.prog 0 23 45 [ResultVar.tmp 4] c23 := .mk' Proofs.Tryz.f23 _ (by kernel_rfl) rfl rfl rfl (by kernel_rfl) rfl (by kernel_rfl)
theorem okLenI {l : List Int} (h : okV (Li l)) : l.length ≤ 9223372036854775807 := by have := okLen h; simpa using this
theorem ints_ok (a b : List Int) : ACall pg 26 [Li a, Li b] (B (a == b)) := by
  refine s26.call mo (by simp) fun hxs => ?_
  have hla := okLenI hxs.1
  have hlb := okLenI hxs.2.1
  clear hxs
  unfold c26; dsimp only [oB, oG, oI, oJ, oK, oL, oM, oN, oU, oZ]
  repeat' first | (with_reducible first | refine thN ?_ | refine thR ?_ | refine thE ?_ | refine inN ?_ | refine inR ?_ | refine inH ?_ | refine fS ?_ | refine fR ?_ | refine fQ ?_ | refine fE ?_ | refine fT ?_ | refine awBlock ?_ | refine awExit ?_ | refine awRet ?_ | refine awSkip ?_) | ((with_reducible refine awReg fun K hok hK => ?_); clear hok; (try simp (maxSteps := 10000000) (disch := first | omega | simp) []); (repeat' first | (with_reducible refine hK _ (by simp) ?_) | ((with_reducible refine sideQ' ?_ ?_ fun K2 hK2 => ?_); exact rfl; exact rfl; (try simp (maxSteps := 10000000) (disch := first | omega | simp) []); with_reducible refine hK2 _ _ ?_; clear hK2 K2; (try simp (maxSteps := 10000000) (disch := first | omega | simp) []))) <;> clear hK K) | ((with_reducible refine awCond fun A B hA hB => ?_); simp (maxSteps := 10000000) (disch := first | omega | simp) []; (first | refine ⟨fun h => hA ?_, fun h => hB ?_⟩ | refine hA ?_ | refine hB ?_) <;> (clear hA hB A B; (try (exfalso; omega))))
  · have e : (a == b) = false := by rw [beq_eq_false_iff_ne]; intro e; subst e; simp_all
    (refine aEnR (aRes [] fun K hK => ?_); simp (maxSteps := 10000000) (disch := first | omega | simp) [e]; refine hK _ ?_ (by simp); simp (maxSteps := 10000000) (disch := first | omega | simp) [e])
  have hl : a.length = b.length := by omega
  refine awLoop (fun k Γ => ∃ i, i ≤ a.length ∧ k = a.length - i ∧ a.take i = b.take i ∧ Γ = ofA [(5, .p (I i)), (0, .p (Li a)), (1, .p (Li b))]) _ _ (Wk.ofA ?_) ⟨0, by simp, rfl, by simp, rfl⟩ ?_
  · simp
  rintro _ _ ⟨i, hi, rfl, ht, rfl⟩
  repeat' first | (with_reducible first | refine thN ?_ | refine thR ?_ | refine thE ?_ | refine inN ?_ | refine inR ?_ | refine inH ?_ | refine fS ?_ | refine fR ?_ | refine fQ ?_ | refine fE ?_ | refine fT ?_ | refine awBlock ?_ | refine awExit ?_ | refine awRet ?_ | refine awSkip ?_) | ((with_reducible refine awReg fun K hok hK => ?_); clear hok; (try simp (maxSteps := 10000000) (disch := first | omega | simp) []); (repeat' first | (with_reducible refine hK _ (by simp) ?_) | ((with_reducible refine sideQ' ?_ ?_ fun K2 hK2 => ?_); exact rfl; exact rfl; (try simp (maxSteps := 10000000) (disch := first | omega | simp) []); with_reducible refine hK2 _ _ ?_; clear hK2 K2; (try simp (maxSteps := 10000000) (disch := first | omega | simp) []))) <;> clear hK K) | ((with_reducible refine awCond fun A B hA hB => ?_); simp (maxSteps := 10000000) (disch := first | omega | simp) []; (first | refine ⟨fun h => hA ?_, fun h => hB ?_⟩ | refine hA ?_ | refine hB ?_) <;> (clear hA hB A B; (try (exfalso; omega))))
  · have hi2 : i < a.length := by assumption
    have hi3 : i < b.length := by omega
    have e : (a == b) = false := by
      rw [beq_eq_false_iff_ne]; intro e; subst e; simp at h
    (refine aEnR (aRes [] fun K hK => ?_); simp (maxSteps := 10000000) (disch := first | omega | simp) [e]; refine hK _ ?_ (by simp); simp (maxSteps := 10000000) (disch := first | omega | simp) [e])
  · have hi2 : i < a.length := by assumption
    have hi3 : i < b.length := by omega
    refine ⟨_, _, ?_, Wk.ofA ?_, i + 1, by omega, rfl, eq_take hi2 hi3 ht (by simpa using h), rfl⟩
    · omega
    · simp
  · have e : a = b := by
      rw [List.take_of_length_le (by assumption), List.take_of_length_le (by omega)] at ht; exact ht
    (refine aEnR (aRes [] fun K hK => ?_); simp (maxSteps := 10000000) (disch := first | omega | simp) [e]; refine hK _ ?_ (by simp); simp (maxSteps := 10000000) (disch := first | omega | simp) [e])
theorem samePart_ok (a b : Part) : ACall pg 23 [encP a, encP b] (B (a.leader == b.leader && a.epoch == b.epoch && a.ids == b.ids && a.isr == b.isr && a.add == b.add && a.drop == b.drop)) := by
  refine s23.call mo (by simp) fun hxs => ?_
  clear hxs
  unfold c23; dsimp only [oB, oC, oF, oG, oL, oM, oO, oQ, oR, oW, oZ]
  repeat' first | (with_reducible first | refine fS ?_ | refine fR ?_ | refine fQ ?_ | refine fT ?_ | refine awRet ?_) | ((with_reducible refine awReg fun K hok hK => ?_); clear hok; (try simp (maxSteps := 10000000) (disch := first | omega | simp) []); (repeat' first | (with_reducible refine hK _ (by simp) ?_) | ((with_reducible refine gdT (fun h => ?_) (fun h => ?_)) <;> (simp (maxSteps := 10000000) (disch := first | omega | simp) [h]; (try simp at h); (try (exfalso; omega)))) | ((with_reducible refine gdF (fun h => ?_) (fun h => ?_)) <;> (simp (maxSteps := 10000000) (disch := first | omega | simp) [h]; (try simp at h); (try (exfalso; omega)))) | ((with_reducible refine callS' fun K2 hK2 => ?_); (try simp (maxSteps := 10000000) (disch := first | omega | simp) []); (refine hK2 _ _ (ints_ok _ _) rfl fun hk9 => ?_); clear hk9; clear hK2 K2; (try simp (maxSteps := 10000000) (disch := first | omega | simp) []))) <;> clear hK K) | ((with_reducible refine awCond fun A B hA hB => ?_); simp (maxSteps := 10000000) (disch := first | omega | simp) []; (first | refine ⟨fun h => hA ?_, fun h => hB ?_⟩ | refine hA ?_ | refine hB ?_) <;> (clear hA hB A B; (try (exfalso; omega))))
  all_goals ((refine aEnR (aRes [] fun K hK => ?_); simp (maxSteps := 10000000) (disch := first | omega | simp) []; refine hK _ ?_ (by simp); simp (maxSteps := 10000000) (disch := first | omega | simp) []) <;> simp_all)
end
end Go.Am
end
section
set_option maxRecDepth 100000
set_option maxHeartbeats 0
namespace Go.Am
open Go
noncomputable section
def c51 : SC := (.seq (.reg [oZ 4 false] [0,1]) (.seq (.reg [oI 5 0] [0,1,5,11]) (.seq (.block 0 (.seq (.loop (.seq (.reg [oM 6 5,oM 7 0,oN 8 7 23,oB 9 .lss 3 6 8 3] [0,1,5,9,11]) (.seq (.cond (.tmp 9) .skip (.exit 0)) (.seq (.block 1 (.seq (.reg [oM 12 0,oM 13 5,oJ 14 23 12 13,oL 15 3 14,oM 16 1,oB 17 .eql 3 15 16 3] [0,1,5,11,17]) (.seq (.cond (.tmp 17) (.seq (.reg [oZ 4 true] [4]) .ret) .skip) .skip))) (.seq (.reg [oM 10 5,oK 11 .add 3 10 1 3,oG 5 11] [0,1,5,11]) .skip))))) .skip)) (.seq (.reg [oZ 4 false] [4]) .ret))))
theorem s51 : TextK Proofs.Tryz.prog 0 51 18 [ResultVar.tmp 4] c51 := .mk' Proofs.Tryz.f51 _ (by kernel_rfl) rfl rfl rfl (by kernel_rfl) rfl (by kernel_rfl)
def c84 : SC := (.seq (.reg [oO 2 36 0,oZ 4 false] [1,2]) (.seq (.reg [oI 5 0] [1,2,5,13]) (.seq (.block 0 (.seq (.loop (.seq (.reg [oM 7 5,oF 8 36 2 1,oL 9 32 8,oN 10 9 32,oB 11 .lss 3 7 10 3] [1,2,5,11,13]) (.seq (.cond (.tmp 11) .skip (.exit 0)) (.seq (.block 1 (.seq (.reg [oI 6 0] [1,2,5,6,13,24]) (.seq (.block 2 (.seq (.loop (.seq (.reg [oM 14 6,oF 15 36 2 1,oL 16 32 15,oM 17 5,oJ 18 32 16 17,oF 19 51 18 2,oL 20 49 19,oN 21 20 49,oB 22 .lss 3 14 21 3] [1,2,5,6,13,22,24]) (.seq (.cond (.tmp 22) .skip (.exit 2)) (.seq (.block 3 (.seq (.reg [oF 25 36 2 1,oL 26 32 25,oM 27 5,oJ 28 32 26 27,oF 29 51 28 2,oL 30 49 29,oM 31 6,oJ 32 49 30 31,oF 33 53 32 2,oL 34 3 33,oM 35 1,oB 36 .eql 3 34 35 3] [1,2,5,6,13,24,36]) (.seq (.cond (.tmp 36) (.seq (.reg [oZ 4 true] [4]) .ret) .skip) .skip))) (.seq (.reg [oM 23 6,oK 24 .add 3 23 1 3,oG 6 24] [1,2,5,6,13,24]) .skip))))) .skip)) .skip))) (.seq (.reg [oM 12 5,oK 13 .add 3 12 1 3,oG 5 13] [1,2,5,13]) .skip))))) .skip)) (.seq (.reg [oZ 4 false] [4]) .ret))))
theorem s84 : TextK Proofs.Tryz.prog 0 84 37 [ResultVar.tmp 4] c84 := .mk' Proofs.Tryz.f84 _ (by kernel_rfl) rfl rfl rfl (by kernel_rfl) rfl (by kernel_rfl)
def c86 : SC := (.seq (.reg [oO 2 36 0,oZ 4 false] [1,2]) (.seq (.reg [oI 5 0] [1,2,5,13]) (.seq (.block 0 (.seq (.loop (.seq (.reg [oM 7 5,oF 8 36 2 1,oL 9 32 8,oN 10 9 32,oB 11 .lss 3 7 10 3] [1,2,5,11,13]) (.seq (.cond (.tmp 11) .skip (.exit 0)) (.seq (.block 1 (.seq (.reg [oI 6 0] [1,2,5,6,13,24]) (.seq (.block 2 (.seq (.loop (.seq (.reg [oM 14 6,oF 15 36 2 1,oL 16 32 15,oM 17 5,oJ 18 32 16 17,oF 19 51 18 2,oL 20 49 19,oN 21 20 49,oB 22 .lss 3 14 21 3] [1,2,5,6,13,22,24]) (.seq (.cond (.tmp 22) .skip (.exit 2)) (.seq (.block 3 (.seq (.reg [oF 25 36 2 1,oL 26 32 25,oM 27 5,oJ 28 32 26 27,oF 29 51 28 2,oL 30 49 29,oM 31 6,oJ 32 49 30 31,oF 33 53 32 0,oL 34 23 33,oM 35 1,oC 36 51 #[.tmp 34,.tmp 35] #[23,3]] [1,2,5,6,13,24,36]) (.seq (.cond (.tmp 36) (.seq (.reg [oZ 4 true] [4]) .ret) .skip) .skip))) (.seq (.reg [oM 23 6,oK 24 .add 3 23 1 3,oG 6 24] [1,2,5,6,13,24]) .skip))))) .skip)) .skip))) (.seq (.reg [oM 12 5,oK 13 .add 3 12 1 3,oG 5 13] [1,2,5,13]) .skip))))) .skip)) (.seq (.reg [oZ 4 false] [4]) .ret))))
theorem s86 : TextK Proofs.Tryz.prog 0 86 37 [ResultVar.tmp 4] c86 := .mk' Proofs.Tryz.f86 _ (by kernel_rfl) rfl rfl rfl (by kernel_rfl) rfl (by kernel_rfl)
theorem has_ok (l : List Int) (n : Int) : ACall pg 51 [Li l, I n] (B (l.contains n)) := by
  refine s51.call mo (by simp) fun hxs => ?_
  have hlen := okLenI hxs.1
  clear hxs
  unfold c51; dsimp only [oB, oG, oI, oJ, oK, oL, oM, oN, oZ]
  repeat' first | (with_reducible first | refine thN ?_ | refine thR ?_ | refine thE ?_ | refine inN ?_ | refine inR ?_ | refine inH ?_ | refine fS ?_ | refine fR ?_ | refine fQ ?_ | refine fE ?_ | refine fT ?_ | refine awBlock ?_ | refine awExit ?_ | refine awRet ?_ | refine awSkip ?_) | ((with_reducible refine awReg fun K hok hK => ?_); clear hok; (try simp (maxSteps := 10000000) (disch := first | omega | simp) []); (repeat' first | (with_reducible refine hK _ (by simp) ?_)) <;> clear hK K) | ((with_reducible refine awCond fun A B hA hB => ?_); simp (maxSteps := 10000000) (disch := first | omega | simp) []; (first | refine ⟨fun h => hA ?_, fun h => hB ?_⟩ | refine hA ?_ | refine hB ?_) <;> (clear hA hB A B; (try (exfalso; omega))))
  refine awLoop (fun k Γ => ∃ i, i ≤ l.length ∧ k = l.length - i ∧ n ∉ l.take i ∧ Γ = ofA [(5, .p (I i)), (0, .p (Li l)), (1, .p (I n))]) _ _ (Wk.ofA ?_) ⟨0, by simp, rfl, by simp, rfl⟩ ?_
  · simp
  rintro _ _ ⟨i, hi, rfl, hni, rfl⟩
  repeat' first | (with_reducible first | refine thN ?_ | refine thR ?_ | refine thE ?_ | refine inN ?_ | refine inR ?_ | refine inH ?_ | refine fS ?_ | refine fR ?_ | refine fQ ?_ | refine fE ?_ | refine fT ?_ | refine awBlock ?_ | refine awExit ?_ | refine awRet ?_ | refine awSkip ?_) | ((with_reducible refine awReg fun K hok hK => ?_); clear hok; (try simp (maxSteps := 10000000) (disch := first | omega | simp) []); (repeat' first | (with_reducible refine hK _ (by simp) ?_)) <;> clear hK K) | ((with_reducible refine awCond fun A B hA hB => ?_); simp (maxSteps := 10000000) (disch := first | omega | simp) []; (first | refine ⟨fun h => hA ?_, fun h => hB ?_⟩ | refine hA ?_ | refine hB ?_) <;> (clear hA hB A B; (try (exfalso; omega))))
  · have e : l.contains n = true := by rw [List.contains_iff_mem]; exact h ▸ List.getElem_mem (by assumption)
    (refine aEnR (aRes [] fun K hK => ?_); simp (maxSteps := 10000000) (disch := first | omega | simp) [e]; refine hK _ ?_ (by simp); simp (maxSteps := 10000000) (disch := first | omega | simp) [e])
    simpa using e
  · refine ⟨_, _, ?_, Wk.ofA ?_, i + 1, by omega, rfl, not_take (List.getElem?_eq_getElem (by assumption)) hni h, rfl⟩
    · omega
    · simp
  · have e : l.contains n = false := by
      rw [List.take_of_length_le h] at hni; simpa using hni
    (refine aEnR (aRes [] fun K hK => ?_); simp (maxSteps := 10000000) (disch := first | omega | simp) [e]; refine hK _ ?_ (by simp); simp (maxSteps := 10000000) (disch := first | omega | simp) [e])
    simpa using e
theorem leads_ok (m : Image) (id : Int) : ACall pg 84 [encM m, I id] (B (m.any fun p => p.leader == id)) := by
  refine s84.call mo (by simp) fun hxs => ?_
  have hlen := okLen (l := m.topics.map encT) (by simpa using hxs.1.2.1)
  simp at hlen
  have hpl : ∀ t ∈ m.topics, t.parts.length ≤ 9223372036854775807 := by
    intro t ht
    have h1 := hxs.1.2.1
    have h2 := okL_iff.1 h1.2 (encT t) (List.mem_map.2 ⟨t, ht, rfl⟩)
    have := okLen (l := t.parts.map encP) (by simpa using h2.2.2.1)
    simpa using this
  clear hxs
  unfold c84; dsimp only [oB, oF, oG, oI, oJ, oK, oL, oM, oN, oO, oZ]
  repeat' first | (with_reducible first | refine thN ?_ | refine thR ?_ | refine thE ?_ | refine inN ?_ | refine inR ?_ | refine inH ?_ | refine fS ?_ | refine fR ?_ | refine fQ ?_ | refine fE ?_ | refine fT ?_ | refine awBlock ?_ | refine awExit ?_ | refine awRet ?_ | refine awSkip ?_) | ((with_reducible refine awReg fun K hok hK => ?_); clear hok; (try simp (maxSteps := 10000000) (disch := first | omega | simp) []); (repeat' first | (with_reducible refine hK _ (by simp) ?_)) <;> clear hK K) | ((with_reducible refine awCond fun A B hA hB => ?_); simp (maxSteps := 10000000) (disch := first | omega | simp) []; (first | refine ⟨fun h => hA ?_, fun h => hB ?_⟩ | refine hA ?_ | refine hB ?_) <;> (clear hA hB A B; (try (exfalso; omega))))
  refine awLoop (fun k Γ => ∃ i, i ≤ m.topics.length ∧ k = m.topics.length - i ∧ (∀ t ∈ m.topics.take i, (t.any fun p => p.leader == id) = false) ∧ Γ = ofA [(5, .p (I i)), (2, .p (.own (encM m).cells)), (1, .p (I id))]) _ _ (Wk.ofA ?_) ⟨0, by simp, rfl, by simp, rfl⟩ ?_
  · simp
  rintro _ _ ⟨i, hi, rfl, hni, rfl⟩
  repeat' first | (with_reducible first | refine thN ?_ | refine thR ?_ | refine thE ?_ | refine inN ?_ | refine inR ?_ | refine inH ?_ | refine fS ?_ | refine fR ?_ | refine fQ ?_ | refine fE ?_ | refine fT ?_ | refine awBlock ?_ | refine awExit ?_ | refine awRet ?_ | refine awSkip ?_) | ((with_reducible refine awReg fun K hok hK => ?_); clear hok; (try simp (maxSteps := 10000000) (disch := first | omega | simp) []); (repeat' first | (with_reducible refine hK _ (by simp) ?_)) <;> clear hK K) | ((with_reducible refine awCond fun A B hA hB => ?_); simp (maxSteps := 10000000) (disch := first | omega | simp) []; (first | refine ⟨fun h => hA ?_, fun h => hB ?_⟩ | refine hA ?_ | refine hB ?_) <;> (clear hA hB A B; (try (exfalso; omega))))
  · have hi2 : i < m.topics.length := by assumption
    have hpl := hpl m.topics[i] (List.getElem_mem hi2)
    refine awLoop (fun k Γ => ∃ j, j ≤ m.topics[i].parts.length ∧ k = m.topics[i].parts.length - j ∧ (∀ p ∈ m.topics[i].parts.take j, (p.leader == id) = false) ∧ Γ = ofA [(6, .p (I j)), (5, .p (I i)), (2, .p (.own (encM m).cells)), (1, .p (I id))]) _ _ (Wk.ofA ?_) ⟨0, by simp, rfl, by simp, rfl⟩ ?_
    · simp
    rintro _ _ ⟨j, hj, rfl, hnj, rfl⟩
    repeat' first | (with_reducible first | refine thN ?_ | refine thR ?_ | refine thE ?_ | refine inN ?_ | refine inR ?_ | refine inH ?_ | refine fS ?_ | refine fR ?_ | refine fQ ?_ | refine fE ?_ | refine fT ?_ | refine awBlock ?_ | refine awExit ?_ | refine awRet ?_ | refine awSkip ?_) | ((with_reducible refine awReg fun K hok hK => ?_); clear hok; (try simp (maxSteps := 10000000) (disch := first | omega | simp) []); (repeat' first | (with_reducible refine hK _ (by simp) ?_)) <;> clear hK K) | ((with_reducible refine awCond fun A B hA hB => ?_); simp (maxSteps := 10000000) (disch := first | omega | simp) []; (first | refine ⟨fun h => hA ?_, fun h => hB ?_⟩ | refine hA ?_ | refine hB ?_) <;> (clear hA hB A B; (try (exfalso; omega))))
    · have e : (m.any fun p => p.leader == id) = true := any_at hi2 (any_at (by assumption) (by simpa using h))
      (refine aEnR (aRes [] fun K hK => ?_); simp (maxSteps := 10000000) (disch := first | omega | simp) [e]; refine hK _ ?_ (by simp); simp (maxSteps := 10000000) (disch := first | omega | simp) [e])
    · refine ⟨_, _, ?_, Wk.ofA ?_, j + 1, by omega, rfl, all_take (by assumption) hnj (by simpa using h), rfl⟩
      · omega
      · simp
    · refine ⟨_, _, ?_, Wk.ofA ?_, i + 1, by omega, rfl, all_take hi2 hni (any_no h hnj), rfl⟩
      · omega
      · simp
  · have e : (m.any fun p => p.leader == id) = false := any_no h hni
    (refine aEnR (aRes [] fun K hK => ?_); simp (maxSteps := 10000000) (disch := first | omega | simp) [e]; refine hK _ ?_ (by simp); simp (maxSteps := 10000000) (disch := first | omega | simp) [e])
theorem used_ok (m : Image) (id : Int) : ACall pg 86 [encM m, I id] (B (m.any fun p => p.ids.contains id)) := by
  refine s86.call mo (by simp) fun hxs => ?_
  have hlen := okLen (l := m.topics.map encT) (by simpa using hxs.1.2.1)
  simp at hlen
  have hpl : ∀ t ∈ m.topics, t.parts.length ≤ 9223372036854775807 := by
    intro t ht
    have h1 := hxs.1.2.1
    have h2 := okL_iff.1 h1.2 (encT t) (List.mem_map.2 ⟨t, ht, rfl⟩)
    have := okLen (l := t.parts.map encP) (by simpa using h2.2.2.1)
    simpa using this
  clear hxs
  unfold c86; dsimp only [oB, oC, oF, oG, oI, oJ, oK, oL, oM, oN, oO, oZ]
  repeat' first | (with_reducible first | refine thN ?_ | refine thR ?_ | refine thE ?_ | refine inN ?_ | refine inR ?_ | refine inH ?_ | refine fS ?_ | refine fR ?_ | refine fQ ?_ | refine fE ?_ | refine fT ?_ | refine awBlock ?_ | refine awExit ?_ | refine awRet ?_ | refine awSkip ?_) | ((with_reducible refine awReg fun K hok hK => ?_); clear hok; (try simp (maxSteps := 10000000) (disch := first | omega | simp) []); (repeat' first | (with_reducible refine hK _ (by simp) ?_)) <;> clear hK K) | ((with_reducible refine awCond fun A B hA hB => ?_); simp (maxSteps := 10000000) (disch := first | omega | simp) []; (first | refine ⟨fun h => hA ?_, fun h => hB ?_⟩ | refine hA ?_ | refine hB ?_) <;> (clear hA hB A B; (try (exfalso; omega))))
  refine awLoop (fun k Γ => ∃ i, i ≤ m.topics.length ∧ k = m.topics.length - i ∧ (∀ t ∈ m.topics.take i, (t.any fun p => p.ids.contains id) = false) ∧ Γ = ofA [(5, .p (I i)), (2, .p (.own (encM m).cells)), (1, .p (I id))]) _ _ (Wk.ofA ?_) ⟨0, by simp, rfl, by simp, rfl⟩ ?_
  · simp
  rintro _ _ ⟨i, hi, rfl, hni, rfl⟩
  repeat' first | (with_reducible first | refine thN ?_ | refine thR ?_ | refine thE ?_ | refine inN ?_ | refine inR ?_ | refine inH ?_ | refine fS ?_ | refine fR ?_ | refine fQ ?_ | refine fE ?_ | refine fT ?_ | refine awBlock ?_ | refine awExit ?_ | refine awRet ?_ | refine awSkip ?_) | ((with_reducible refine awReg fun K hok hK => ?_); clear hok; (try simp (maxSteps := 10000000) (disch := first | omega | simp) []); (repeat' first | (with_reducible refine hK _ (by simp) ?_)) <;> clear hK K) | ((with_reducible refine awCond fun A B hA hB => ?_); simp (maxSteps := 10000000) (disch := first | omega | simp) []; (first | refine ⟨fun h => hA ?_, fun h => hB ?_⟩ | refine hA ?_ | refine hB ?_) <;> (clear hA hB A B; (try (exfalso; omega))))
  · have hi2 : i < m.topics.length := by assumption
    have hpl := hpl m.topics[i] (List.getElem_mem hi2)
    refine awLoop (fun k Γ => ∃ j, j ≤ m.topics[i].parts.length ∧ k = m.topics[i].parts.length - j ∧ (∀ p ∈ m.topics[i].parts.take j, (p.ids.contains id) = false) ∧ Γ = ofA [(6, .p (I j)), (5, .p (I i)), (2, .p (.own (encM m).cells)), (1, .p (I id))]) _ _ (Wk.ofA ?_) ⟨0, by simp, rfl, by simp, rfl⟩ ?_
    · simp
    rintro _ _ ⟨j, hj, rfl, hnj, rfl⟩
    repeat' first | (with_reducible first | refine thN ?_ | refine thR ?_ | refine thE ?_ | refine inN ?_ | refine inR ?_ | refine inH ?_ | refine fS ?_ | refine fR ?_ | refine fQ ?_ | refine fE ?_ | refine fT ?_ | refine awBlock ?_ | refine awExit ?_ | refine awRet ?_ | refine awSkip ?_) | ((with_reducible refine awReg fun K hok hK => ?_); clear hok; (try simp (maxSteps := 10000000) (disch := first | omega | simp) []); (repeat' first | (with_reducible refine hK _ (by simp) ?_) | ((with_reducible refine callS' fun K2 hK2 => ?_); (try simp (maxSteps := 10000000) (disch := first | omega | simp) []); (refine hK2 _ _ (has_ok _ _) rfl fun hk9 => ?_); clear hk9; clear hK2 K2; (try simp (maxSteps := 10000000) (disch := first | omega | simp) []))) <;> clear hK K) | ((with_reducible refine awCond fun A B hA hB => ?_); simp (maxSteps := 10000000) (disch := first | omega | simp) []; (first | refine ⟨fun h => hA ?_, fun h => hB ?_⟩ | refine hA ?_ | refine hB ?_) <;> (clear hA hB A B; (try (exfalso; omega))))
    · have e : (m.any fun p => p.ids.contains id) = true := any_at hi2 (any_at (by assumption) (by simpa using h))
      ((refine aEnR (aRes [] fun K hK => ?_); simp (maxSteps := 10000000) (disch := first | omega | simp) [e]; refine hK _ ?_ (by simp); simp (maxSteps := 10000000) (disch := first | omega | simp) [e]); simpa using e)
    · refine ⟨_, _, ?_, Wk.ofA ?_, j + 1, by omega, rfl, all_take (by assumption) hnj (by simpa using h), rfl⟩
      · omega
      · simp
    · refine ⟨_, _, ?_, Wk.ofA ?_, i + 1, by omega, rfl, all_take hi2 hni (any_no h hnj), rfl⟩
      · omega
      · simp
  · have e : (m.any fun p => p.ids.contains id) = false := any_no h hni
    ((refine aEnR (aRes [] fun K hK => ?_); simp (maxSteps := 10000000) (disch := first | omega | simp) [e]; refine hK _ ?_ (by simp); simp (maxSteps := 10000000) (disch := first | omega | simp) [e]); simpa using e)
end
end Go.Am
end
section
set_option maxRecDepth 100000
set_option maxHeartbeats 0
namespace Go.Am
open Go
noncomputable section
def c85 : SC := (.seq (.reg [oO 3 123 1,oD 4 (.assign (.const (.slice none 0 0)))] [0,3,29,44,50]) (.seq (.reg [oD 5 (.assign (.const (.slice none 0 0)))] [0,3,5,29,44,50]) (.seq (.reg [oZ 6 false] [0,3,5,6,29,44,50]) (.seq (.reg [oI 7 0] [0,3,5,6,7,13,29,44,50]) (.seq (.block 0 (.seq (.loop (.seq (.reg [oM 8 7,oM 9 0,oN 10 9 31,oB 11 .lss 3 8 10 3] [0,3,5,6,7,11,13,29,44,50]) (.seq (.cond (.tmp 11) .skip (.exit 0)) (.seq (.block 1 (.seq (.reg [oM 14 6,oD 15 (.unOp .not 4 (.tmp 14)),oM 16 15,oU (oW 16 true (oM 17 0)) [18,22,23],oU (oW 16 true (oM 18 7)) [17,22,23],oU (oW 16 true (oJ 19 31 17 18)) [22,23],oU (oW 16 true (oF 20 123 19 0)) [22,23],oU (oW 16 true (oL 21 3 20)) [22,23],oU (oW 16 true (oF 22 123 3 0)) [17,18,19,20,21],oU (oW 16 true (oL 23 3 22)) [17,18,19,20,21],oW 16 true (oB 24 .geq 3 21 23 3),oQ 25 16 24 false] [0,3,5,6,7,13,15,16,24,25,29,44,50]) (.seq (.cond (.tmp 25) (.seq (.reg [oM 26 5,oL 27 123 3,oD 28 (.buildSlice 31 1 #[(0,.tmp 27)]),oP 29 #[.tmp 26,.tmp 28] #[31,31],oG 5 29] [0,3,5,7,13,29,44,50]) (.seq (.reg [oZ 6 true] [0,3,5,6,7,13,29,44,50]) .skip)) .skip) (.seq (.reg [oU (oM 30 0) [31,35,36],oU (oM 31 7) [30,35,36],oU (oJ 32 31 30 31) [35,36],oU (oF 33 123 32 0) [35,36],oU (oL 34 3 33) [35,36],oU (oF 35 123 3 0) [30,31,32,33,34],oU (oL 36 3 35) [30,31,32,33,34],oB 37 .neq 3 34 36 3] [0,3,5,6,7,13,29,37,44,50]) (.seq (.cond (.tmp 37) (.seq (.reg [oM 38 5,oM 39 0,oM 40 7,oJ 41 31 39 40,oL 42 123 41,oD 43 (.buildSlice 31 1 #[(0,.tmp 42)]),oP 44 #[.tmp 38,.tmp 43] #[31,31],oG 5 44] [0,3,5,6,7,13,29,44,50]) .skip) .skip) .skip))))) (.seq (.reg [oM 12 7,oK 13 .add 3 12 1 3,oG 7 13] [0,3,5,6,7,13,29,44,50]) .skip))))) .skip)) (.seq (.reg [oM 45 6,oD 46 (.unOp .not 4 (.tmp 45))] [3,5,29,44,46,50]) (.seq (.cond (.tmp 46) (.seq (.reg [oM 47 5,oL 48 123 3,oD 49 (.buildSlice 31 1 #[(0,.tmp 48)]),oP 50 #[.tmp 47,.tmp 49] #[31,31],oG 5 50] [5,29,44,50]) .skip) .skip) (.seq (.reg [oM 51 5,oG 4 51] [4,5,29,44,50,51]) .ret))))))))
theorem s85 : TextK Proofs.Tryz.prog 0 85 52 [ResultVar.tmp 4] c85 := .mk' Proofs.Tryz.f85 _ (by kernel_rfl) rfl rfl rfl (by kernel_rfl) rfl (by kernel_rfl)
theorem putBroker_ok (l : List Broker) (b : Broker) (hl : l.length ≤ 1000) : ACall pg 85 [.sl (l.map encB), encB b] (.sl ((putB l b).map encB)) := by
  refine s85.call mo (by simp) fun hxs => ?_
  clear hxs
  unfold c85; dsimp only [oB, oD, oF, oG, oI, oJ, oK, oL, oM, oN, oO, oP, oQ, oU, oW, oZ]
  repeat' first | (with_reducible first | refine thN ?_ | refine thE ?_ | refine inN ?_ | refine inH ?_ | refine fS ?_ | refine fR ?_ | refine fQ ?_ | refine fE ?_ | refine awBlock ?_ | refine awExit ?_ | refine awRet ?_ | refine awSkip ?_) | ((with_reducible refine awReg fun K hok hK => ?_); clear hok; (try simp (maxSteps := 10000000) (disch := first | omega | simp) []); (repeat' first | (with_reducible refine hK _ (by simp) ?_) | ((with_reducible refine gdT (fun h => ?_) (fun h => ?_)) <;> (simp (maxSteps := 10000000) (disch := first | omega | simp) [h]; (try simp at h); (try (exfalso; omega)))) | ((first | ((with_reducible refine gdU ?_)) | ((with_reducible refine sideQ' ?_ ?_ fun K2 hK2 => ?_); exact rfl; exact rfl; (try simp (maxSteps := 10000000) (disch := first | omega | simp) []); with_reducible refine hK2 _ _ ?_; clear hK2 K2)); (try simp (maxSteps := 10000000) (disch := first | omega | simp) []))) <;> clear hK K) | ((with_reducible refine awCond fun A B hA hB => ?_); simp (maxSteps := 10000000) (disch := first | omega | simp) []; (first | refine ⟨fun h => hA ?_, fun h => hB ?_⟩ | refine hA ?_ | refine hB ?_) <;> (clear hA hB A B; (try (exfalso; omega))))
  refine awFor l.length (fun i (s : List Broker × Bool) => (l.drop i).foldl (putStep b) s = l.foldl (putStep b) ([], false) ∧ s.1.length ≤ 2 * i) (fun i s => [(7, .p (I i)), (6, .p (B s.2)), (5, .p (.uq (s.1.map encB))), (3, .p (.own (encB b).cells)), (0, .p (.sl (l.map encB)))]) ([], false) (Wk.ofA (by simp)) (by simp) fun i s hi hs => ?_
  obtain ⟨hs, hsl⟩ := hs
  repeat' first | (with_reducible first | refine thN ?_ | refine thE ?_ | refine inN ?_ | refine inH ?_ | refine fS ?_ | refine fR ?_ | refine fQ ?_ | refine fE ?_ | refine awBlock ?_ | refine awExit ?_ | refine awRet ?_ | refine awSkip ?_) | ((with_reducible refine awReg fun K hok hK => ?_); clear hok; (try simp (maxSteps := 10000000) (disch := first | omega | simp) []); (repeat' first | (with_reducible refine hK _ (by simp) ?_) | ((with_reducible refine gdT (fun h => ?_) (fun h => ?_)) <;> (simp (maxSteps := 10000000) (disch := first | omega | simp) [h]; (try simp at h); (try (exfalso; omega)))) | ((first | ((with_reducible refine gdU ?_)) | ((with_reducible refine sideQ' ?_ ?_ fun K2 hK2 => ?_); exact rfl; exact rfl; (try simp (maxSteps := 10000000) (disch := first | omega | simp) []); with_reducible refine hK2 _ _ ?_; clear hK2 K2)); (try simp (maxSteps := 10000000) (disch := first | omega | simp) []))) <;> clear hK K) | ((with_reducible refine awCond fun A B hA hB => ?_); simp (maxSteps := 10000000) (disch := first | omega | simp) []; (first | refine ⟨fun h => hA ?_, fun h => hB ?_⟩ | refine hA ?_ | refine hB ?_) <;> (clear hA hB A B; (try (exfalso; omega))))
  all_goals first
    | (rw [foldl_drop (by assumption)] at hs
       refine ⟨by assumption, putStep b s l[i], ⟨hs, ?_⟩, Wk.ofA ?_⟩
       · clear hs; simp only [putStep]; (repeat' split) <;> simp_all <;> omega
       · clear hs
         simp [putStep, *]
         try (have hn : ¬ b.id ≤ l[i].id := (by omega); simp [hn, *]))
    | (rw [drop_nil (by assumption)] at hs
       have e : putB l b = if s.2 then s.1 else s.1 ++ [b] := by simp only [putB, ← hs]; rfl
       (refine aEnR (aRes [true] fun K hK => ?_); simp (maxSteps := 10000000) (disch := first | omega | simp) [e]; refine hK _ ?_ (by simp); clear hK; first | done | (simp (maxSteps := 10000000) (disch := first | omega | simp) [e, *]; done) | (simp (maxSteps := 10000000) (disch := first | omega | simp) [e, *]; omega) | (simp_all [e]; done) | (simp_all [e]; omega)))
end
end Go.Am
end
