/- Part of the proof of a law of the image. -/
import Derived.Test.YtfgfjgbggkdobaaGreatQData
import Derived.Test.YtfgfjgbggkdobaaGreatQW0
set_option linter.all false
section
set_option maxRecDepth 100000
namespace Go.Am
open Go
noncomputable section
def c71 : SC := (.seq (.reg [oO 2 30 0,oA 4 51,oZ 5 false] [1,2,4]) (.seq (.reg [oI 6 0] [1,2,4,6,13]) (.seq (.block 0 (.seq (.loop (.seq (.reg [oM 7 6,oF 8 30 2 0,oL 9 25 8,oN 10 9 25,oB 11 .lss 3 7 10 3] [1,2,4,6,11,13]) (.seq (.cond (.tmp 11) .skip (.exit 0)) (.seq (.block 1 (.seq (.reg [oF 14 30 2 0,oL 15 25 14,oM 16 6,oJ 17 25 15 16,oF 18 51 17 0,oL 19 3 18,oM 20 1,oB 21 .eql 3 19 20 3] [1,2,4,6,13,21]) (.seq (.cond (.tmp 21) (.seq (.reg [oF 22 30 2 0,oL 23 25 22,oM 24 6,oJ 25 25 23 24,oL 26 51 25,oS 51 4 26,oZ 5 true] [4,5]) .ret) .skip) .skip))) (.seq (.reg [oM 12 6,oK 13 .add 3 12 1 3,oG 6 13] [1,2,4,6,13]) .skip))))) .skip)) (.seq (.reg [oD 27 (.build 51 #[]),oS 51 4 27,oZ 5 false] [4,5]) .ret))))
theorem s71 : TextK Proofs.Tryz.prog 0 71 28 [ResultVar.cell 4 51, ResultVar.tmp 5] c71 := .mk' Proofs.Tryz.f71 _ (by kernel_rfl) rfl rfl rfl (by kernel_rfl) rfl (by kernel_rfl)
theorem broker_ok (m : Image) (id : Int) : ACall pg 71 [encM m, I id] (.tup [encB ((m.broker id).getD zB), B (m.broker id).isSome]) := by
  refine s71.call mo (by simp) fun hxs => ?_
  have hlen := okLen (l := m.brokers.map encB) (by simpa using hxs.1.1)
  simp at hlen
  clear hxs
  unfold c71; dsimp only [oA, oB, oD, oF, oG, oI, oJ, oK, oL, oM, oN, oO, oS, oZ]
  refine wk ?_
  refine awLoop (fun k Γ => ∃ i, i ≤ m.brokers.length ∧ k = m.brokers.length - i ∧ (∀ b ∈ m.brokers.take i, (b.id == id) = false) ∧ Γ = ofA [(6, .p (I i)), (4, .p (.own [I 0, I 0, St ⟨#[]⟩, B false, B false])), (2, .p (.own (encM m).cells)), (1, .p (I id))]) _ _ (Wk.ofA ?_) ⟨0, by simp, rfl, by simp, rfl⟩ ?_
  · simp
  rintro _ _ ⟨i, hi, rfl, hni, rfl⟩
  repeat' first | (with_reducible first | refine thN ?_ | refine thR ?_ | refine thE ?_ | refine inN ?_ | refine inR ?_ | refine inH ?_ | refine fS ?_ | refine fR ?_ | refine fQ ?_ | refine fE ?_ | refine fT ?_ | refine awBlock ?_ | refine awExit ?_ | refine awRet ?_ | refine awSkip ?_) | ((with_reducible refine awReg fun K hok hK => ?_); clear hok; (try simp (maxSteps := 10000000) (disch := first | omega | simp) []); (repeat' first | (with_reducible refine hK _ (by simp) ?_)) <;> clear hK K) | ((with_reducible refine awCond fun A B hA hB => ?_); simp (maxSteps := 10000000) (disch := first | omega | simp) []; (first | refine ⟨fun h => hA ?_, fun h => hB ?_⟩ | refine hA ?_ | refine hB ?_) <;> (clear hA hB A B; (try (exfalso; omega))))
  · rw [show m.broker id = some m.brokers[i] from find_at (by assumption) hni (by simpa using ‹_›)]
    (refine aEnR (aRes [] fun K hK => ?_); simp (maxSteps := 10000000) (disch := first | omega | simp) []; refine hK _ ?_ (by simp); simp (maxSteps := 10000000) (disch := first | omega | simp) [])
  · refine ⟨_, _, ?_, Wk.ofA ?_, i + 1, by omega, rfl, all_take (by assumption) hni (by simpa using ‹_›), rfl⟩
    · omega
    · simp
  · rw [show m.broker id = none from find_no (by assumption) hni]
    (refine aEnR (aRes [] fun K hK => ?_); simp (maxSteps := 10000000) (disch := first | omega | simp) [zB]; refine hK _ ?_ (by simp); simp (maxSteps := 10000000) (disch := first | omega | simp) [zB])
end
end Go.Am
end
section
set_option maxRecDepth 100000
namespace Go.Am
open Go
noncomputable section
end
end Go.Am
end
section
set_option maxRecDepth 100000
set_option maxHeartbeats 0
namespace Go.Am
open Go
noncomputable section
end
end Go.Am
end
section
set_option maxRecDepth 100000
set_option maxHeartbeats 0
namespace Go.Am
open Go
noncomputable section
def c73 : SC := (.seq (.reg [oO 2 30 0,oZ 4 false] [1,2]) (.seq (.reg [oL 8 30 2,oM 9 1,oC 10 71 #[.tmp 8,.tmp 9] #[30,3],oM 7 10,oX 11 7 0,oX 12 7 1,oA 5 51,oS 51 5 11,oG 6 12] [5,6,7,10,12]) (.seq (.reg [oM 13 6,oM 14 13,oW 14 true (oF 15 51 5 3),oW 14 true (oL 16 4 15),oW 14 true (oD 17 (.unOp .not 4 (.tmp 16))),oQ 18 14 17 false,oG 4 18] [4,6,7,10,12,13,14,17,18]) .ret)))
theorem s73 : TextK Proofs.Tryz.prog 0 73 19 [ResultVar.tmp 4] c73 := .mk' Proofs.Tryz.f73 _ (by kernel_rfl) rfl rfl rfl (by kernel_rfl) rfl (by kernel_rfl)
theorem alive_ok (m : Image) (id : Int) : ACall pg 73 [encM m, I id] (B (m.alive id)) := by
  refine s73.call mo (by simp) fun hxs => ?_
  clear hxs
  unfold c73; dsimp only [oA, oC, oD, oF, oG, oL, oM, oO, oQ, oS, oW, oX, oZ]
  repeat' first | (with_reducible first | refine awRet ?_) | ((with_reducible refine awReg fun K hok hK => ?_); clear hok; (try simp (maxSteps := 10000000) (disch := first | omega | simp) []); (repeat' first | (with_reducible refine hK _ (by simp) ?_) | ((with_reducible refine gdT (fun h => ?_) (fun h => ?_)) <;> (simp (maxSteps := 10000000) (disch := first | omega | simp) [h]; (try simp at h); (try (exfalso; omega)))) | ((with_reducible refine callS' fun K2 hK2 => ?_); (try simp (maxSteps := 10000000) (disch := first | omega | simp) []); (refine hK2 _ _ (broker_ok m id) rfl fun hk9 => ?_); clear hk9; clear hK2 K2; (try simp (maxSteps := 10000000) (disch := first | omega | simp) []))) <;> clear hK K) | ((with_reducible refine awCond fun A B hA hB => ?_); simp (maxSteps := 10000000) (disch := first | omega | simp) []; (first | refine ⟨fun h => hA ?_, fun h => hB ?_⟩ | refine hA ?_ | refine hB ?_) <;> (clear hA hB A B; (try (exfalso; omega))))
  all_goals ((refine aEnR (aRes [] fun K hK => ?_); simp (maxSteps := 10000000) (disch := first | omega | simp) []; refine hK _ ?_ (by simp); simp (maxSteps := 10000000) (disch := first | omega | simp) []); unfold Image.alive; cases hb : m.broker id <;> simp_all)
end
end Go.Am
end
section
set_option maxRecDepth 100000
set_option maxHeartbeats 0
namespace Go.Am
open Go
noncomputable section
def c99 : SC := (.seq (.reg [oZ 4 false] [0,1]) (.seq (.reg [oM 6 0,oN 7 6 35,oM 8 1,oN 9 8 35,oB 10 .neq 3 7 9 3] [0,1,10]) (.seq (.cond (.tmp 10) (.seq (.reg [oZ 4 false] [4]) .ret) .skip) (.seq (.reg [oI 5 0] [0,1,5,16]) (.seq (.block 0 (.seq (.loop (.seq (.reg [oM 11 5,oM 12 0,oN 13 12 35,oB 14 .lss 3 11 13 3] [0,1,5,14,16]) (.seq (.cond (.tmp 14) .skip (.exit 0)) (.seq (.block 1 (.seq (.reg [oU (oM 17 0) [18,21,22,23,24],oU (oM 18 5) [17,21,22,23,24],oU (oJ 19 35 17 18) [21,22,23,24],oU (oL 20 3 19) [21,22,23,24],oU (oM 21 1) [17,18,19,20,22],oU (oM 22 5) [17,18,19,20,21],oU (oJ 23 35 21 22) [17,18,19,20],oU (oL 24 3 23) [17,18,19,20],oB 25 .neq 3 20 24 3] [0,1,5,16,25]) (.seq (.cond (.tmp 25) (.seq (.reg [oZ 4 false] [4]) .ret) .skip) .skip))) (.seq (.reg [oM 15 5,oK 16 .add 3 15 1 3,oG 5 16] [0,1,5,16]) .skip))))) .skip)) (.seq (.reg [oZ 4 true] [4]) .ret))))))
theorem s99 : TextK Proofs.Tryz.prog 0 99 26 [ResultVar.tmp 4] c99 := .mk' Proofs.Tryz.f99 _ (by kernel_rfl) rfl rfl rfl (by kernel_rfl) rfl (by kernel_rfl)
def c70 : SC := (.seq (.reg [oO 2 47 0,oO 3 47 1,oZ 4 false] [2,3,5,22,23,28,29,30,31,36,37,38,43,44]) (.seq (.reg [oF 6 47 2 2,oL 7 3 6,oF 8 47 3 2,oL 9 3 8,oB 10 .neq 3 7 9 3,oM 11 10,oW 11 false (oF 12 47 2 3),oW 11 false (oL 13 3 12),oW 11 false (oF 14 47 3 3),oW 11 false (oL 15 3 14),oW 11 false (oB 16 .neq 3 13 15 3),oR 17 11 true 16] [2,3,5,10,11,16,17,22,23,28,29,30,31,36,37,38,43,44]) (.seq (.cond (.tmp 17) (.seq (.reg [oZ 4 false] [4,5,22,23,28,29,30,31,36,37,38,43,44]) .ret) .skip) (.seq (.reg [oF 18 47 2 0,oL 19 35 18,oF 20 47 3 0,oL 21 35 20,oC 22 99 #[.tmp 19,.tmp 21] #[35,35],oM 23 22,oW 23 true (oF 24 47 2 1),oW 23 true (oL 25 35 24),oW 23 true (oF 26 47 3 1),oW 23 true (oL 27 35 26),oW 23 true (oC 28 99 #[.tmp 25,.tmp 27] #[35,35]),oQ 29 23 28 false,oG 5 29] [2,3,5,22,23,28,29]) (.seq (.reg [oM 30 5,oM 31 30,oW 31 true (oF 32 47 2 4),oW 31 true (oL 33 35 32),oW 31 true (oF 34 47 3 4),oW 31 true (oL 35 35 34),oW 31 true (oC 36 99 #[.tmp 33,.tmp 35] #[35,35]),oQ 37 31 36 false,oM 38 37,oW 38 true (oF 39 47 2 5),oW 38 true (oL 40 35 39),oW 38 true (oF 41 47 3 5),oW 38 true (oL 42 35 41),oW 38 true (oC 43 99 #[.tmp 40,.tmp 42] #[35,35]),oQ 44 38 43 false,oG 4 44] [4,5,22,23,28,29,30,31,36,37,38,43,44]) .ret)))))
theorem s70 : TextK Proofs.Tryz.prog 0 70 45 [ResultVar.tmp 4] c70 := .mk' Proofs.Tryz.f70 _ (by kernel_rfl) rfl rfl rfl (by kernel_rfl) rfl (by kernel_rfl)
theorem okLenI {l : List Int} (h : okV (Li l)) : l.length ≤ 9223372036854775807 := by have := okLen h; simpa using this
theorem ints_ok (a b : List Int) : ACall pg 99 [Li a, Li b] (B (a == b)) := by
  refine s99.call mo (by simp) fun hxs => ?_
  have hla := okLenI hxs.1
  have hlb := okLenI hxs.2.1
  clear hxs
  unfold c99; dsimp only [oB, oG, oI, oJ, oK, oL, oM, oN, oU, oZ]
  repeat' first | (with_reducible first | refine thN ?_ | refine thR ?_ | refine thE ?_ | refine inN ?_ | refine inR ?_ | refine inH ?_ | refine fS ?_ | refine fR ?_ | refine fQ ?_ | refine fE ?_ | refine fT ?_ | refine awBlock ?_ | refine awExit ?_ | refine awRet ?_ | refine awSkip ?_) | ((with_reducible refine awReg fun K hok hK => ?_); clear hok; (try simp (maxSteps := 10000000) (disch := first | omega | simp) []); (repeat' first | (with_reducible refine hK _ (by simp) ?_) | ((with_reducible refine sideQ' ?_ ?_ fun K2 hK2 => ?_); exact rfl; exact rfl; (try simp (maxSteps := 10000000) (disch := first | omega | simp) []); with_reducible refine hK2 _ _ ?_; clear hK2 K2; (try simp (maxSteps := 10000000) (disch := first | omega | simp) []))) <;> clear hK K) | ((with_reducible refine awCond fun A B hA hB => ?_); simp (maxSteps := 10000000) (disch := first | omega | simp) []; (first | refine ⟨fun h => hA ?_, fun h => hB ?_⟩ | refine hA ?_ | refine hB ?_) <;> (clear hA hB A B; (try (exfalso; omega))))
  · have e : (a == b) = false := by rw [beq_eq_false_iff_ne]; intro e; subst e; simp_all
    (refine aEnR (aRes [] fun K hK => ?_); simp (maxSteps := 10000000) (disch := first | omega | simp) [e]; refine hK _ ?_ (by simp); simp (maxSteps := 10000000) (disch := first | omega | simp) [e])
  have hl : a.length = b.length := by omega
  refine awLoop (fun k Γ => ∃ i, i ≤ a.length ∧ k = a.length - i ∧ a.take i = b.take i ∧ Γ = ofA [(5, .p (I i)), (0, .p (Li a)), (1, .p (Li b))]) _ _ (Wk.ofA ?_) ⟨0, by simp, rfl, by simp, rfl⟩ ?_
  · simp
  rintro _ _ ⟨i, hi, rfl, ht, rfl⟩
  repeat' first | (with_reducible first | refine thN ?_ | refine thR ?_ | refine thE ?_ | refine inN ?_ | refine inR ?_ | refine inH ?_ | refine fS ?_ | refine fR ?_ | refine fQ ?_ | refine fE ?_ | refine fT ?_ | refine awBlock ?_ | refine awExit ?_ | refine awRet ?_ | refine awSkip ?_) | ((with_reducible refine awReg fun K hok hK => ?_); clear hok; (try simp (maxSteps := 10000000) (disch := first | omega | simp) []); (repeat' first | (with_reducible refine hK _ (by simp) ?_) | ((with_reducible refine sideQ' ?_ ?_ fun K2 hK2 => ?_); exact rfl; exact rfl; (try simp (maxSteps := 10000000) (disch := first | omega | simp) []); with_reducible refine hK2 _ _ ?_; clear hK2 K2; (try simp (maxSteps := 10000000) (disch := first | omega | simp) []))) <;> clear hK K) | ((with_reducible refine awCond fun A B hA hB => ?_); simp (maxSteps := 10000000) (disch := first | omega | simp) []; (first | refine ⟨fun h => hA ?_, fun h => hB ?_⟩ | refine hA ?_ | refine hB ?_) <;> (clear hA hB A B; (try (exfalso; omega))))
  · have hi2 : i < a.length := by assumption
    have hi3 : i < b.length := by omega
    have e : (a == b) = false := by
      rw [beq_eq_false_iff_ne]; intro e; subst e; simp at h
    (refine aEnR (aRes [] fun K hK => ?_); simp (maxSteps := 10000000) (disch := first | omega | simp) [e]; refine hK _ ?_ (by simp); simp (maxSteps := 10000000) (disch := first | omega | simp) [e])
  · have hi2 : i < a.length := by assumption
    have hi3 : i < b.length := by omega
    refine ⟨_, _, ?_, Wk.ofA ?_, i + 1, by omega, rfl, eq_take hi2 hi3 ht (by simpa using h), rfl⟩
    · omega
    · simp
  · have e : a = b := by
      rw [List.take_of_length_le (by assumption), List.take_of_length_le (by omega)] at ht; exact ht
    (refine aEnR (aRes [] fun K hK => ?_); simp (maxSteps := 10000000) (disch := first | omega | simp) [e]; refine hK _ ?_ (by simp); simp (maxSteps := 10000000) (disch := first | omega | simp) [e])
theorem samePart_ok (a b : Part) : ACall pg 70 [encP a, encP b] (B (a.leader == b.leader && a.epoch == b.epoch && a.ids == b.ids && a.isr == b.isr && a.add == b.add && a.drop == b.drop)) := by
  refine s70.call mo (by simp) fun hxs => ?_
  clear hxs
  unfold c70; dsimp only [oB, oC, oF, oG, oL, oM, oO, oQ, oR, oW, oZ]
  repeat' first | (with_reducible first | refine fS ?_ | refine fR ?_ | refine fQ ?_ | refine fT ?_ | refine awRet ?_) | ((with_reducible refine awReg fun K hok hK => ?_); clear hok; (try simp (maxSteps := 10000000) (disch := first | omega | simp) []); (repeat' first | (with_reducible refine hK _ (by simp) ?_) | ((with_reducible refine gdT (fun h => ?_) (fun h => ?_)) <;> (simp (maxSteps := 10000000) (disch := first | omega | simp) [h]; (try simp at h); (try (exfalso; omega)))) | ((with_reducible refine gdF (fun h => ?_) (fun h => ?_)) <;> (simp (maxSteps := 10000000) (disch := first | omega | simp) [h]; (try simp at h); (try (exfalso; omega)))) | ((with_reducible refine callS' fun K2 hK2 => ?_); (try simp (maxSteps := 10000000) (disch := first | omega | simp) []); (refine hK2 _ _ (ints_ok _ _) rfl fun hk9 => ?_); clear hk9; clear hK2 K2; (try simp (maxSteps := 10000000) (disch := first | omega | simp) []))) <;> clear hK K) | ((with_reducible refine awCond fun A B hA hB => ?_); simp (maxSteps := 10000000) (disch := first | omega | simp) []; (first | refine ⟨fun h => hA ?_, fun h => hB ?_⟩ | refine hA ?_ | refine hB ?_) <;> (clear hA hB A B; (try (exfalso; omega))))
  all_goals ((refine aEnR (aRes [] fun K hK => ?_); simp (maxSteps := 10000000) (disch := first | omega | simp) []; refine hK _ ?_ (by simp); simp (maxSteps := 10000000) (disch := first | omega | simp) []) <;> simp_all)
end
end Go.Am
end
section
set_option maxRecDepth 100000
set_option maxHeartbeats 0
namespace Go.Am
open Go
noncomputable section
def c72 : SC := (.seq (.reg [oZ 4 false] [0,1]) (.seq (.reg [oI 5 0] [0,1,5,11]) (.seq (.block 0 (.seq (.loop (.seq (.reg [oM 6 5,oM 7 0,oN 8 7 35,oB 9 .lss 3 6 8 3] [0,1,5,9,11]) (.seq (.cond (.tmp 9) .skip (.exit 0)) (.seq (.block 1 (.seq (.reg [oM 12 0,oM 13 5,oJ 14 35 12 13,oL 15 3 14,oM 16 1,oB 17 .eql 3 15 16 3] [0,1,5,11,17]) (.seq (.cond (.tmp 17) (.seq (.reg [oZ 4 true] [4]) .ret) .skip) .skip))) (.seq (.reg [oM 10 5,oK 11 .add 3 10 1 3,oG 5 11] [0,1,5,11]) .skip))))) .skip)) (.seq (.reg [oZ 4 false] [4]) .ret))))
theorem s72 : TextK Proofs.Tryz.prog 0 72 18 [ResultVar.tmp 4] c72 := .mk' Proofs.Tryz.f72 _ (by kernel_rfl) rfl rfl rfl (by kernel_rfl) rfl (by kernel_rfl)
theorem has_ok (l : List Int) (n : Int) : ACall pg 72 [Li l, I n] (B (l.contains n)) := by
  refine s72.call mo (by simp) fun hxs => ?_
  have hlen := okLenI hxs.1
  clear hxs
  unfold c72; dsimp only [oB, oG, oI, oJ, oK, oL, oM, oN, oZ]
  refine wk ?_
  refine awLoop (fun k Γ => ∃ i, i ≤ l.length ∧ k = l.length - i ∧ n ∉ l.take i ∧ Γ = ofA [(5, .p (I i)), (0, .p (Li l)), (1, .p (I n))]) _ _ (Wk.ofA ?_) ⟨0, by simp, rfl, by simp, rfl⟩ ?_
  · simp
  rintro _ _ ⟨i, hi, rfl, hni, rfl⟩
  repeat' first | (with_reducible first | refine thN ?_ | refine thR ?_ | refine thE ?_ | refine inN ?_ | refine inR ?_ | refine inH ?_ | refine fS ?_ | refine fR ?_ | refine fQ ?_ | refine fE ?_ | refine fT ?_ | refine awBlock ?_ | refine awExit ?_ | refine awRet ?_ | refine awSkip ?_) | ((with_reducible refine awReg fun K hok hK => ?_); clear hok; (try simp (maxSteps := 10000000) (disch := first | omega | simp) []); (repeat' first | (with_reducible refine hK _ (by simp) ?_)) <;> clear hK K) | ((with_reducible refine awCond fun A B hA hB => ?_); simp (maxSteps := 10000000) (disch := first | omega | simp) []; (first | refine ⟨fun h => hA ?_, fun h => hB ?_⟩ | refine hA ?_ | refine hB ?_) <;> (clear hA hB A B; (try (exfalso; omega))))
  · have e : l.contains n = true := by rw [List.contains_iff_mem]; exact h ▸ List.getElem_mem (by assumption)
    (refine aEnR (aRes [] fun K hK => ?_); simp (maxSteps := 10000000) (disch := first | omega | simp) [e]; refine hK _ ?_ (by simp); simp (maxSteps := 10000000) (disch := first | omega | simp) [e])
    simpa using e
  · refine ⟨_, _, ?_, Wk.ofA ?_, i + 1, by omega, rfl, not_take (List.getElem?_eq_getElem (by assumption)) hni h, rfl⟩
    · omega
    · simp
  · have e : l.contains n = false := by
      rw [List.take_of_length_le h] at hni; simpa using hni
    (refine aEnR (aRes [] fun K hK => ?_); simp (maxSteps := 10000000) (disch := first | omega | simp) [e]; refine hK _ ?_ (by simp); simp (maxSteps := 10000000) (disch := first | omega | simp) [e])
    simpa using e
end
end Go.Am
end
section
set_option maxRecDepth 100000
set_option maxHeartbeats 0
namespace Go.Am
open Go
noncomputable section
end
end Go.Am
end
