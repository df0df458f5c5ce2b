/- Part of the proof of a law of moving. -/
import Derived.Test.YtmnheledelnbfaaGreatDoorQE3
set_option linter.all false
set_option maxRecDepth 100000
set_option maxHeartbeats 0
namespace Go.Am
open Go
noncomputable section
def c76 : SC := (.seq (.reg [oO 3 36 0,oO 4 53 1,oI 6 0] [2,3,4,10,17,18,20,22,23,39,40]) (.seq (.reg [oD 11 (.buildSlice 163 2 #[(0,.const (.bool true)),(1,.const (.bool false))]),oN 12 11 163,oD 13 (.move (.const (.int .i64 0)))] [2,3,4,10,11,12,13,17,18,20,22,23,39,40,41]) (.seq (.block 0 (.seq (.loop (.seq (.reg [oB 14 .lss 3 13 12 3] [2,3,4,10,11,12,13,14,17,18,20,22,23,39,40,41]) (.seq (.cond (.tmp 14) .skip (.exit 0)) (.seq (.block 1 (.seq (.reg [oJ 15 163 11 13,oL 16 4 15,oG 8 16] [2,3,4,8,10,11,12,13,15,16,17,18,20,22,23,39,40,41]) (.seq (.reg [oF 17 53 4 0,oL 18 23 17,oN 19 18 23,oD 20 (.move (.const (.int .i64 0)))] [2,3,4,8,10,11,12,13,15,16,17,18,19,20,22,23,39,40,41]) (.seq (.block 2 (.seq (.loop (.seq (.reg [oB 21 .lss 3 20 19 3] [2,3,4,8,10,11,12,13,15,16,17,18,19,20,21,22,23,39,40,41]) (.seq (.cond (.tmp 21) .skip (.exit 2)) (.seq (.block 3 (.seq (.reg [oJ 22 23 18 20,oL 23 3 22,oG 10 23] [2,3,4,8,10,11,12,13,15,16,17,18,19,20,22,23,39,40,41]) (.seq (.reg [oM 24 10,oM 25 2,oB 26 .neq 3 24 25 3,oM 27 26,oW 27 true (oF 28 53 4 1),oW 27 true (oL 29 23 28),oW 27 true (oM 30 10),oW 27 true (oC 31 72 #[.tmp 29,.tmp 30] #[23,3]),oQ 32 27 31 false,oM 33 32,oW 33 true (oL 34 36 3),oW 33 true (oM 35 10),oW 33 true (oM 36 8),oW 33 true (oC 37 96 #[.tmp 34,.tmp 35,.tmp 36] #[36,3,4]),oQ 38 33 37 false] [2,3,4,8,10,11,12,13,15,16,17,18,19,20,22,23,26,27,31,32,33,37,38,39,40,41]) (.seq (.cond (.tmp 38) (.seq (.reg [oM 39 10,oG 6 39] [4,6,10,17,18,20,22,23,39,40]) .ret) .skip) .skip)))) (.seq (.reg [oK 40 .add 3 20 1 3,oM 20 40] [2,3,4,8,10,11,12,13,15,16,17,18,19,20,22,23,39,40,41]) .skip))))) .skip)) .skip)))) (.seq (.reg [oK 41 .add 3 13 1 3,oM 13 41] [2,3,4,10,11,12,13,17,18,20,22,23,39,40,41]) .skip))))) .skip)) (.seq (.reg [oI 6 0] [4,6,10,17,18,20,22,23,39,40]) .ret))))
theorem s76 : TextK Proofs.Tryz.prog 0 76 42 [ResultVar.tmp 6] c76 := .mk' Proofs.Tryz.f76 _ (by kernel_rfl) rfl rfl rfl (by kernel_rfl) rfl (by kernel_rfl)
theorem chooseP_ok (m : Image) (p : Part) (but : Int) (hbk : m.Brk) (hp : p.Small) (hb : ∀ n ∈ p.ids, big62 n) : ACall pg 76 [encM m, encP p, I but] (I (m.chooseP p but)) := by
  refine s76.call mo (by simp) fun hxs => ?_
  clear hxs
  have hpi := hp.ids
  unfold c76; dsimp only [oB, oC, oD, oF, oG, oI, oJ, oK, oL, oM, oN, oO, oQ, oW]
  repeat' first | (with_reducible first | refine thN ?_ | refine thR ?_ | refine thE ?_ | refine inN ?_ | refine inR ?_ | refine inH ?_ | refine fS ?_ | refine fR ?_ | refine fQ ?_ | refine fE ?_ | refine fT ?_ | refine awBlock ?_ | refine awExit ?_ | refine awRet ?_ | refine awSkip ?_) | ((with_reducible refine awReg fun K hok hK => ?_); clear hok; (try simp (maxSteps := 10000000) (disch := first | omega | simp) []); (repeat' first | (with_reducible refine hK _ (by simp) ?_) | ((with_reducible refine gdT (fun h => ?_) (fun h => ?_)) <;> (simp (maxSteps := 10000000) (disch := first | omega | simp) [h]; (try simp at h); (try (exfalso; omega))))) <;> clear hK K) | ((with_reducible refine awCond fun A B hA hB => ?_); simp (maxSteps := 10000000) (disch := first | omega | simp) []; (first | refine ⟨fun h => hA ?_, fun h => hB ?_⟩ | refine hA ?_ | refine hB ?_) <;> (clear hA hB A B; (try (exfalso; omega))))
  refine awFor 2 (fun k (_ : Unit) => ∀ st ∈ [true, false].take k, p.ids.find? (m.mayLead p but st) = none) (fun k _ => [(13, .p (I k)), (12, .p (I 2)), (11, .p (.uq [B true, B false])), (4, .p (.own (encP p).cells)), (3, .p (.own (encM m).cells)), (2, .p (I but))]) () (Wk.ofA (by simp)) (by simp) fun k _ hk hs => ?_
  by_cases hk2 : k < 2
  · obtain ⟨st, hst⟩ : ∃ st, [true, false][k]? = some st := ⟨_, List.getElem?_eq_getElem (by simpa using hk2)⟩
    have hgo : p.ids.find? (m.mayLead p but st) = none → ∀ st ∈ [true, false].take (k + 1), p.ids.find? (m.mayLead p but st) = none := by
      intro hn x hx
      rw [List.take_add_one, hst] at hx
      simp only [Option.toList_some, List.mem_append, List.mem_singleton] at hx
      rcases hx with hx | rfl
      · exact hs x hx
      · exact hn
    have hres : ∀ x, p.ids.find? (m.mayLead p but st) = some x → m.chooseP p but = x := by
      intro x hx
      obtain rfl | rfl : k = 0 ∨ k = 1 := by omega
      · simp at hst; subst hst; simp [Image.chooseP, hx]
      · simp at hst; subst hst
        have := hs true (by simp)
        simp [Image.chooseP, hx, this]
    obtain rfl | rfl : k = 0 ∨ k = 1 := by omega
    · simp at hst
      subst hst
      repeat' first | (with_reducible first | refine thN ?_ | refine thR ?_ | refine thE ?_ | refine inN ?_ | refine inR ?_ | refine inH ?_ | refine fS ?_ | refine fR ?_ | refine fQ ?_ | refine fE ?_ | refine fT ?_ | refine awBlock ?_ | refine awExit ?_ | refine awRet ?_ | refine awSkip ?_) | ((with_reducible refine awReg fun K hok hK => ?_); clear hok; (try simp (maxSteps := 10000000) (disch := first | omega | simp) []); (repeat' first | (with_reducible refine hK _ (by simp) ?_) | ((with_reducible refine gdT (fun h => ?_) (fun h => ?_)) <;> (simp (maxSteps := 10000000) (disch := first | omega | simp) [h]; (try simp at h); (try (exfalso; omega))))) <;> clear hK K) | ((with_reducible refine awCond fun A B hA hB => ?_); simp (maxSteps := 10000000) (disch := first | omega | simp) []; (first | refine ⟨fun h => hA ?_, fun h => hB ?_⟩ | refine hA ?_ | refine hB ?_) <;> (clear hA hB A B; (try (exfalso; omega))))
      refine awFor p.ids.length (fun i (_ : Unit) => (p.ids.drop i).find? (m.mayLead p but true) = p.ids.find? (m.mayLead p but true)) (fun i _ => [(20, .p (I i)), (19, .p (I p.ids.length)), (18, .p (Li p.ids)), (8, .p (B true)), (13, .p (I 0)), (12, .p (I 2)), (11, .p (.uq [B true, B false])), (4, .p (.own (encP p).cells)), (3, .p (.own (encM m).cells)), (2, .p (I but))]) () (Wk.ofA (by simp)) rfl fun i _ hi hf => ?_
      by_cases hlt : i < p.ids.length
      · rw [drop_cons hlt, List.find?_cons] at hf
        have hb1 := hb p.ids[i] (List.getElem_mem hlt)
        repeat' first | (with_reducible first | refine thN ?_ | refine thR ?_ | refine thE ?_ | refine inN ?_ | refine inR ?_ | refine inH ?_ | refine fS ?_ | refine fR ?_ | refine fQ ?_ | refine fE ?_ | refine fT ?_ | refine awBlock ?_ | refine awExit ?_ | refine awRet ?_ | refine awSkip ?_) | ((with_reducible refine awReg fun K hok hK => ?_); clear hok; (try simp (maxSteps := 10000000) (disch := first | omega | simp) []); (repeat' first | (with_reducible refine hK _ (by simp) ?_) | ((with_reducible refine gdT (fun h => ?_) (fun h => ?_)) <;> (simp (maxSteps := 10000000) (disch := first | omega | simp) [h]; (try simp at h); (try (exfalso; omega)))) | ((with_reducible refine callS' fun K2 hK2 => ?_); (try simp (maxSteps := 10000000) (disch := first | omega | simp) []); (first | refine hK2 _ _ (contains_ok p.isr _ hp.isr) rfl fun hk9 => ?_ | refine hK2 _ _ (fit_ok' m _ _ hbk hb1) rfl fun hk9 => ?_); clear hk9; clear hK2 K2; (try simp (maxSteps := 10000000) (disch := first | omega | simp) []))) <;> clear hK K) | ((with_reducible refine awCond fun A B hA hB => ?_); simp (maxSteps := 10000000) (disch := first | omega | simp) []; (first | refine ⟨fun h => hA ?_, fun h => hB ?_⟩ | refine hA ?_ | refine hB ?_) <;> (clear hA hB A B; (try (exfalso; omega))))
        all_goals first
          | ((refine ⟨?_, (), ?_, Wk.ofA ?_⟩; assumption; rotate_left; focus (simp []; done))
             have e : m.mayLead p but true p.ids[i] = false := (by simp [Image.mayLead, *])
             rw [e] at hf
             exact hf)
          | (have e : m.mayLead p but true p.ids[i] = true := (by simp [Image.mayLead, *])
             rw [e] at hf
             have e2 := hres _ hf.symm
             clear hf
             (refine aEnR (aRes [] fun K hK => ?_); simp (maxSteps := 10000000) (disch := first | omega | simp) [e2]; refine hK _ ?_ (by simp); clear hK; first | done | (simp (maxSteps := 10000000) (disch := first | omega | simp) [e2, *]; done) | (simp (maxSteps := 10000000) (disch := first | omega | simp) [e2, *]; omega) | (simp_all [e2]; done) | (simp_all [e2]; omega)))
      · rw [drop_nil (by omega)] at hf
        have hf := hf.symm
        simp only [List.find?_nil] at hf
        repeat' first | (with_reducible first | refine thN ?_ | refine thR ?_ | refine thE ?_ | refine inN ?_ | refine inR ?_ | refine inH ?_ | refine fS ?_ | refine fR ?_ | refine fQ ?_ | refine fE ?_ | refine fT ?_ | refine awBlock ?_ | refine awExit ?_ | refine awRet ?_ | refine awSkip ?_) | ((with_reducible refine awReg fun K hok hK => ?_); clear hok; (try simp (maxSteps := 10000000) (disch := first | omega | simp) []); (repeat' first | (with_reducible refine hK _ (by simp) ?_) | ((with_reducible refine gdT (fun h => ?_) (fun h => ?_)) <;> (simp (maxSteps := 10000000) (disch := first | omega | simp) [h]; (try simp at h); (try (exfalso; omega))))) <;> clear hK K) | ((with_reducible refine awCond fun A B hA hB => ?_); simp (maxSteps := 10000000) (disch := first | omega | simp) []; (first | refine ⟨fun h => hA ?_, fun h => hB ?_⟩ | refine hA ?_ | refine hB ?_) <;> (clear hA hB A B; (try (exfalso; omega))))
        (refine ⟨?_, (), ?_, Wk.ofA ?_⟩; assumption; rotate_left; focus (simp []; done))
        exact hgo hf
    · simp at hst
      subst hst
      repeat' first | (with_reducible first | refine thN ?_ | refine thR ?_ | refine thE ?_ | refine inN ?_ | refine inR ?_ | refine inH ?_ | refine fS ?_ | refine fR ?_ | refine fQ ?_ | refine fE ?_ | refine fT ?_ | refine awBlock ?_ | refine awExit ?_ | refine awRet ?_ | refine awSkip ?_) | ((with_reducible refine awReg fun K hok hK => ?_); clear hok; (try simp (maxSteps := 10000000) (disch := first | omega | simp) []); (repeat' first | (with_reducible refine hK _ (by simp) ?_) | ((with_reducible refine gdT (fun h => ?_) (fun h => ?_)) <;> (simp (maxSteps := 10000000) (disch := first | omega | simp) [h]; (try simp at h); (try (exfalso; omega))))) <;> clear hK K) | ((with_reducible refine awCond fun A B hA hB => ?_); simp (maxSteps := 10000000) (disch := first | omega | simp) []; (first | refine ⟨fun h => hA ?_, fun h => hB ?_⟩ | refine hA ?_ | refine hB ?_) <;> (clear hA hB A B; (try (exfalso; omega))))
      refine awFor p.ids.length (fun i (_ : Unit) => (p.ids.drop i).find? (m.mayLead p but false) = p.ids.find? (m.mayLead p but false)) (fun i _ => [(20, .p (I i)), (19, .p (I p.ids.length)), (18, .p (Li p.ids)), (8, .p (B false)), (13, .p (I 1)), (12, .p (I 2)), (11, .p (.uq [B true, B false])), (4, .p (.own (encP p).cells)), (3, .p (.own (encM m).cells)), (2, .p (I but))]) () (Wk.ofA (by simp)) rfl fun i _ hi hf => ?_
      by_cases hlt : i < p.ids.length
      · rw [drop_cons hlt, List.find?_cons] at hf
        have hb1 := hb p.ids[i] (List.getElem_mem hlt)
        repeat' first | (with_reducible first | refine thN ?_ | refine thR ?_ | refine thE ?_ | refine inN ?_ | refine inR ?_ | refine inH ?_ | refine fS ?_ | refine fR ?_ | refine fQ ?_ | refine fE ?_ | refine fT ?_ | refine awBlock ?_ | refine awExit ?_ | refine awRet ?_ | refine awSkip ?_) | ((with_reducible refine awReg fun K hok hK => ?_); clear hok; (try simp (maxSteps := 10000000) (disch := first | omega | simp) []); (repeat' first | (with_reducible refine hK _ (by simp) ?_) | ((with_reducible refine gdT (fun h => ?_) (fun h => ?_)) <;> (simp (maxSteps := 10000000) (disch := first | omega | simp) [h]; (try simp at h); (try (exfalso; omega)))) | ((with_reducible refine callS' fun K2 hK2 => ?_); (try simp (maxSteps := 10000000) (disch := first | omega | simp) []); (first | refine hK2 _ _ (contains_ok p.isr _ hp.isr) rfl fun hk9 => ?_ | refine hK2 _ _ (fit_ok' m _ _ hbk hb1) rfl fun hk9 => ?_); clear hk9; clear hK2 K2; (try simp (maxSteps := 10000000) (disch := first | omega | simp) []))) <;> clear hK K) | ((with_reducible refine awCond fun A B hA hB => ?_); simp (maxSteps := 10000000) (disch := first | omega | simp) []; (first | refine ⟨fun h => hA ?_, fun h => hB ?_⟩ | refine hA ?_ | refine hB ?_) <;> (clear hA hB A B; (try (exfalso; omega))))
        all_goals first
          | ((refine ⟨?_, (), ?_, Wk.ofA ?_⟩; assumption; rotate_left; focus (simp []; done))
             have e : m.mayLead p but false p.ids[i] = false := (by simp [Image.mayLead, *])
             rw [e] at hf
             exact hf)
          | (have e : m.mayLead p but false p.ids[i] = true := (by simp [Image.mayLead, *])
             rw [e] at hf
             have e2 := hres _ hf.symm
             clear hf
             (refine aEnR (aRes [] fun K hK => ?_); simp (maxSteps := 10000000) (disch := first | omega | simp) [e2]; refine hK _ ?_ (by simp); clear hK; first | done | (simp (maxSteps := 10000000) (disch := first | omega | simp) [e2, *]; done) | (simp (maxSteps := 10000000) (disch := first | omega | simp) [e2, *]; omega) | (simp_all [e2]; done) | (simp_all [e2]; omega)))
      · rw [drop_nil (by omega)] at hf
        have hf := hf.symm
        simp only [List.find?_nil] at hf
        repeat' first | (with_reducible first | refine thN ?_ | refine thR ?_ | refine thE ?_ | refine inN ?_ | refine inR ?_ | refine inH ?_ | refine fS ?_ | refine fR ?_ | refine fQ ?_ | refine fE ?_ | refine fT ?_ | refine awBlock ?_ | refine awExit ?_ | refine awRet ?_ | refine awSkip ?_) | ((with_reducible refine awReg fun K hok hK => ?_); clear hok; (try simp (maxSteps := 10000000) (disch := first | omega | simp) []); (repeat' first | (with_reducible refine hK _ (by simp) ?_) | ((with_reducible refine gdT (fun h => ?_) (fun h => ?_)) <;> (simp (maxSteps := 10000000) (disch := first | omega | simp) [h]; (try simp at h); (try (exfalso; omega))))) <;> clear hK K) | ((with_reducible refine awCond fun A B hA hB => ?_); simp (maxSteps := 10000000) (disch := first | omega | simp) []; (first | refine ⟨fun h => hA ?_, fun h => hB ?_⟩ | refine hA ?_ | refine hB ?_) <;> (clear hA hB A B; (try (exfalso; omega))))
        (refine ⟨?_, (), ?_, Wk.ofA ?_⟩; assumption; rotate_left; focus (simp []; done))
        exact hgo hf
  · have e : m.chooseP p but = 0 := by
      have h1 := hs true (by simp [show k = 2 by omega])
      have h2 := hs false (by simp [show k = 2 by omega])
      simp [Image.chooseP, h1, h2]
    repeat' first | (with_reducible first | refine thN ?_ | refine thR ?_ | refine thE ?_ | refine inN ?_ | refine inR ?_ | refine inH ?_ | refine fS ?_ | refine fR ?_ | refine fQ ?_ | refine fE ?_ | refine fT ?_ | refine awBlock ?_ | refine awExit ?_ | refine awRet ?_ | refine awSkip ?_) | ((with_reducible refine awReg fun K hok hK => ?_); clear hok; (try simp (maxSteps := 10000000) (disch := first | omega | simp) []); (repeat' first | (with_reducible refine hK _ (by simp) ?_) | ((with_reducible refine gdT (fun h => ?_) (fun h => ?_)) <;> (simp (maxSteps := 10000000) (disch := first | omega | simp) [h]; (try simp at h); (try (exfalso; omega))))) <;> clear hK K) | ((with_reducible refine awCond fun A B hA hB => ?_); simp (maxSteps := 10000000) (disch := first | omega | simp) []; (first | refine ⟨fun h => hA ?_, fun h => hB ?_⟩ | refine hA ?_ | refine hB ?_) <;> (clear hA hB A B; (try (exfalso; omega))))
    (refine aEnR (aRes [] fun K hK => ?_); simp (maxSteps := 10000000) (disch := first | omega | simp) [e]; refine hK _ ?_ (by simp); clear hK; first | done | (simp (maxSteps := 10000000) (disch := first | omega | simp) [e, *]; done) | (simp (maxSteps := 10000000) (disch := first | omega | simp) [e, *]; omega) | (simp_all [e]; done) | (simp_all [e]; omega))
end
end Go.Am
