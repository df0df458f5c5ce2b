/- Part of the proof of a law of moving. -/
import Derived.Test.YtmnheledelnbfaaGreatQE3
set_option linter.all false
set_option maxRecDepth 100000
set_option maxHeartbeats 0
namespace Go.Am
open Go
noncomputable section
def c56 : SC := (.seq (.reg [⟨some 3, .box 36 (.tmp 0), none, []⟩,
  ⟨some 4, .box 52 (.tmp 1), none, []⟩,
  ⟨some 6, .assign (.const (.int .i64 0)), none, []⟩] [2, 3, 4, 10, 17, 18, 20, 22, 23, 39, 40]) (.seq (.reg [⟨some 11, .buildSlice 123 2 #[(0, .const (.bool true)), (1, .const (.bool false))], none, []⟩,
  ⟨some 12, .call { callee := .builtin .len, args := #[.tmp 11], argTypes := #[123] }, none, []⟩,
  ⟨some 13, .move (.const (.int .i64 0)), none, []⟩] [2, 3, 4, 10, 11, 12, 13, 17, 18, 20, 22, 23, 39, 40, 41]) (.seq (.block 0 (.seq (.loop (.seq (.reg [⟨some 14, .binOp .lss 3 (.tmp 13) (.tmp 12) 3, none, []⟩] [2, 3, 4, 10, 11, 12, 13, 14, 17, 18, 20, 22, 23, 39, 40, 41]) (.seq (.cond (.tmp 14) .skip (.exit 0)) (.seq (.block 1 (.seq (.reg [⟨some 15, .indexAddr 123 (.tmp 11) (.tmp 13), none, []⟩,
  ⟨some 16, .load 4 (.tmp 15), none, []⟩,
  ⟨some 8, .assign (.tmp 16), none, []⟩] [2, 3, 4, 8, 10, 11, 12, 13, 15, 16, 17, 18, 20, 22, 23, 39, 40, 41]) (.seq (.reg [⟨some 17, .fieldAddr 52 (.tmp 4) 0, none, []⟩,
  ⟨some 18, .load 23 (.tmp 17), none, []⟩,
  ⟨some 19, .call { callee := .builtin .len, args := #[.tmp 18], argTypes := #[23] }, none, []⟩,
  ⟨some 20, .move (.const (.int .i64 0)), none, []⟩] [2, 3, 4, 8, 10, 11, 12, 13, 15, 16, 17, 18, 19, 20, 22, 23, 39, 40, 41]) (.seq (.block 2 (.seq (.loop (.seq (.reg [⟨some 21, .binOp .lss 3 (.tmp 20) (.tmp 19) 3, none, []⟩] [2, 3, 4, 8, 10, 11, 12, 13, 15, 16, 17, 18, 19, 20, 21, 22, 23, 39, 40, 41]) (.seq (.cond (.tmp 21) .skip (.exit 2)) (.seq (.block 3 (.seq (.reg [⟨some 22, .indexAddr 23 (.tmp 18) (.tmp 20), none, []⟩,
  ⟨some 23, .load 3 (.tmp 22), none, []⟩,
  ⟨some 10, .assign (.tmp 23), none, []⟩] [2, 3, 4, 8, 10, 11, 12, 13, 15, 16, 17, 18, 19, 20, 22, 23, 39, 40, 41]) (.seq (.reg [⟨some 24, .move (.tmp 10), none, []⟩,
  ⟨some 25, .move (.tmp 2), none, []⟩,
  ⟨some 26, .binOp .neq 3 (.tmp 24) (.tmp 25) 3, none, []⟩,
  ⟨some 27, .move (.tmp 26), none, []⟩,
  ⟨some 28, .fieldAddr 52 (.tmp 4) 1, (some (27, true)), []⟩,
  ⟨some 29, .load 23 (.tmp 28), (some (27, true)), []⟩,
  ⟨some 30, .move (.tmp 10), (some (27, true)), []⟩,
  ⟨some 31, .call { callee := .value (.func 55), args := #[.tmp 29, .tmp 30], argTypes := #[23, 3] }, (some (27, true)), []⟩,
  ⟨some 32, .pick (.tmp 27) (.tmp 31) (.const (.bool false)), none, []⟩,
  ⟨some 33, .move (.tmp 32), none, []⟩,
  ⟨some 34, .load 36 (.tmp 3), (some (33, true)), []⟩,
  ⟨some 35, .move (.tmp 10), (some (33, true)), []⟩,
  ⟨some 36, .move (.tmp 8), (some (33, true)), []⟩,
  ⟨some 37, .call { callee := .value (.func 75), args := #[.tmp 34, .tmp 35, .tmp 36], argTypes := #[36, 3, 4] }, (some (33, true)), []⟩,
  ⟨some 38, .pick (.tmp 33) (.tmp 37) (.const (.bool false)), none, []⟩] [2, 3, 4, 8, 10, 11, 12, 13, 15, 16, 17, 18, 19, 20, 22, 23, 26, 27, 31, 32, 33, 37, 38, 39, 40, 41]) (.seq (.cond (.tmp 38) (.seq (.reg [⟨some 39, .move (.tmp 10), none, []⟩,
  ⟨some 6, .assign (.tmp 39), none, []⟩] [4, 6, 10, 17, 18, 20, 22, 23, 39, 40]) .ret) .skip) .skip)))) (.seq (.reg [⟨some 40, .binOp .add 3 (.tmp 20) (.const (.int .i64 1)) 3, none, []⟩,
  ⟨some 20, .move (.tmp 40), none, []⟩] [2, 3, 4, 8, 10, 11, 12, 13, 15, 16, 17, 18, 19, 20, 22, 23, 39, 40, 41]) .skip))))) .skip)) .skip)))) (.seq (.reg [⟨some 41, .binOp .add 3 (.tmp 13) (.const (.int .i64 1)) 3, none, []⟩,
  ⟨some 13, .move (.tmp 41), none, []⟩] [2, 3, 4, 10, 11, 12, 13, 17, 18, 20, 22, 23, 39, 40, 41]) .skip))))) .skip)) (.seq (.reg [⟨some 6, .assign (.const (.int .i64 0)), none, []⟩] [4, 6, 10, 17, 18, 20, 22, 23, 39, 40]) .ret))))
theorem s56 : TextK Proofs.Tryz.prog 0 56 42 [ResultVar.tmp 6] c56 := .mk' Proofs.Tryz.f56 _ (by kernel_rfl) rfl rfl rfl (by kernel_rfl) rfl (by kernel_rfl)
theorem chooseP_ok (m : Image) (p : Part) (but : Int) (hbk : m.Brk) (hp : p.Small) (hb : ∀ n ∈ p.ids, big62 n) : ACall pg 56 [encM m, encP p, I but] (I (m.chooseP p but)) := by
  refine s56.call mo (by simp) fun hxs => ?_
  clear hxs
  have hpi := hp.ids
  unfold c56
  repeat' first | (with_reducible first | refine thN ?_ | refine thR ?_ | refine thE ?_ | refine inN ?_ | refine inR ?_ | refine inH ?_ | refine fS ?_ | refine fR ?_ | refine fQ ?_ | refine fE ?_ | refine fT ?_ | refine awBlock ?_ | refine awExit ?_ | refine awRet ?_ | refine awSkip ?_) | ((with_reducible refine awReg fun K hok hK => ?_); clear hok; (try simp (maxSteps := 10000000) (disch := first | omega | simp) []); (repeat' first | (with_reducible refine hK _ (by simp) ?_) | ((with_reducible refine gdT (fun h => ?_) (fun h => ?_)) <;> (simp (maxSteps := 10000000) (disch := first | omega | simp) [h]; (try simp at h); (try (exfalso; omega))))) <;> clear hK K) | ((with_reducible refine awCond fun A B hA hB => ?_); simp (maxSteps := 10000000) (disch := first | omega | simp) []; (first | refine ⟨fun h => hA ?_, fun h => hB ?_⟩ | refine hA ?_ | refine hB ?_) <;> (clear hA hB A B; (try (exfalso; omega))))
  refine awFor 2 (fun k (_ : Unit) => ∀ st ∈ [true, false].take k, p.ids.find? (m.mayLead p but st) = none) (fun k _ => [(13, .p (I k)), (12, .p (I 2)), (11, .p (.uq [B true, B false])), (4, .p (.own (encP p).cells)), (3, .p (.own (encM m).cells)), (2, .p (I but))]) () (Wk.ofA (by simp)) (by simp) fun k _ hk hs => ?_
  by_cases hk2 : k < 2
  · obtain ⟨st, hst⟩ : ∃ st, [true, false][k]? = some st := ⟨_, List.getElem?_eq_getElem (by simpa using hk2)⟩
    have hgo : p.ids.find? (m.mayLead p but st) = none → ∀ st ∈ [true, false].take (k + 1), p.ids.find? (m.mayLead p but st) = none := by
      intro hn x hx
      rw [List.take_add_one, hst] at hx
      simp only [Option.toList_some, List.mem_append, List.mem_singleton] at hx
      rcases hx with hx | rfl
      · exact hs x hx
      · exact hn
    have hres : ∀ x, p.ids.find? (m.mayLead p but st) = some x → m.chooseP p but = x := by
      intro x hx
      obtain rfl | rfl : k = 0 ∨ k = 1 := by omega
      · simp at hst; subst hst; simp [Image.chooseP, hx]
      · simp at hst; subst hst
        have := hs true (by simp)
        simp [Image.chooseP, hx, this]
    obtain rfl | rfl : k = 0 ∨ k = 1 := by omega
    · simp at hst
      subst hst
      repeat' first | (with_reducible first | refine thN ?_ | refine thR ?_ | refine thE ?_ | refine inN ?_ | refine inR ?_ | refine inH ?_ | refine fS ?_ | refine fR ?_ | refine fQ ?_ | refine fE ?_ | refine fT ?_ | refine awBlock ?_ | refine awExit ?_ | refine awRet ?_ | refine awSkip ?_) | ((with_reducible refine awReg fun K hok hK => ?_); clear hok; (try simp (maxSteps := 10000000) (disch := first | omega | simp) []); (repeat' first | (with_reducible refine hK _ (by simp) ?_) | ((with_reducible refine gdT (fun h => ?_) (fun h => ?_)) <;> (simp (maxSteps := 10000000) (disch := first | omega | simp) [h]; (try simp at h); (try (exfalso; omega))))) <;> clear hK K) | ((with_reducible refine awCond fun A B hA hB => ?_); simp (maxSteps := 10000000) (disch := first | omega | simp) []; (first | refine ⟨fun h => hA ?_, fun h => hB ?_⟩ | refine hA ?_ | refine hB ?_) <;> (clear hA hB A B; (try (exfalso; omega))))
      refine awFor p.ids.length (fun i (_ : Unit) => (p.ids.drop i).find? (m.mayLead p but true) = p.ids.find? (m.mayLead p but true)) (fun i _ => [(20, .p (I i)), (19, .p (I p.ids.length)), (18, .p (Li p.ids)), (8, .p (B true)), (13, .p (I 0)), (12, .p (I 2)), (11, .p (.uq [B true, B false])), (4, .p (.own (encP p).cells)), (3, .p (.own (encM m).cells)), (2, .p (I but))]) () (Wk.ofA (by simp)) rfl fun i _ hi hf => ?_
      by_cases hlt : i < p.ids.length
      · rw [drop_cons hlt, List.find?_cons] at hf
        have hb1 := hb p.ids[i] (List.getElem_mem hlt)
        repeat' first | (with_reducible first | refine thN ?_ | refine thR ?_ | refine thE ?_ | refine inN ?_ | refine inR ?_ | refine inH ?_ | refine fS ?_ | refine fR ?_ | refine fQ ?_ | refine fE ?_ | refine fT ?_ | refine awBlock ?_ | refine awExit ?_ | refine awRet ?_ | refine awSkip ?_) | ((with_reducible refine awReg fun K hok hK => ?_); clear hok; (try simp (maxSteps := 10000000) (disch := first | omega | simp) []); (repeat' first | (with_reducible refine hK _ (by simp) ?_) | ((with_reducible refine gdT (fun h => ?_) (fun h => ?_)) <;> (simp (maxSteps := 10000000) (disch := first | omega | simp) [h]; (try simp at h); (try (exfalso; omega)))) | ((with_reducible refine callS' fun K2 hK2 => ?_); (try simp (maxSteps := 10000000) (disch := first | omega | simp) []); (first | refine hK2 _ _ (contains_ok p.isr _ hp.isr) rfl fun hk9 => ?_ | refine hK2 _ _ (fit_ok' m _ _ hbk hb1) rfl fun hk9 => ?_); clear hk9; clear hK2 K2; (try simp (maxSteps := 10000000) (disch := first | omega | simp) []))) <;> clear hK K) | ((with_reducible refine awCond fun A B hA hB => ?_); simp (maxSteps := 10000000) (disch := first | omega | simp) []; (first | refine ⟨fun h => hA ?_, fun h => hB ?_⟩ | refine hA ?_ | refine hB ?_) <;> (clear hA hB A B; (try (exfalso; omega))))
        all_goals first
          | ((refine ⟨?_, (), ?_, Wk.ofA ?_⟩; assumption; rotate_left; focus (simp []; done))
             have e : m.mayLead p but true p.ids[i] = false := (by simp [Image.mayLead, *])
             rw [e] at hf
             exact hf)
          | (have e : m.mayLead p but true p.ids[i] = true := (by simp [Image.mayLead, *])
             rw [e] at hf
             have e2 := hres _ hf.symm
             clear hf
             (refine aEnR (aRes [] fun K hK => ?_); simp (maxSteps := 10000000) (disch := first | omega | simp) [e2]; refine hK _ ?_ (by simp); clear hK; first | done | (simp (maxSteps := 10000000) (disch := first | omega | simp) [e2, *]; done) | (simp (maxSteps := 10000000) (disch := first | omega | simp) [e2, *]; omega) | (simp_all [e2]; done) | (simp_all [e2]; omega)))
      · rw [drop_nil (by omega)] at hf
        have hf := hf.symm
        simp only [List.find?_nil] at hf
        repeat' first | (with_reducible first | refine thN ?_ | refine thR ?_ | refine thE ?_ | refine inN ?_ | refine inR ?_ | refine inH ?_ | refine fS ?_ | refine fR ?_ | refine fQ ?_ | refine fE ?_ | refine fT ?_ | refine awBlock ?_ | refine awExit ?_ | refine awRet ?_ | refine awSkip ?_) | ((with_reducible refine awReg fun K hok hK => ?_); clear hok; (try simp (maxSteps := 10000000) (disch := first | omega | simp) []); (repeat' first | (with_reducible refine hK _ (by simp) ?_) | ((with_reducible refine gdT (fun h => ?_) (fun h => ?_)) <;> (simp (maxSteps := 10000000) (disch := first | omega | simp) [h]; (try simp at h); (try (exfalso; omega))))) <;> clear hK K) | ((with_reducible refine awCond fun A B hA hB => ?_); simp (maxSteps := 10000000) (disch := first | omega | simp) []; (first | refine ⟨fun h => hA ?_, fun h => hB ?_⟩ | refine hA ?_ | refine hB ?_) <;> (clear hA hB A B; (try (exfalso; omega))))
        (refine ⟨?_, (), ?_, Wk.ofA ?_⟩; assumption; rotate_left; focus (simp []; done))
        exact hgo hf
    · simp at hst
      subst hst
      repeat' first | (with_reducible first | refine thN ?_ | refine thR ?_ | refine thE ?_ | refine inN ?_ | refine inR ?_ | refine inH ?_ | refine fS ?_ | refine fR ?_ | refine fQ ?_ | refine fE ?_ | refine fT ?_ | refine awBlock ?_ | refine awExit ?_ | refine awRet ?_ | refine awSkip ?_) | ((with_reducible refine awReg fun K hok hK => ?_); clear hok; (try simp (maxSteps := 10000000) (disch := first | omega | simp) []); (repeat' first | (with_reducible refine hK _ (by simp) ?_) | ((with_reducible refine gdT (fun h => ?_) (fun h => ?_)) <;> (simp (maxSteps := 10000000) (disch := first | omega | simp) [h]; (try simp at h); (try (exfalso; omega))))) <;> clear hK K) | ((with_reducible refine awCond fun A B hA hB => ?_); simp (maxSteps := 10000000) (disch := first | omega | simp) []; (first | refine ⟨fun h => hA ?_, fun h => hB ?_⟩ | refine hA ?_ | refine hB ?_) <;> (clear hA hB A B; (try (exfalso; omega))))
      refine awFor p.ids.length (fun i (_ : Unit) => (p.ids.drop i).find? (m.mayLead p but false) = p.ids.find? (m.mayLead p but false)) (fun i _ => [(20, .p (I i)), (19, .p (I p.ids.length)), (18, .p (Li p.ids)), (8, .p (B false)), (13, .p (I 1)), (12, .p (I 2)), (11, .p (.uq [B true, B false])), (4, .p (.own (encP p).cells)), (3, .p (.own (encM m).cells)), (2, .p (I but))]) () (Wk.ofA (by simp)) rfl fun i _ hi hf => ?_
      by_cases hlt : i < p.ids.length
      · rw [drop_cons hlt, List.find?_cons] at hf
        have hb1 := hb p.ids[i] (List.getElem_mem hlt)
        repeat' first | (with_reducible first | refine thN ?_ | refine thR ?_ | refine thE ?_ | refine inN ?_ | refine inR ?_ | refine inH ?_ | refine fS ?_ | refine fR ?_ | refine fQ ?_ | refine fE ?_ | refine fT ?_ | refine awBlock ?_ | refine awExit ?_ | refine awRet ?_ | refine awSkip ?_) | ((with_reducible refine awReg fun K hok hK => ?_); clear hok; (try simp (maxSteps := 10000000) (disch := first | omega | simp) []); (repeat' first | (with_reducible refine hK _ (by simp) ?_) | ((with_reducible refine gdT (fun h => ?_) (fun h => ?_)) <;> (simp (maxSteps := 10000000) (disch := first | omega | simp) [h]; (try simp at h); (try (exfalso; omega)))) | ((with_reducible refine callS' fun K2 hK2 => ?_); (try simp (maxSteps := 10000000) (disch := first | omega | simp) []); (first | refine hK2 _ _ (contains_ok p.isr _ hp.isr) rfl fun hk9 => ?_ | refine hK2 _ _ (fit_ok' m _ _ hbk hb1) rfl fun hk9 => ?_); clear hk9; clear hK2 K2; (try simp (maxSteps := 10000000) (disch := first | omega | simp) []))) <;> clear hK K) | ((with_reducible refine awCond fun A B hA hB => ?_); simp (maxSteps := 10000000) (disch := first | omega | simp) []; (first | refine ⟨fun h => hA ?_, fun h => hB ?_⟩ | refine hA ?_ | refine hB ?_) <;> (clear hA hB A B; (try (exfalso; omega))))
        all_goals first
          | ((refine ⟨?_, (), ?_, Wk.ofA ?_⟩; assumption; rotate_left; focus (simp []; done))
             have e : m.mayLead p but false p.ids[i] = false := (by simp [Image.mayLead, *])
             rw [e] at hf
             exact hf)
          | (have e : m.mayLead p but false p.ids[i] = true := (by simp [Image.mayLead, *])
             rw [e] at hf
             have e2 := hres _ hf.symm
             clear hf
             (refine aEnR (aRes [] fun K hK => ?_); simp (maxSteps := 10000000) (disch := first | omega | simp) [e2]; refine hK _ ?_ (by simp); clear hK; first | done | (simp (maxSteps := 10000000) (disch := first | omega | simp) [e2, *]; done) | (simp (maxSteps := 10000000) (disch := first | omega | simp) [e2, *]; omega) | (simp_all [e2]; done) | (simp_all [e2]; omega)))
      · rw [drop_nil (by omega)] at hf
        have hf := hf.symm
        simp only [List.find?_nil] at hf
        repeat' first | (with_reducible first | refine thN ?_ | refine thR ?_ | refine thE ?_ | refine inN ?_ | refine inR ?_ | refine inH ?_ | refine fS ?_ | refine fR ?_ | refine fQ ?_ | refine fE ?_ | refine fT ?_ | refine awBlock ?_ | refine awExit ?_ | refine awRet ?_ | refine awSkip ?_) | ((with_reducible refine awReg fun K hok hK => ?_); clear hok; (try simp (maxSteps := 10000000) (disch := first | omega | simp) []); (repeat' first | (with_reducible refine hK _ (by simp) ?_) | ((with_reducible refine gdT (fun h => ?_) (fun h => ?_)) <;> (simp (maxSteps := 10000000) (disch := first | omega | simp) [h]; (try simp at h); (try (exfalso; omega))))) <;> clear hK K) | ((with_reducible refine awCond fun A B hA hB => ?_); simp (maxSteps := 10000000) (disch := first | omega | simp) []; (first | refine ⟨fun h => hA ?_, fun h => hB ?_⟩ | refine hA ?_ | refine hB ?_) <;> (clear hA hB A B; (try (exfalso; omega))))
        (refine ⟨?_, (), ?_, Wk.ofA ?_⟩; assumption; rotate_left; focus (simp []; done))
        exact hgo hf
  · have e : m.chooseP p but = 0 := by
      have h1 := hs true (by simp [show k = 2 by omega])
      have h2 := hs false (by simp [show k = 2 by omega])
      simp [Image.chooseP, h1, h2]
    repeat' first | (with_reducible first | refine thN ?_ | refine thR ?_ | refine thE ?_ | refine inN ?_ | refine inR ?_ | refine inH ?_ | refine fS ?_ | refine fR ?_ | refine fQ ?_ | refine fE ?_ | refine fT ?_ | refine awBlock ?_ | refine awExit ?_ | refine awRet ?_ | refine awSkip ?_) | ((with_reducible refine awReg fun K hok hK => ?_); clear hok; (try simp (maxSteps := 10000000) (disch := first | omega | simp) []); (repeat' first | (with_reducible refine hK _ (by simp) ?_) | ((with_reducible refine gdT (fun h => ?_) (fun h => ?_)) <;> (simp (maxSteps := 10000000) (disch := first | omega | simp) [h]; (try simp at h); (try (exfalso; omega))))) <;> clear hK K) | ((with_reducible refine awCond fun A B hA hB => ?_); simp (maxSteps := 10000000) (disch := first | omega | simp) []; (first | refine ⟨fun h => hA ?_, fun h => hB ?_⟩ | refine hA ?_ | refine hB ?_) <;> (clear hA hB A B; (try (exfalso; omega))))
    (refine aEnR (aRes [] fun K hK => ?_); simp (maxSteps := 10000000) (disch := first | omega | simp) [e]; refine hK _ ?_ (by simp); clear hK; first | done | (simp (maxSteps := 10000000) (disch := first | omega | simp) [e, *]; done) | (simp (maxSteps := 10000000) (disch := first | omega | simp) [e, *]; omega) | (simp_all [e]; done) | (simp_all [e]; omega))
end
end Go.Am
