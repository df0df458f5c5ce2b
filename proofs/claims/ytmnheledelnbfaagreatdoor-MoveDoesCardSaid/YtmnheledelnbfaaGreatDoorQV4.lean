/- Part of the proof of a law of moving. -/
import Derived.Test.YtmnheledelnbfaaGreatDoorQVB
set_option linter.all false
set_option maxRecDepth 100000
set_option maxHeartbeats 0
namespace Go.Am
open Go
noncomputable section
def c45 : SC := (.seq (.reg [oD 2 (.assign (.const .nilIface))] [0,15,29]) (.seq (.reg [oM 5 0,oN 6 5 23,oK 7 .lss 3 6 1 3,oM 8 7,oW 8 false (oM 9 0),oW 8 false (oN 10 9 23),oW 8 false (oK 11 .gtr 3 10 7 3),oR 12 8 true 11] [0,7,8,11,12,15,29]) (.seq (.cond (.tmp 12) (.seq (.reg [oM 13 0,oN 14 13 23,oD 15 (.call { callee := .value (.func 33),args := #[.const (.string ⟨#[116,97,114,103,101,116]⟩),.tmp 14,.const (.int .i64 18)],argTypes := #[9,3,42] }),oG 2 15] [2,15,29]) .ret) .skip) (.seq (.reg [oM 16 0,oN 17 16 23,oD 18 (.move (.const (.int .i64 0)))] [0,15,16,17,18,29,30]) (.seq (.block 0 (.seq (.loop (.seq (.reg [oB 19 .lss 3 18 17 3] [0,15,16,17,18,19,29,30]) (.seq (.cond (.tmp 19) .skip (.exit 0)) (.seq (.block 1 (.seq (.reg [oM 20 18,oJ 21 23 16 18,oL 22 3 21,oG 3 20,oG 4 22] [0,3,4,15,16,17,18,20,21,22,29,30]) (.seq (.reg [oM 23 0,oM 24 3,oD 25 (.slice 23 (.tmp 23) none (some (.tmp 24)) none),oM 26 4,oC 27 72 #[.tmp 25,.tmp 26] #[23,3]] [0,3,15,16,17,18,20,27,29,30]) (.seq (.cond (.tmp 27) (.seq (.reg [oM 28 3,oD 29 (.call { callee := .value (.func 33),args := #[.const (.string ⟨#[116,97,114,103,101,116]⟩),.tmp 28,.const (.int .i64 18)],argTypes := #[9,3,42] }),oG 2 29] [2,15,29]) .ret) .skip) .skip)))) (.seq (.reg [oK 30 .add 3 18 1 3,oM 18 30] [0,15,16,17,18,29,30]) .skip))))) .skip)) (.seq (.reg [oD 2 (.assign (.const .nilIface))] [2,15,29]) .ret))))))
theorem s45 : TextK Proofs.Tryz.prog 0 45 31 [ResultVar.tmp 2] c45 := .mk' Proofs.Tryz.f45 _ (by kernel_rfl) rfl rfl rfl (by kernel_rfl) rfl (by kernel_rfl)
theorem distinct_ok (l : List Int) (hid : l.length ≤ 1000000) : ACall pg 45 [Li l] (errO (dsP l)) := by
  refine s45.call mo (by simp) fun hxs => ?_
  clear hxs
  unfold c45; dsimp only [oB, oC, oD, oG, oJ, oK, oL, oM, oN, oR, oW]
  have hne := new_ok (bs [116, 97, 114, 103, 101, 116]) l.length 18
  by_cases h1 : (l.length : Int) < 1
  · have e : dsP l = some (bs [116, 97, 114, 103, 101, 116], (l.length : Int), 18) := by unfold dsP; rw [if_pos (by omega)]
    rw [e]
    repeat' first | (with_reducible first | refine thN ?_ | refine thR ?_ | refine thE ?_ | refine inN ?_ | refine inR ?_ | refine inH ?_ | refine fS ?_ | refine fR ?_ | refine fQ ?_ | refine fE ?_ | refine fT ?_ | refine awBlock ?_ | refine awExit ?_ | refine awRet ?_ | refine awSkip ?_) | ((with_reducible refine awReg fun K hok hK => ?_); clear hok; (try simp (maxSteps := 10000000) (disch := first | omega | simp) [h1]); (repeat' first | (with_reducible refine hK _ (by simp) ?_) | ((with_reducible refine callS' fun K2 hK2 => ?_); (try simp (maxSteps := 10000000) (disch := first | omega | simp) [h1]); (refine hK2 _ _ hne rfl fun hk9 => ?_); clear hk9; clear hK2 K2; (try simp (maxSteps := 10000000) (disch := first | omega | simp) [h1]))) <;> clear hK K) | ((with_reducible refine awCond fun A B hA hB => ?_); simp (maxSteps := 10000000) (disch := first | omega | simp) [h1]; (first | refine ⟨fun h => hA ?_, fun h => hB ?_⟩ | refine hA ?_ | refine hB ?_) <;> (clear hA hB A B; (try (exfalso; omega))))
    all_goals (refine aEnR (aRes [] fun K hK => ?_); simp (maxSteps := 10000000) (disch := first | omega | simp) []; refine hK _ ?_ (by simp); clear hK; first | done | (simp (maxSteps := 10000000) (disch := first | omega | simp) [*]; done) | (simp (maxSteps := 10000000) (disch := first | omega | simp) [*]; omega) | (simp_all []; done) | (simp_all []; omega))
  by_cases h2 : 7 < (l.length : Int)
  · have e : dsP l = some (bs [116, 97, 114, 103, 101, 116], (l.length : Int), 18) := by unfold dsP; rw [if_pos (by omega)]
    rw [e]
    repeat' first | (with_reducible first | refine thN ?_ | refine thR ?_ | refine thE ?_ | refine inN ?_ | refine inR ?_ | refine inH ?_ | refine fS ?_ | refine fR ?_ | refine fQ ?_ | refine fE ?_ | refine fT ?_ | refine awBlock ?_ | refine awExit ?_ | refine awRet ?_ | refine awSkip ?_) | ((with_reducible refine awReg fun K hok hK => ?_); clear hok; (try simp (maxSteps := 10000000) (disch := first | omega | simp) [h1, h2]); (repeat' first | (with_reducible refine hK _ (by simp) ?_) | ((with_reducible refine callS' fun K2 hK2 => ?_); (try simp (maxSteps := 10000000) (disch := first | omega | simp) [h1, h2]); (refine hK2 _ _ hne rfl fun hk9 => ?_); clear hk9; clear hK2 K2; (try simp (maxSteps := 10000000) (disch := first | omega | simp) [h1, h2]))) <;> clear hK K) | ((with_reducible refine awCond fun A B hA hB => ?_); simp (maxSteps := 10000000) (disch := first | omega | simp) [h1, h2]; (first | refine ⟨fun h => hA ?_, fun h => hB ?_⟩ | refine hA ?_ | refine hB ?_) <;> (clear hA hB A B; (try (exfalso; omega))))
    all_goals (refine aEnR (aRes [] fun K hK => ?_); simp (maxSteps := 10000000) (disch := first | omega | simp) []; refine hK _ ?_ (by simp); clear hK; first | done | (simp (maxSteps := 10000000) (disch := first | omega | simp) [*]; done) | (simp (maxSteps := 10000000) (disch := first | omega | simp) [*]; omega) | (simp_all []; done) | (simp_all []; omega))
  clear hne
  have e : dsP l = ((List.range l.length).find? (dsBad l)).map fun i : Nat => (bs [116, 97, 114, 103, 101, 116], (i : Int), 18) := by unfold dsP; rw [if_neg (by omega)]
  rw [e]
  clear e
  repeat' first | (with_reducible first | refine thN ?_ | refine thR ?_ | refine thE ?_ | refine inN ?_ | refine inR ?_ | refine inH ?_ | refine fS ?_ | refine fR ?_ | refine fQ ?_ | refine fE ?_ | refine fT ?_ | refine awBlock ?_ | refine awExit ?_ | refine awRet ?_ | refine awSkip ?_) | ((with_reducible refine awReg fun K hok hK => ?_); clear hok; (try simp (maxSteps := 10000000) (disch := first | omega | simp) [h1, h2]); (repeat' first | (with_reducible refine hK _ (by simp) ?_)) <;> clear hK K) | ((with_reducible refine awCond fun A B hA hB => ?_); simp (maxSteps := 10000000) (disch := first | omega | simp) [h1, h2]; (first | refine ⟨fun h => hA ?_, fun h => hB ?_⟩ | refine hA ?_ | refine hB ?_) <;> (clear hA hB A B; (try (exfalso; omega))))
  refine awFor l.length (fun i (_ : Unit) => ((List.range l.length).drop i).find? (dsBad l) = (List.range l.length).find? (dsBad l))
    (fun i _ => [(18, .p (I i)), (17, .p (I l.length)), (16, .p (Li l)), (0, .p (Li l))]) ()
    (Wk.ofA (by simp)) rfl fun i _ hi hs => ?_
  by_cases hlt : i < l.length
  · rw [drop_cons (show i < (List.range l.length).length by simpa using hlt)] at hs
    simp only [List.getElem_range, List.find?_cons] at hs
    have hg : l.getD i 0 = l[i] := by rw [List.getD_eq_getElem?_getD, List.getElem?_eq_getElem hlt]; rfl
    have hck : dsBad l i = (l.take i).contains l[i] := by unfold dsBad; rw [hg]
    rw [hck] at hs
    have hc2 : ACall pg 72 [.sl ((l.map I).take i), I l[i]] (B ((l.take i).contains l[i])) := by rw [← List.map_take]; exact contains_ok (l.take i) l[i] (by rw [List.length_take]; omega)
    have hne := new_ok (bs [116, 97, 114, 103, 101, 116]) i 18
    cases ht2 : (l.take i).contains l[i] with
    | true =>
      rw [ht2] at hs hc2
      rw [← hs]
      clear hs
      first | simp only [Option.map_some] | simp only [Option.map_none]
      repeat' first | (with_reducible first | refine thN ?_ | refine thR ?_ | refine thE ?_ | refine inN ?_ | refine inR ?_ | refine inH ?_ | refine fS ?_ | refine fR ?_ | refine fQ ?_ | refine fE ?_ | refine fT ?_ | refine awBlock ?_ | refine awExit ?_ | refine awRet ?_ | refine awSkip ?_) | ((with_reducible refine awReg fun K hok hK => ?_); clear hok; (try simp (maxSteps := 10000000) (disch := first | omega | simp) [hlt]); (repeat' first | (with_reducible refine hK _ (by simp) ?_) | ((with_reducible refine callS' fun K2 hK2 => ?_); (try simp (maxSteps := 10000000) (disch := first | omega | simp) [hlt]); (first | refine hK2 _ _ hc2 rfl fun hk9 => ?_ | refine hK2 _ _ hne rfl fun hk9 => ?_); clear hk9; clear hK2 K2; (try simp (maxSteps := 10000000) (disch := first | omega | simp) [hlt]))) <;> clear hK K) | ((with_reducible refine awCond fun A B hA hB => ?_); simp (maxSteps := 10000000) (disch := first | omega | simp) [hlt]; (first | refine ⟨fun h => hA ?_, fun h => hB ?_⟩ | refine hA ?_ | refine hB ?_) <;> (clear hA hB A B; (try (exfalso; omega))))
      all_goals (refine aEnR (aRes [] fun K hK => ?_); simp (maxSteps := 10000000) (disch := first | omega | simp) []; refine hK _ ?_ (by simp); clear hK; first | done | (simp (maxSteps := 10000000) (disch := first | omega | simp) [*]; done) | (simp (maxSteps := 10000000) (disch := first | omega | simp) [*]; omega) | (simp_all []; done) | (simp_all []; omega))
    | false =>
      rw [ht2] at hs hc2
      repeat' first | (with_reducible first | refine thN ?_ | refine thR ?_ | refine thE ?_ | refine inN ?_ | refine inR ?_ | refine inH ?_ | refine fS ?_ | refine fR ?_ | refine fQ ?_ | refine fE ?_ | refine fT ?_ | refine awBlock ?_ | refine awExit ?_ | refine awRet ?_ | refine awSkip ?_) | ((with_reducible refine awReg fun K hok hK => ?_); clear hok; (try simp (maxSteps := 10000000) (disch := first | omega | simp) [hlt]); (repeat' first | (with_reducible refine hK _ (by simp) ?_) | ((with_reducible refine callS' fun K2 hK2 => ?_); (try simp (maxSteps := 10000000) (disch := first | omega | simp) [hlt]); (refine hK2 _ _ hc2 rfl fun hk9 => ?_); clear hk9; clear hK2 K2; (try simp (maxSteps := 10000000) (disch := first | omega | simp) [hlt]))) <;> clear hK K) | ((with_reducible refine awCond fun A B hA hB => ?_); simp (maxSteps := 10000000) (disch := first | omega | simp) [hlt]; (first | refine ⟨fun h => hA ?_, fun h => hB ?_⟩ | refine hA ?_ | refine hB ?_) <;> (clear hA hB A B; (try (exfalso; omega))))
      (refine ⟨?_, (), ?_, Wk.ofA ?_⟩; assumption; rotate_left; focus (simp []; done))
      exact hs
  · rw [drop_nil (by simp; omega)] at hs
    simp only [List.find?_nil] at hs
    rw [← hs]
    clear hs
    first | simp only [Option.map_some] | simp only [Option.map_none]
    repeat' first | (with_reducible first | refine thN ?_ | refine thR ?_ | refine thE ?_ | refine inN ?_ | refine inR ?_ | refine inH ?_ | refine fS ?_ | refine fR ?_ | refine fQ ?_ | refine fE ?_ | refine fT ?_ | refine awBlock ?_ | refine awExit ?_ | refine awRet ?_ | refine awSkip ?_) | ((with_reducible refine awReg fun K hok hK => ?_); clear hok; (try simp (maxSteps := 10000000) (disch := first | omega | simp) []); (repeat' first | (with_reducible refine hK _ (by simp) ?_)) <;> clear hK K) | ((with_reducible refine awCond fun A B hA hB => ?_); simp (maxSteps := 10000000) (disch := first | omega | simp) []; (first | refine ⟨fun h => hA ?_, fun h => hB ?_⟩ | refine hA ?_ | refine hB ?_) <;> (clear hA hB A B; (try (exfalso; omega))))
    all_goals (refine aEnR (aRes [] fun K hK => ?_); simp (maxSteps := 10000000) (disch := first | omega | simp) []; refine hK _ ?_ (by simp); clear hK; first | done | (simp (maxSteps := 10000000) (disch := first | omega | simp) [*]; done) | (simp (maxSteps := 10000000) (disch := first | omega | simp) [*]; omega) | (simp_all []; done) | (simp_all []; omega))
end
end Go.Am
