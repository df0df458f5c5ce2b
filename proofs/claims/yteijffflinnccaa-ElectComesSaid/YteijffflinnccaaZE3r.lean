/- Part of the proof of ElectLeaves. -/
import Derived.Test.YteijffflinnccaaZE3
set_option linter.all false
set_option maxRecDepth 100000
set_option maxHeartbeats 0
namespace Go.Am
open Go
noncomputable section
def c21 : SC := (.seq (.reg [⟨some 3, .box 30 (.tmp 0), none, []⟩,
  ⟨some 4, .box 48 (.tmp 1), none, []⟩,
  ⟨some 6, .assign (.const (.int .i64 0)), none, []⟩] [2, 3, 4, 7, 9, 51, 52, 55, 56, 57]) (.seq (.reg [⟨some 7, .assign (.const (.int .i64 0)), none, []⟩] [2, 3, 4, 7, 9, 51, 52, 55, 56, 57]) (.seq (.reg [⟨some 8, .assign (.const (.int .i64 0)), none, []⟩] [2, 3, 4, 7, 8, 9, 17, 51, 52, 55, 56, 57]) (.seq (.block 0 (.seq (.loop (.seq (.reg [⟨some 11, .move (.tmp 8), none, []⟩,
  ⟨some 12, .fieldAddr 48 (.tmp 4) 0, none, []⟩,
  ⟨some 13, .load 41 (.tmp 12), none, []⟩,
  ⟨some 14, .call { callee := .builtin .len, args := #[.tmp 13], argTypes := #[41] }, none, []⟩,
  ⟨some 15, .binOp .lss 3 (.tmp 11) (.tmp 14) 3, none, []⟩] [2, 3, 4, 7, 8, 9, 15, 17, 51, 52, 55, 56, 57]) (.seq (.cond (.tmp 15) .skip (.exit 0)) (.seq (.block 1 (.seq (.reg [⟨some 19, .load 30 (.tmp 3), none, [20, 21, 22, 23, 24, 9]⟩,
  ⟨some 20, .fieldAddr 48 (.tmp 4) 0, none, [19, 22, 9]⟩,
  ⟨some 21, .load 41 (.tmp 20), none, [19, 22, 9]⟩,
  ⟨some 22, .move (.tmp 8), none, [19, 20, 21, 9]⟩,
  ⟨some 23, .indexAddr 41 (.tmp 21) (.tmp 22), none, [19, 9]⟩,
  ⟨some 24, .load 3 (.tmp 23), none, [19, 9]⟩,
  ⟨some 25, .call { callee := .value (.func 66), args := #[.tmp 19, .tmp 24], argTypes := #[30, 3] }, none, [9]⟩,
  ⟨some 18, .move (.tmp 25), none, [9]⟩,
  ⟨some 26, .extract (.tmp 18) 0, none, [27, 9]⟩,
  ⟨some 27, .extract (.tmp 18) 1, none, [26, 9, 9]⟩,
  ⟨some 9, .alloc 33, none, [19, 20, 21, 22, 23, 24, 25, 18, 26, 27]⟩,
  ⟨none, .store 33 (.tmp 9) (.tmp 26), none, [27]⟩,
  ⟨some 10, .assign (.tmp 27), none, []⟩] [2, 3, 4, 7, 8, 9, 10, 17, 18, 25, 27, 51, 52, 55, 56, 57]) (.seq (.reg [⟨some 28, .move (.tmp 10), none, []⟩,
  ⟨some 29, .unOp .not 4 (.tmp 28), none, []⟩,
  ⟨some 30, .move (.tmp 29), none, []⟩,
  ⟨some 31, .fieldAddr 33 (.tmp 9) 3, (some (30, false)), []⟩,
  ⟨some 32, .load 4 (.tmp 31), (some (30, false)), []⟩,
  ⟨some 33, .pick (.tmp 30) (.const (.bool true)) (.tmp 32), none, []⟩,
  ⟨some 34, .move (.tmp 33), none, []⟩,
  ⟨some 35, .fieldAddr 33 (.tmp 9) 0, (some (34, false)), []⟩,
  ⟨some 36, .load 3 (.tmp 35), (some (34, false)), []⟩,
  ⟨some 37, .move (.tmp 2), (some (34, false)), []⟩,
  ⟨some 38, .binOp .eql 3 (.tmp 36) (.tmp 37) 3, (some (34, false)), []⟩,
  ⟨some 39, .pick (.tmp 34) (.const (.bool true)) (.tmp 38), none, []⟩,
  ⟨some 40, .move (.tmp 39), none, []⟩,
  ⟨some 41, .fieldAddr 48 (.tmp 4) 1, (some (40, false)), []⟩,
  ⟨some 42, .load 41 (.tmp 41), (some (40, false)), []⟩,
  ⟨some 43, .fieldAddr 33 (.tmp 9) 0, (some (40, false)), []⟩,
  ⟨some 44, .load 3 (.tmp 43), (some (40, false)), []⟩,
  ⟨some 45, .call { callee := .value (.func 23), args := #[.tmp 42, .tmp 44], argTypes := #[41, 3] }, (some (40, false)), []⟩,
  ⟨some 46, .unOp .not 4 (.tmp 45), (some (40, false)), []⟩,
  ⟨some 47, .pick (.tmp 40) (.const (.bool true)) (.tmp 46), none, []⟩] [2, 3, 4, 7, 8, 9, 17, 29, 30, 31, 32, 33, 34, 38, 39, 40, 46, 47, 51, 52, 55, 56, 57]) (.seq (.cond (.tmp 47) (.exit 1) .skip) (.seq (.reg [⟨some 48, .fieldAddr 33 (.tmp 9) 4, none, []⟩,
  ⟨some 49, .load 4 (.tmp 48), none, []⟩,
  ⟨some 50, .unOp .not 4 (.tmp 49), none, []⟩] [2, 3, 4, 7, 8, 9, 17, 50, 51, 52, 55, 56, 57]) (.seq (.cond (.tmp 50) (.seq (.reg [⟨some 51, .fieldAddr 33 (.tmp 9) 0, none, []⟩,
  ⟨some 52, .load 3 (.tmp 51), none, []⟩,
  ⟨some 6, .assign (.tmp 52), none, []⟩] [6, 7, 9, 51, 52, 55, 56, 57]) .ret) .skip) (.seq (.reg [⟨some 53, .move (.tmp 7), none, []⟩,
  ⟨some 54, .binOp .eql 3 (.tmp 53) (.const (.int .i64 0)) 3, none, []⟩] [2, 3, 4, 7, 8, 9, 17, 51, 52, 54, 55, 56, 57]) (.seq (.cond (.tmp 54) (.seq (.reg [⟨some 55, .fieldAddr 33 (.tmp 9) 0, none, []⟩,
  ⟨some 56, .load 3 (.tmp 55), none, []⟩,
  ⟨some 7, .assign (.tmp 56), none, []⟩] [2, 3, 4, 7, 8, 9, 17, 51, 52, 55, 56, 57]) .skip) .skip) .skip)))))))) (.seq (.reg [⟨some 16, .move (.tmp 8), none, []⟩,
  ⟨some 17, .binOp .add 3 (.tmp 16) (.const (.int .i64 1)) 3, none, []⟩,
  ⟨some 8, .assign (.tmp 17), none, []⟩] [2, 3, 4, 7, 8, 9, 17, 51, 52, 55, 56, 57]) .skip))))) .skip)) (.seq (.reg [⟨some 57, .move (.tmp 7), none, []⟩,
  ⟨some 6, .assign (.tmp 57), none, []⟩] [6, 7, 9, 51, 52, 55, 56, 57]) .ret)))))
theorem s21 : TextK Proofs.Try.prog 0 21 58 [ResultVar.tmp 6] c21 := .mk' Proofs.Try.f21 _ (by kernel_rfl) rfl rfl rfl (by kernel_rfl) rfl (by kernel_rfl)
theorem chooseR_ok (m : Image) (p : Part) (but : Int) (hp : p.Small) : ACall pg 21 [encM m, encP p, I but] (I (m.chooseR p but)) := by
  refine s21.call mo (by simp) fun hxs => ?_
  clear hxs
  have hpi := hp.ids
  unfold c21
  repeat' first
      | (with_reducible first | refine thN ?_ | refine thR ?_ | refine thE ?_ | refine inN ?_ | refine inR ?_ | refine inH ?_ | refine fF ?_ | refine fS ?_ | refine fR ?_ | refine fQ ?_ | refine fC ?_ | refine fB ?_ | refine fL ?_ | refine fE ?_ | refine fT ?_ | refine awBlock ?_ | refine awExit ?_ | refine awRet ?_ | refine awSkip ?_ | refine inM (by decide) ?_)
      | ((with_reducible refine awReg fun K hok hK => ?_); clear hok; (try simp (maxSteps := 10000000) (disch := first | omega | simp) []); (repeat' first
          | (with_reducible refine hK _ (by simp) ?_)
          | ((with_reducible refine gdT (fun h => ?_) (fun h => ?_)) <;> (simp (maxSteps := 10000000) (disch := first | omega | simp) [h]; (try simp at h); (try (exfalso; omega))))
          | ((with_reducible refine gdF (fun h => ?_) (fun h => ?_)) <;> (simp (maxSteps := 10000000) (disch := first | omega | simp) [h]; (try simp at h); (try (exfalso; omega))))
          | ((with_reducible refine sideSt' fun K2 hK2 => ?_); (try simp (maxSteps := 10000000) (disch := first | omega | simp) []); refine hK2 _ ?_; clear hK2 K2; (try simp (maxSteps := 10000000) (disch := first | omega | simp) []))
          | ((with_reducible refine gdU ?_); (try simp (maxSteps := 10000000) (disch := first | omega | simp) []))
          | ((with_reducible refine sideQ' ?_ ?_ fun K2 hK2 => ?_); exact rfl; exact rfl; (try simp (maxSteps := 10000000) (disch := first | omega | simp) []); with_reducible refine hK2 _ _ ?_; clear hK2 K2; (try simp (maxSteps := 10000000) (disch := first | omega | simp) []))
          | ((with_reducible refine side' ?_ fun K2 hK2 => ?_); exact rfl; (try simp (maxSteps := 10000000) (disch := first | omega | simp) []); refine hK2 _ _ (by simp) ?_; clear hK2 K2; (try simp (maxSteps := 10000000) (disch := first | omega | simp) []))) <;> clear hK K)
      | ((with_reducible refine awCond fun A B hA hB => ?_); simp (maxSteps := 10000000) (disch := first | omega | simp) []; (first | refine ⟨fun h => hA ?_, fun h => hB ?_⟩ | refine hA ?_ | refine hB ?_) <;> (clear hA hB A B; (try (exfalso; omega))))
  refine awFor p.ids.length (fun i (s : Int) => m.chooseFrom p but (p.ids.drop i) s = m.chooseR p but) (fun i s => [(8, .p (I i)), (7, .p (I s)), (4, .p (.own (encP p).cells)), (3, .p (.own (encM m).cells)), (2, .p (I but))]) 0 (Wk.ofA (by simp)) rfl fun i s hi hs => ?_
  by_cases hlt : i < p.ids.length
  · rw [drop_cons hlt] at hs
    simp only [Image.chooseFrom] at hs
    cases hb : m.broker p.ids[i] with
    | none =>
      rw [hb] at hs
      simp only at hs
      repeat' first
          | (with_reducible first | refine thN ?_ | refine thR ?_ | refine thE ?_ | refine inN ?_ | refine inR ?_ | refine inH ?_ | refine fF ?_ | refine fS ?_ | refine fR ?_ | refine fQ ?_ | refine fC ?_ | refine fB ?_ | refine fL ?_ | refine fE ?_ | refine fT ?_ | refine awBlock ?_ | refine awExit ?_ | refine awRet ?_ | refine awSkip ?_ | refine inM (by decide) ?_)
          | ((with_reducible refine awReg fun K hok hK => ?_); clear hok; (try simp (maxSteps := 10000000) (disch := first | omega | simp) [hb, zB]); (repeat' first
              | (with_reducible refine hK _ (by simp) ?_)
              | ((with_reducible refine gdT (fun h => ?_) (fun h => ?_)) <;> (simp (maxSteps := 10000000) (disch := first | omega | simp) [h, hb, zB]; (try simp at h); (try (exfalso; omega))))
              | ((with_reducible refine gdF (fun h => ?_) (fun h => ?_)) <;> (simp (maxSteps := 10000000) (disch := first | omega | simp) [h, hb, zB]; (try simp at h); (try (exfalso; omega))))
              | ((with_reducible refine callS' fun K2 hK2 => ?_); (try simp (maxSteps := 10000000) (disch := first | omega | simp) [hb, zB]); (first | (refine hK2 _ _ (broker_ok m _) rfl fun hk9 => ?_; clear hk9) | (refine hK2 _ _ (has_ok _ _) rfl fun hk9 => ?_; clear hk9)); clear hK2 K2; (try simp (maxSteps := 10000000) (disch := first | omega | simp) [hb, zB]))
              | ((with_reducible refine callF' fun K2 hK2 => ?_); (try simp (maxSteps := 10000000) (disch := first | omega | simp) [hb, zB]); (first | refine hK2 _ _ _ (broker_ok m _) fun _ => ?_ | refine hK2 _ _ _ (has_ok _ _) fun _ => ?_); clear hK2 K2; (try simp (maxSteps := 10000000) (disch := first | omega | simp) [hb, zB]))
              | ((with_reducible refine sideS' fun K2 hK2 => ?_); (try simp (maxSteps := 10000000) (disch := first | omega | simp) [hb, zB]); (first | refine hK2 _ _ (broker_ok m _) rfl ?_ | refine hK2 _ _ (has_ok _ _) rfl ?_); clear hK2 K2; (try simp (maxSteps := 10000000) (disch := first | omega | simp) [hb, zB]))
              | ((with_reducible refine sideF' fun K2 hK2 => ?_); (try simp (maxSteps := 10000000) (disch := first | omega | simp) [hb, zB]); (first | refine hK2 _ _ _ (broker_ok m _) (by simp) ?_ | refine hK2 _ _ _ (has_ok _ _) (by simp) ?_); clear hK2 K2; (try simp (maxSteps := 10000000) (disch := first | omega | simp) [hb, zB]))
              | ((with_reducible refine sideSt' fun K2 hK2 => ?_); (try simp (maxSteps := 10000000) (disch := first | omega | simp) [hb, zB]); refine hK2 _ ?_; clear hK2 K2; (try simp (maxSteps := 10000000) (disch := first | omega | simp) [hb, zB]))
              | ((with_reducible refine gdU ?_); (try simp (maxSteps := 10000000) (disch := first | omega | simp) [hb, zB]))
              | ((with_reducible refine sideQ' ?_ ?_ fun K2 hK2 => ?_); exact rfl; exact rfl; (try simp (maxSteps := 10000000) (disch := first | omega | simp) [hb, zB]); with_reducible refine hK2 _ _ ?_; clear hK2 K2; (try simp (maxSteps := 10000000) (disch := first | omega | simp) [hb, zB]))
              | ((with_reducible refine side' ?_ fun K2 hK2 => ?_); exact rfl; (try simp (maxSteps := 10000000) (disch := first | omega | simp) [hb, zB]); refine hK2 _ _ (by simp) ?_; clear hK2 K2; (try simp (maxSteps := 10000000) (disch := first | omega | simp) [hb, zB]))) <;> clear hK K)
          | ((with_reducible refine awCond fun A B hA hB => ?_); simp (maxSteps := 10000000) (disch := first | omega | simp) [hb, zB]; (first | refine ⟨fun h => hA ?_, fun h => hB ?_⟩ | refine hA ?_ | refine hB ?_) <;> (clear hA hB A B; (try (exfalso; omega))))
      all_goals ((refine ⟨?_, s, ?_, Wk.ofA ?_⟩; assumption; rotate_left; focus (simp []; done)); exact hs)
    | some b =>
      rw [hb] at hs
      simp only at hs
      repeat' first
          | (with_reducible first | refine thN ?_ | refine thR ?_ | refine thE ?_ | refine inN ?_ | refine inR ?_ | refine inH ?_ | refine fF ?_ | refine fS ?_ | refine fR ?_ | refine fQ ?_ | refine fC ?_ | refine fB ?_ | refine fL ?_ | refine fE ?_ | refine fT ?_ | refine awBlock ?_ | refine awExit ?_ | refine awRet ?_ | refine awSkip ?_ | refine inM (by decide) ?_)
          | ((with_reducible refine awReg fun K hok hK => ?_); clear hok; (try simp (maxSteps := 10000000) (disch := first | omega | simp) [hb]); (repeat' first
              | (with_reducible refine hK _ (by simp) ?_)
              | ((with_reducible refine gdT (fun h => ?_) (fun h => ?_)) <;> (simp (maxSteps := 10000000) (disch := first | omega | simp) [h, hb]; (try simp at h); (try (exfalso; omega))))
              | ((with_reducible refine gdF (fun h => ?_) (fun h => ?_)) <;> (simp (maxSteps := 10000000) (disch := first | omega | simp) [h, hb]; (try simp at h); (try (exfalso; omega))))
              | ((with_reducible refine callS' fun K2 hK2 => ?_); (try simp (maxSteps := 10000000) (disch := first | omega | simp) [hb]); (first | (refine hK2 _ _ (broker_ok m _) rfl fun hk9 => ?_; clear hk9) | (refine hK2 _ _ (has_ok _ _) rfl fun hk9 => ?_; clear hk9)); clear hK2 K2; (try simp (maxSteps := 10000000) (disch := first | omega | simp) [hb]))
              | ((with_reducible refine callF' fun K2 hK2 => ?_); (try simp (maxSteps := 10000000) (disch := first | omega | simp) [hb]); (first | refine hK2 _ _ _ (broker_ok m _) fun _ => ?_ | refine hK2 _ _ _ (has_ok _ _) fun _ => ?_); clear hK2 K2; (try simp (maxSteps := 10000000) (disch := first | omega | simp) [hb]))
              | ((with_reducible refine sideS' fun K2 hK2 => ?_); (try simp (maxSteps := 10000000) (disch := first | omega | simp) [hb]); (first | refine hK2 _ _ (broker_ok m _) rfl ?_ | refine hK2 _ _ (has_ok _ _) rfl ?_); clear hK2 K2; (try simp (maxSteps := 10000000) (disch := first | omega | simp) [hb]))
              | ((with_reducible refine sideF' fun K2 hK2 => ?_); (try simp (maxSteps := 10000000) (disch := first | omega | simp) [hb]); (first | refine hK2 _ _ _ (broker_ok m _) (by simp) ?_ | refine hK2 _ _ _ (has_ok _ _) (by simp) ?_); clear hK2 K2; (try simp (maxSteps := 10000000) (disch := first | omega | simp) [hb]))
              | ((with_reducible refine sideSt' fun K2 hK2 => ?_); (try simp (maxSteps := 10000000) (disch := first | omega | simp) [hb]); refine hK2 _ ?_; clear hK2 K2; (try simp (maxSteps := 10000000) (disch := first | omega | simp) [hb]))
              | ((with_reducible refine gdU ?_); (try simp (maxSteps := 10000000) (disch := first | omega | simp) [hb]))
              | ((with_reducible refine sideQ' ?_ ?_ fun K2 hK2 => ?_); exact rfl; exact rfl; (try simp (maxSteps := 10000000) (disch := first | omega | simp) [hb]); with_reducible refine hK2 _ _ ?_; clear hK2 K2; (try simp (maxSteps := 10000000) (disch := first | omega | simp) [hb]))
              | ((with_reducible refine side' ?_ fun K2 hK2 => ?_); exact rfl; (try simp (maxSteps := 10000000) (disch := first | omega | simp) [hb]); refine hK2 _ _ (by simp) ?_; clear hK2 K2; (try simp (maxSteps := 10000000) (disch := first | omega | simp) [hb]))) <;> clear hK K)
          | ((with_reducible refine awCond fun A B hA hB => ?_); simp (maxSteps := 10000000) (disch := first | omega | simp) [hb]; (first | refine ⟨fun h => hA ?_, fun h => hB ?_⟩ | refine hA ?_ | refine hB ?_) <;> (clear hA hB A B; (try (exfalso; omega))))
      all_goals first
        | ((refine ⟨?_, s, ?_, Wk.ofA ?_⟩; assumption; rotate_left; focus (simp []; done))
           simp [*] at hs
           exact hs)
        | ((refine ⟨?_, b.id, ?_, Wk.ofA ?_⟩; assumption; rotate_left; focus (simp []; done))
           simp [*] at hs
           exact hs)
        | (have e : m.chooseR p but = b.id := (by rw [← hs]; simp [*])
           (refine aEnR (aRes [] fun K hK => ?_); simp (maxSteps := 10000000) (disch := first | omega | simp) [e]; refine hK _ ?_ (by simp); clear hK; first | done | (simp (maxSteps := 10000000) (disch := first | omega | simp) [e, *]; done) | (simp (maxSteps := 10000000) (disch := first | omega | simp) [e, *]; omega) | (simp_all [e]; done) | (simp_all [e]; omega)))
  · rw [drop_nil (by omega)] at hs
    simp only [Image.chooseFrom] at hs
    repeat' first
        | (with_reducible first | refine thN ?_ | refine thR ?_ | refine thE ?_ | refine inN ?_ | refine inR ?_ | refine inH ?_ | refine fF ?_ | refine fS ?_ | refine fR ?_ | refine fQ ?_ | refine fC ?_ | refine fB ?_ | refine fL ?_ | refine fE ?_ | refine fT ?_ | refine awBlock ?_ | refine awExit ?_ | refine awRet ?_ | refine awSkip ?_ | refine inM (by decide) ?_)
        | ((with_reducible refine awReg fun K hok hK => ?_); clear hok; (try simp (maxSteps := 10000000) (disch := first | omega | simp) []); (repeat' first
            | (with_reducible refine hK _ (by simp) ?_)
            | ((with_reducible refine gdT (fun h => ?_) (fun h => ?_)) <;> (simp (maxSteps := 10000000) (disch := first | omega | simp) [h]; (try simp at h); (try (exfalso; omega))))
            | ((with_reducible refine gdF (fun h => ?_) (fun h => ?_)) <;> (simp (maxSteps := 10000000) (disch := first | omega | simp) [h]; (try simp at h); (try (exfalso; omega))))
            | ((with_reducible refine sideSt' fun K2 hK2 => ?_); (try simp (maxSteps := 10000000) (disch := first | omega | simp) []); refine hK2 _ ?_; clear hK2 K2; (try simp (maxSteps := 10000000) (disch := first | omega | simp) []))
            | ((with_reducible refine gdU ?_); (try simp (maxSteps := 10000000) (disch := first | omega | simp) []))
            | ((with_reducible refine sideQ' ?_ ?_ fun K2 hK2 => ?_); exact rfl; exact rfl; (try simp (maxSteps := 10000000) (disch := first | omega | simp) []); with_reducible refine hK2 _ _ ?_; clear hK2 K2; (try simp (maxSteps := 10000000) (disch := first | omega | simp) []))
            | ((with_reducible refine side' ?_ fun K2 hK2 => ?_); exact rfl; (try simp (maxSteps := 10000000) (disch := first | omega | simp) []); refine hK2 _ _ (by simp) ?_; clear hK2 K2; (try simp (maxSteps := 10000000) (disch := first | omega | simp) []))) <;> clear hK K)
        | ((with_reducible refine awCond fun A B hA hB => ?_); simp (maxSteps := 10000000) (disch := first | omega | simp) []; (first | refine ⟨fun h => hA ?_, fun h => hB ?_⟩ | refine hA ?_ | refine hB ?_) <;> (clear hA hB A B; (try (exfalso; omega))))
    (refine aEnR (aRes [] fun K hK => ?_); simp (maxSteps := 10000000) (disch := first | omega | simp) [hs]; refine hK _ ?_ (by simp); clear hK; first | done | (simp (maxSteps := 10000000) (disch := first | omega | simp) [hs, *]; done) | (simp (maxSteps := 10000000) (disch := first | omega | simp) [hs, *]; omega) | (simp_all [hs]; done) | (simp_all [hs]; omega))
end
end Go.Am
