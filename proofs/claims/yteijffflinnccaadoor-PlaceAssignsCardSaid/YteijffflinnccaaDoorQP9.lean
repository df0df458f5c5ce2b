/- Part of the proof of a law of placing. -/
import Derived.Test.YteijffflinnccaaDoorQP1
import Derived.Test.YteijffflinnccaaDoorQPK
set_option linter.all false
set_option maxRecDepth 100000
set_option maxHeartbeats 0
namespace Go.Am
open Go
noncomputable section
def c8 : SC := (.seq (.reg [⟨some 1, .box 34 (.tmp 0), none, []⟩,
  ⟨some 2, .assign (.const (.bool false)), none, []⟩] [1]) (.seq (.reg [⟨some 3, .fieldAddr 34 (.tmp 1) 3, none, []⟩,
  ⟨some 4, .load 4 (.tmp 3), none, []⟩,
  ⟨some 5, .unOp .not 4 (.tmp 4), none, []⟩,
  ⟨some 6, .move (.tmp 5), none, []⟩,
  ⟨some 7, .fieldAddr 34 (.tmp 1) 4, (some (6, true)), []⟩,
  ⟨some 8, .load 4 (.tmp 7), (some (6, true)), []⟩,
  ⟨some 9, .unOp .not 4 (.tmp 8), (some (6, true)), []⟩,
  ⟨some 10, .pick (.tmp 6) (.tmp 9) (.const (.bool false)), none, []⟩,
  ⟨some 2, .assign (.tmp 10), none, []⟩] [2, 5, 6, 9, 10]) .ret))
theorem s8 : TextK Proofs.Tryd.prog 0 8 11 [ResultVar.tmp 2] c8 := .mk' Proofs.Tryd.f8 _ (by kernel_rfl) rfl rfl rfl (by kernel_rfl) rfl (by kernel_rfl)
def c20 : SC := (.seq (.reg [⟨some 2, .box 30 (.tmp 0), none, []⟩,
  ⟨some 3, .box 34 (.tmp 1), none, []⟩,
  ⟨some 4, .assign (.const (.int .i64 0)), none, []⟩] [2, 3, 37]) (.seq (.reg [⟨some 5, .assign (.const (.int .i64 0)), none, []⟩] [2, 3, 5, 37]) (.seq (.reg [⟨some 6, .assign (.const (.int .i64 0)), none, []⟩] [2, 3, 5, 6, 14, 37]) (.seq (.block 0 (.seq (.loop (.seq (.reg [⟨some 8, .move (.tmp 6), none, []⟩,
  ⟨some 9, .fieldAddr 30 (.tmp 2) 0, none, []⟩,
  ⟨some 10, .load 25 (.tmp 9), none, []⟩,
  ⟨some 11, .call { callee := .builtin .len, args := #[.tmp 10], argTypes := #[25] }, none, []⟩,
  ⟨some 12, .binOp .lss 3 (.tmp 8) (.tmp 11) 3, none, []⟩] [2, 3, 5, 6, 12, 14, 37]) (.seq (.cond (.tmp 12) .skip (.exit 0)) (.seq (.block 1 (.seq (.reg [⟨some 15, .fieldAddr 30 (.tmp 2) 0, none, []⟩,
  ⟨some 16, .load 25 (.tmp 15), none, []⟩,
  ⟨some 17, .move (.tmp 6), none, []⟩,
  ⟨some 18, .indexAddr 25 (.tmp 16) (.tmp 17), none, []⟩,
  ⟨some 19, .load 34 (.tmp 18), none, []⟩,
  ⟨some 7, .alloc 34, none, []⟩,
  ⟨none, .store 34 (.tmp 7) (.tmp 19), none, []⟩] [2, 3, 5, 6, 7, 14, 37]) (.seq (.reg [⟨some 20, .load 34 (.tmp 7), none, []⟩,
  ⟨some 21, .call { callee := .value (.func 8), args := #[.tmp 20], argTypes := #[34] }, none, []⟩,
  ⟨some 22, .move (.tmp 21), none, []⟩,
  ⟨some 23, .fieldAddr 34 (.tmp 7) 2, (some (22, true)), []⟩,
  ⟨some 24, .load 9 (.tmp 23), (some (22, true)), []⟩,
  ⟨some 25, .fieldAddr 34 (.tmp 3) 2, (some (22, true)), []⟩,
  ⟨some 26, .load 9 (.tmp 25), (some (22, true)), []⟩,
  ⟨some 27, .binOp .eql 9 (.tmp 24) (.tmp 26) 9, (some (22, true)), []⟩,
  ⟨some 28, .pick (.tmp 22) (.tmp 27) (.const (.bool false)), none, []⟩,
  ⟨some 29, .move (.tmp 28), none, []⟩,
  ⟨some 30, .fieldAddr 34 (.tmp 7) 0, (some (29, true)), []⟩,
  ⟨some 31, .load 3 (.tmp 30), (some (29, true)), []⟩,
  ⟨some 32, .fieldAddr 34 (.tmp 3) 0, (some (29, true)), []⟩,
  ⟨some 33, .load 3 (.tmp 32), (some (29, true)), []⟩,
  ⟨some 34, .binOp .lss 3 (.tmp 31) (.tmp 33) 3, (some (29, true)), []⟩,
  ⟨some 35, .pick (.tmp 29) (.tmp 34) (.const (.bool false)), none, []⟩] [2, 3, 5, 6, 14, 21, 22, 27, 28, 29, 34, 35, 37]) (.seq (.cond (.tmp 35) (.seq (.reg [⟨some 36, .move (.tmp 5), none, []⟩,
  ⟨some 37, .binOp .add 3 (.tmp 36) (.const (.int .i64 1)) 3, none, []⟩,
  ⟨some 5, .assign (.tmp 37), none, []⟩] [2, 3, 5, 6, 14, 37]) .skip) .skip) .skip)))) (.seq (.reg [⟨some 13, .move (.tmp 6), none, []⟩,
  ⟨some 14, .binOp .add 3 (.tmp 13) (.const (.int .i64 1)) 3, none, []⟩,
  ⟨some 6, .assign (.tmp 14), none, []⟩] [2, 3, 5, 6, 14, 37]) .skip))))) .skip)) (.seq (.reg [⟨some 38, .move (.tmp 5), none, []⟩,
  ⟨some 4, .assign (.tmp 38), none, []⟩] [4, 5, 37, 38]) .ret)))))
theorem s20 : TextK Proofs.Tryd.prog 0 20 39 [ResultVar.tmp 4] c20 := .mk' Proofs.Tryd.f20 _ (by kernel_rfl) rfl rfl rfl (by kernel_rfl) rfl (by kernel_rfl)
def c21 : SC := (.seq (.reg [⟨some 6, .assign (.const (.slice none 0 0)), none, []⟩] [0, 1, 2]) (.seq (.reg [⟨some 7, .assign (.const (.slice none 0 0)), none, []⟩] [0, 1, 2, 7, 12, 16]) (.seq (.reg [⟨some 8, .move (.tmp 7), none, []⟩,
  ⟨some 9, .move (.tmp 0), none, []⟩,
  ⟨some 10, .move (.tmp 1), none, []⟩,
  ⟨some 11, .slice 23 (.tmp 9) none (some (.tmp 10)) none, none, []⟩,
  ⟨some 12, .call { callee := .builtin .append, args := #[.tmp 8, .tmp 11], argTypes := #[23, 23] }, none, []⟩,
  ⟨some 7, .assign (.tmp 12), none, []⟩] [0, 1, 2, 7, 12, 16]) (.seq (.reg [⟨some 13, .move (.tmp 7), none, []⟩,
  ⟨some 14, .move (.tmp 2), none, []⟩,
  ⟨some 15, .buildSlice 23 1 #[(0, .tmp 14)], none, []⟩,
  ⟨some 16, .call { callee := .builtin .append, args := #[.tmp 13, .tmp 15], argTypes := #[23, 23] }, none, []⟩,
  ⟨some 7, .assign (.tmp 16), none, []⟩] [0, 1, 7, 12, 16]) (.seq (.reg [⟨some 17, .move (.tmp 7), none, []⟩,
  ⟨some 18, .move (.tmp 0), none, []⟩,
  ⟨some 19, .move (.tmp 1), none, []⟩,
  ⟨some 20, .slice 23 (.tmp 18) (some (.tmp 19)) none none, none, []⟩,
  ⟨some 21, .call { callee := .builtin .append, args := #[.tmp 17, .tmp 20], argTypes := #[23, 23] }, none, []⟩,
  ⟨some 6, .assign (.tmp 21), none, []⟩] [6, 21]) .ret)))))
theorem s21 : TextK Proofs.Tryd.prog 0 21 22 [ResultVar.tmp 6] c21 := .mk' Proofs.Tryd.f21 _ (by kernel_rfl) rfl rfl rfl (by kernel_rfl) rfl (by kernel_rfl)
theorem refReady_ok (b : Broker) : ACall pg 8 [encB b] (B (readyB b)) := by
  refine s8.call mo (by simp) fun hxs => ?_
  clear hxs
  unfold c8
  repeat' first
      | (with_reducible first | refine thN ?_ | refine thR ?_ | refine thE ?_ | refine inN ?_ | refine inR ?_ | refine inH ?_ | refine fF ?_ | refine fS ?_ | refine fR ?_ | refine fQ ?_ | refine fC ?_ | refine fB ?_ | refine fL ?_ | refine fE ?_ | refine fT ?_ | refine awBlock ?_ | refine awExit ?_ | refine awRet ?_ | refine awSkip ?_ | refine inM (by decide) ?_)
      | ((with_reducible refine awReg fun K hok hK => ?_); clear hok; (try simp (maxSteps := 10000000) (disch := first | omega | simp) []); (repeat' first
          | (with_reducible refine hK _ (by simp) ?_)
          | ((with_reducible refine gdT (fun h => ?_) (fun h => ?_)) <;> (simp (maxSteps := 10000000) (disch := first | omega | simp) [h]; (try simp at h); (try (exfalso; omega))))
          | ((with_reducible refine gdF (fun h => ?_) (fun h => ?_)) <;> (simp (maxSteps := 10000000) (disch := first | omega | simp) [h]; (try simp at h); (try (exfalso; omega))))
          | ((with_reducible refine gdU ?_); (try simp (maxSteps := 10000000) (disch := first | omega | simp) []))) <;> clear hK K)
      | ((with_reducible refine awCond fun A B hA hB => ?_); simp (maxSteps := 10000000) (disch := first | omega | simp) []; (first | refine ⟨fun h => hA ?_, fun h => hB ?_⟩ | refine hA ?_ | refine hB ?_) <;> (clear hA hB A B; (try (exfalso; omega))))
  all_goals (refine aEnR (aRes [] fun K hK => ?_); simp (maxSteps := 10000000) (disch := first | omega | simp) [readyB]; refine hK _ ?_ (by simp); clear hK; first | done | (simp (maxSteps := 10000000) (disch := first | omega | simp) [readyB, *]; done) | (simp (maxSteps := 10000000) (disch := first | omega | simp) [readyB, *]; omega) | (simp_all [readyB]; done) | (simp_all [readyB]; omega))
theorem insert_ok (l : List Int) (k : Nat) (x : Int) (hk : k ≤ l.length) (hl : l.length ≤ 1000) : ACall pg 21 [Li l, I k, I x] (.uq ((insL l k x).map I)) := by
  refine s21.call mo (by simp) fun hxs => ?_
  clear hxs
  unfold c21
  repeat' first
      | (with_reducible first | refine thN ?_ | refine thR ?_ | refine thE ?_ | refine inN ?_ | refine inR ?_ | refine inH ?_ | refine fF ?_ | refine fS ?_ | refine fR ?_ | refine fQ ?_ | refine fC ?_ | refine fB ?_ | refine fL ?_ | refine fE ?_ | refine fT ?_ | refine awBlock ?_ | refine awExit ?_ | refine awRet ?_ | refine awSkip ?_ | refine inM (by decide) ?_)
      | ((with_reducible refine awReg fun K hok hK => ?_); clear hok; (try simp (maxSteps := 10000000) (disch := first | omega | simp) []); (repeat' first
          | (with_reducible refine hK _ (by simp) ?_)
          | ((with_reducible refine gdT (fun h => ?_) (fun h => ?_)) <;> (simp (maxSteps := 10000000) (disch := first | omega | simp) [h]; (try simp at h); (try (exfalso; omega))))
          | ((with_reducible refine gdF (fun h => ?_) (fun h => ?_)) <;> (simp (maxSteps := 10000000) (disch := first | omega | simp) [h]; (try simp at h); (try (exfalso; omega))))
          | ((with_reducible refine gdU ?_); (try simp (maxSteps := 10000000) (disch := first | omega | simp) []))) <;> clear hK K)
      | ((with_reducible refine awCond fun A B hA hB => ?_); simp (maxSteps := 10000000) (disch := first | omega | simp) []; (first | refine ⟨fun h => hA ?_, fun h => hB ?_⟩ | refine hA ?_ | refine hB ?_) <;> (clear hA hB A B; (try (exfalso; omega))))
  (refine aEnR (aRes [] fun K hK => ?_); simp (maxSteps := 10000000) (disch := first | omega | simp) [insL]; refine hK _ ?_ (by simp); clear hK; first | done | (simp (maxSteps := 10000000) (disch := first | omega | simp) [insL, *]; done) | (simp (maxSteps := 10000000) (disch := first | omega | simp) [insL, *]; omega) | (simp_all [insL]; done) | (simp_all [insL]; omega))
theorem rank_ok (m : Image) (b : Broker) (hb : m.brokers.length ≤ 1000) : ACall pg 20 [encM m, encB b] (I (rankR m b)) := by
  refine s20.call mo (by simp) fun hxs => ?_
  clear hxs
  unfold c20
  repeat' first
      | (with_reducible first | refine thN ?_ | refine thR ?_ | refine thE ?_ | refine inN ?_ | refine inR ?_ | refine inH ?_ | refine fF ?_ | refine fS ?_ | refine fR ?_ | refine fQ ?_ | refine fC ?_ | refine fB ?_ | refine fL ?_ | refine fE ?_ | refine fT ?_ | refine awBlock ?_ | refine awExit ?_ | refine awRet ?_ | refine awSkip ?_ | refine inM (by decide) ?_)
      | ((with_reducible refine awReg fun K hok hK => ?_); clear hok; (try simp (maxSteps := 10000000) (disch := first | omega | simp) []); (repeat' first
          | (with_reducible refine hK _ (by simp) ?_)
          | ((with_reducible refine gdT (fun h => ?_) (fun h => ?_)) <;> (simp (maxSteps := 10000000) (disch := first | omega | simp) [h]; (try simp at h); (try (exfalso; omega))))
          | ((with_reducible refine gdF (fun h => ?_) (fun h => ?_)) <;> (simp (maxSteps := 10000000) (disch := first | omega | simp) [h]; (try simp at h); (try (exfalso; omega))))
          | ((with_reducible refine gdU ?_); (try simp (maxSteps := 10000000) (disch := first | omega | simp) []))) <;> clear hK K)
      | ((with_reducible refine awCond fun A B hA hB => ?_); simp (maxSteps := 10000000) (disch := first | omega | simp) []; (first | refine ⟨fun h => hA ?_, fun h => hB ?_⟩ | refine hA ?_ | refine hB ?_) <;> (clear hA hB A B; (try (exfalso; omega))))
  refine awFor m.brokers.length (fun i (n : Nat) => n + (m.brokers.drop i).countP (fun x => readyB x && eqS x.rack b.rack && decide (x.id < b.id)) = rankR m b ∧ n ≤ i)
    (fun i n => [(6, .p (I i)), (5, .p (I n)), (3, .p (.own (encB b).cells)), (2, .p (.own (encM m).cells))]) 0 (Wk.ofA (by simp)) ⟨by simp [rankR], by omega⟩ fun i n hi hs => ?_
  obtain ⟨hs, hn⟩ := hs
  by_cases hlt : i < m.brokers.length
  · rw [drop_cons hlt, List.countP_cons] at hs
    have hr := refReady_ok m.brokers[i]
    cases h1 : readyB m.brokers[i] with
    | false =>
      rw [h1] at hs hr
      repeat' first
          | (with_reducible first | refine thN ?_ | refine thR ?_ | refine thE ?_ | refine inN ?_ | refine inR ?_ | refine inH ?_ | refine fF ?_ | refine fS ?_ | refine fR ?_ | refine fQ ?_ | refine fC ?_ | refine fB ?_ | refine fL ?_ | refine fE ?_ | refine fT ?_ | refine awBlock ?_ | refine awExit ?_ | refine awRet ?_ | refine awSkip ?_ | refine inM (by decide) ?_)
          | ((with_reducible refine awReg fun K hok hK => ?_); clear hok; (try simp (maxSteps := 10000000) (disch := first | omega | simp) [hlt]); (repeat' first
              | (with_reducible refine hK _ (by simp) ?_)
              | ((with_reducible refine gdT (fun h => ?_) (fun h => ?_)) <;> (simp (maxSteps := 10000000) (disch := first | omega | simp) [h, hlt]; (try simp at h); (try (exfalso; omega))))
              | ((with_reducible refine gdF (fun h => ?_) (fun h => ?_)) <;> (simp (maxSteps := 10000000) (disch := first | omega | simp) [h, hlt]; (try simp at h); (try (exfalso; omega))))
              | ((with_reducible refine callS' fun K2 hK2 => ?_); (try simp (maxSteps := 10000000) (disch := first | omega | simp) [hlt]); (first | (refine hK2 _ _ (hr) rfl fun hk9 => ?_; clear hk9)); clear hK2 K2; (try simp (maxSteps := 10000000) (disch := first | omega | simp) [hlt]))
              | ((with_reducible refine callF' fun K2 hK2 => ?_); (try simp (maxSteps := 10000000) (disch := first | omega | simp) [hlt]); (first | refine hK2 _ _ _ (hr) fun _ => ?_); clear hK2 K2; (try simp (maxSteps := 10000000) (disch := first | omega | simp) [hlt]))
              | ((with_reducible refine callM' rfl fun K2 hK2 => ?_); (try simp (maxSteps := 10000000) (disch := first | omega | simp) [hlt]); (first | refine hK2 _ _ _ _ _ _ _ (hr) rfl fun _ _ => ?_); clear hK2 K2; (try simp (maxSteps := 10000000) (disch := first | omega | simp) [hlt]))
              | ((with_reducible refine callT' rfl fun K2 hK2 => ?_); (try simp (maxSteps := 10000000) (disch := first | omega | simp) [hlt]); (first | refine hK2 _ _ _ _ _ (hr) fun _ => ?_); clear hK2 K2; (try simp (maxSteps := 10000000) (disch := first | omega | simp) [hlt]))
              | ((with_reducible refine gdU ?_); (try simp (maxSteps := 10000000) (disch := first | omega | simp) [hlt]))) <;> clear hK K)
          | ((with_reducible refine awCond fun A B hA hB => ?_); simp (maxSteps := 10000000) (disch := first | omega | simp) [hlt]; (first | refine ⟨fun h => hA ?_, fun h => hB ?_⟩ | refine hA ?_ | refine hB ?_) <;> (clear hA hB A B; (try (exfalso; omega))))
      (refine ⟨?_, n, ?_, Wk.ofA ?_⟩; assumption; rotate_left; focus (simp []; done))
      exact ⟨by simpa using hs, by omega⟩
    | true =>
      rw [h1] at hs hr
      cases h2 : (m.brokers[i].rack.toList == b.rack.toList) with
      | false =>
        have e : eqS m.brokers[i].rack b.rack = false := h2
        rw [e] at hs
        repeat' first
            | (with_reducible first | refine thN ?_ | refine thR ?_ | refine thE ?_ | refine inN ?_ | refine inR ?_ | refine inH ?_ | refine fF ?_ | refine fS ?_ | refine fR ?_ | refine fQ ?_ | refine fC ?_ | refine fB ?_ | refine fL ?_ | refine fE ?_ | refine fT ?_ | refine awBlock ?_ | refine awExit ?_ | refine awRet ?_ | refine awSkip ?_ | refine inM (by decide) ?_)
            | ((with_reducible refine awReg fun K hok hK => ?_); clear hok; (try simp (maxSteps := 10000000) (disch := first | omega | simp) [hlt, h2]); (repeat' first
                | (with_reducible refine hK _ (by simp) ?_)
                | ((with_reducible refine gdT (fun h => ?_) (fun h => ?_)) <;> (simp (maxSteps := 10000000) (disch := first | omega | simp) [h, hlt, h2]; (try simp at h); (try (exfalso; omega))))
                | ((with_reducible refine gdF (fun h => ?_) (fun h => ?_)) <;> (simp (maxSteps := 10000000) (disch := first | omega | simp) [h, hlt, h2]; (try simp at h); (try (exfalso; omega))))
                | ((with_reducible refine callS' fun K2 hK2 => ?_); (try simp (maxSteps := 10000000) (disch := first | omega | simp) [hlt, h2]); (first | (refine hK2 _ _ (hr) rfl fun hk9 => ?_; clear hk9)); clear hK2 K2; (try simp (maxSteps := 10000000) (disch := first | omega | simp) [hlt, h2]))
                | ((with_reducible refine callF' fun K2 hK2 => ?_); (try simp (maxSteps := 10000000) (disch := first | omega | simp) [hlt, h2]); (first | refine hK2 _ _ _ (hr) fun _ => ?_); clear hK2 K2; (try simp (maxSteps := 10000000) (disch := first | omega | simp) [hlt, h2]))
                | ((with_reducible refine callM' rfl fun K2 hK2 => ?_); (try simp (maxSteps := 10000000) (disch := first | omega | simp) [hlt, h2]); (first | refine hK2 _ _ _ _ _ _ _ (hr) rfl fun _ _ => ?_); clear hK2 K2; (try simp (maxSteps := 10000000) (disch := first | omega | simp) [hlt, h2]))
                | ((with_reducible refine callT' rfl fun K2 hK2 => ?_); (try simp (maxSteps := 10000000) (disch := first | omega | simp) [hlt, h2]); (first | refine hK2 _ _ _ _ _ (hr) fun _ => ?_); clear hK2 K2; (try simp (maxSteps := 10000000) (disch := first | omega | simp) [hlt, h2]))
                | ((with_reducible refine gdU ?_); (try simp (maxSteps := 10000000) (disch := first | omega | simp) [hlt, h2]))) <;> clear hK K)
            | ((with_reducible refine awCond fun A B hA hB => ?_); simp (maxSteps := 10000000) (disch := first | omega | simp) [hlt, h2]; (first | refine ⟨fun h => hA ?_, fun h => hB ?_⟩ | refine hA ?_ | refine hB ?_) <;> (clear hA hB A B; (try (exfalso; omega))))
        (refine ⟨?_, n, ?_, Wk.ofA ?_⟩; assumption; rotate_left; focus (simp []; done))
        exact ⟨by simpa using hs, by omega⟩
      | true =>
        have e : eqS m.brokers[i].rack b.rack = true := h2
        rw [e] at hs
        by_cases h3 : m.brokers[i].id < b.id
        · repeat' first
              | (with_reducible first | refine thN ?_ | refine thR ?_ | refine thE ?_ | refine inN ?_ | refine inR ?_ | refine inH ?_ | refine fF ?_ | refine fS ?_ | refine fR ?_ | refine fQ ?_ | refine fC ?_ | refine fB ?_ | refine fL ?_ | refine fE ?_ | refine fT ?_ | refine awBlock ?_ | refine awExit ?_ | refine awRet ?_ | refine awSkip ?_ | refine inM (by decide) ?_)
              | ((with_reducible refine awReg fun K hok hK => ?_); clear hok; (try simp (maxSteps := 10000000) (disch := first | omega | simp) [hlt, h2, h3]); (repeat' first
                  | (with_reducible refine hK _ (by simp) ?_)
                  | ((with_reducible refine gdT (fun h => ?_) (fun h => ?_)) <;> (simp (maxSteps := 10000000) (disch := first | omega | simp) [h, hlt, h2, h3]; (try simp at h); (try (exfalso; omega))))
                  | ((with_reducible refine gdF (fun h => ?_) (fun h => ?_)) <;> (simp (maxSteps := 10000000) (disch := first | omega | simp) [h, hlt, h2, h3]; (try simp at h); (try (exfalso; omega))))
                  | ((with_reducible refine callS' fun K2 hK2 => ?_); (try simp (maxSteps := 10000000) (disch := first | omega | simp) [hlt, h2, h3]); (first | (refine hK2 _ _ (hr) rfl fun hk9 => ?_; clear hk9)); clear hK2 K2; (try simp (maxSteps := 10000000) (disch := first | omega | simp) [hlt, h2, h3]))
                  | ((with_reducible refine callF' fun K2 hK2 => ?_); (try simp (maxSteps := 10000000) (disch := first | omega | simp) [hlt, h2, h3]); (first | refine hK2 _ _ _ (hr) fun _ => ?_); clear hK2 K2; (try simp (maxSteps := 10000000) (disch := first | omega | simp) [hlt, h2, h3]))
                  | ((with_reducible refine callM' rfl fun K2 hK2 => ?_); (try simp (maxSteps := 10000000) (disch := first | omega | simp) [hlt, h2, h3]); (first | refine hK2 _ _ _ _ _ _ _ (hr) rfl fun _ _ => ?_); clear hK2 K2; (try simp (maxSteps := 10000000) (disch := first | omega | simp) [hlt, h2, h3]))
                  | ((with_reducible refine callT' rfl fun K2 hK2 => ?_); (try simp (maxSteps := 10000000) (disch := first | omega | simp) [hlt, h2, h3]); (first | refine hK2 _ _ _ _ _ (hr) fun _ => ?_); clear hK2 K2; (try simp (maxSteps := 10000000) (disch := first | omega | simp) [hlt, h2, h3]))
                  | ((with_reducible refine gdU ?_); (try simp (maxSteps := 10000000) (disch := first | omega | simp) [hlt, h2, h3]))) <;> clear hK K)
              | ((with_reducible refine awCond fun A B hA hB => ?_); simp (maxSteps := 10000000) (disch := first | omega | simp) [hlt, h2, h3]; (first | refine ⟨fun h => hA ?_, fun h => hB ?_⟩ | refine hA ?_ | refine hB ?_) <;> (clear hA hB A B; (try (exfalso; omega))))
          (refine ⟨?_, n + 1, ?_, Wk.ofA ?_⟩; assumption; rotate_left; focus (simp []; done))
          exact ⟨by simp [h3] at hs; omega, by omega⟩
        · repeat' first
              | (with_reducible first | refine thN ?_ | refine thR ?_ | refine thE ?_ | refine inN ?_ | refine inR ?_ | refine inH ?_ | refine fF ?_ | refine fS ?_ | refine fR ?_ | refine fQ ?_ | refine fC ?_ | refine fB ?_ | refine fL ?_ | refine fE ?_ | refine fT ?_ | refine awBlock ?_ | refine awExit ?_ | refine awRet ?_ | refine awSkip ?_ | refine inM (by decide) ?_)
              | ((with_reducible refine awReg fun K hok hK => ?_); clear hok; (try simp (maxSteps := 10000000) (disch := first | omega | simp) [hlt, h2, h3]); (repeat' first
                  | (with_reducible refine hK _ (by simp) ?_)
                  | ((with_reducible refine gdT (fun h => ?_) (fun h => ?_)) <;> (simp (maxSteps := 10000000) (disch := first | omega | simp) [h, hlt, h2, h3]; (try simp at h); (try (exfalso; omega))))
                  | ((with_reducible refine gdF (fun h => ?_) (fun h => ?_)) <;> (simp (maxSteps := 10000000) (disch := first | omega | simp) [h, hlt, h2, h3]; (try simp at h); (try (exfalso; omega))))
                  | ((with_reducible refine callS' fun K2 hK2 => ?_); (try simp (maxSteps := 10000000) (disch := first | omega | simp) [hlt, h2, h3]); (first | (refine hK2 _ _ (hr) rfl fun hk9 => ?_; clear hk9)); clear hK2 K2; (try simp (maxSteps := 10000000) (disch := first | omega | simp) [hlt, h2, h3]))
                  | ((with_reducible refine callF' fun K2 hK2 => ?_); (try simp (maxSteps := 10000000) (disch := first | omega | simp) [hlt, h2, h3]); (first | refine hK2 _ _ _ (hr) fun _ => ?_); clear hK2 K2; (try simp (maxSteps := 10000000) (disch := first | omega | simp) [hlt, h2, h3]))
                  | ((with_reducible refine callM' rfl fun K2 hK2 => ?_); (try simp (maxSteps := 10000000) (disch := first | omega | simp) [hlt, h2, h3]); (first | refine hK2 _ _ _ _ _ _ _ (hr) rfl fun _ _ => ?_); clear hK2 K2; (try simp (maxSteps := 10000000) (disch := first | omega | simp) [hlt, h2, h3]))
                  | ((with_reducible refine callT' rfl fun K2 hK2 => ?_); (try simp (maxSteps := 10000000) (disch := first | omega | simp) [hlt, h2, h3]); (first | refine hK2 _ _ _ _ _ (hr) fun _ => ?_); clear hK2 K2; (try simp (maxSteps := 10000000) (disch := first | omega | simp) [hlt, h2, h3]))
                  | ((with_reducible refine gdU ?_); (try simp (maxSteps := 10000000) (disch := first | omega | simp) [hlt, h2, h3]))) <;> clear hK K)
              | ((with_reducible refine awCond fun A B hA hB => ?_); simp (maxSteps := 10000000) (disch := first | omega | simp) [hlt, h2, h3]; (first | refine ⟨fun h => hA ?_, fun h => hB ?_⟩ | refine hA ?_ | refine hB ?_) <;> (clear hA hB A B; (try (exfalso; omega))))
          (refine ⟨?_, n, ?_, Wk.ofA ?_⟩; assumption; rotate_left; focus (simp []; done))
          exact ⟨by simp [h3] at hs; omega, by omega⟩
  · have e : rankR m b = n := by rw [drop_nil (by omega)] at hs; simpa using hs.symm
    clear hs
    repeat' first
        | (with_reducible first | refine thN ?_ | refine thR ?_ | refine thE ?_ | refine inN ?_ | refine inR ?_ | refine inH ?_ | refine fF ?_ | refine fS ?_ | refine fR ?_ | refine fQ ?_ | refine fC ?_ | refine fB ?_ | refine fL ?_ | refine fE ?_ | refine fT ?_ | refine awBlock ?_ | refine awExit ?_ | refine awRet ?_ | refine awSkip ?_ | refine inM (by decide) ?_)
        | ((with_reducible refine awReg fun K hok hK => ?_); clear hok; (try simp (maxSteps := 10000000) (disch := first | omega | simp) [hlt]); (repeat' first
            | (with_reducible refine hK _ (by simp) ?_)
            | ((with_reducible refine gdT (fun h => ?_) (fun h => ?_)) <;> (simp (maxSteps := 10000000) (disch := first | omega | simp) [h, hlt]; (try simp at h); (try (exfalso; omega))))
            | ((with_reducible refine gdF (fun h => ?_) (fun h => ?_)) <;> (simp (maxSteps := 10000000) (disch := first | omega | simp) [h, hlt]; (try simp at h); (try (exfalso; omega))))
            | ((with_reducible refine gdU ?_); (try simp (maxSteps := 10000000) (disch := first | omega | simp) [hlt]))) <;> clear hK K)
        | ((with_reducible refine awCond fun A B hA hB => ?_); simp (maxSteps := 10000000) (disch := first | omega | simp) [hlt]; (first | refine ⟨fun h => hA ?_, fun h => hB ?_⟩ | refine hA ?_ | refine hB ?_) <;> (clear hA hB A B; (try (exfalso; omega))))
    (refine aEnR (aRes [] fun K hK => ?_); simp (maxSteps := 10000000) (disch := first | omega | simp) [e]; refine hK _ ?_ (by simp); clear hK; first | done | (simp (maxSteps := 10000000) (disch := first | omega | simp) [e, *]; done) | (simp (maxSteps := 10000000) (disch := first | omega | simp) [e, *]; omega) | (simp_all [e]; done) | (simp_all [e]; omega))
end
end Go.Am
