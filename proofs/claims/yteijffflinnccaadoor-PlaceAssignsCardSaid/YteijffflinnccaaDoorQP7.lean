/- Part of the proof of a law of placing. -/
import Derived.Test.YteijffflinnccaaDoorQP6
import Derived.Test.YteijffflinnccaaDoorQPK
set_option linter.all false
set_option maxRecDepth 100000
set_option maxHeartbeats 0
namespace Go.Am
open Go
noncomputable section
def c13 : SC := (.seq (.reg [⟨some 2, .box 30 (.tmp 0), none, []⟩,
  ⟨some 4, .assign (.const .nilIface), none, []⟩] [1, 2, 18, 40]) (.seq (.reg [⟨some 8, .move (.tmp 1), none, []⟩,
  ⟨some 9, .call { callee := .builtin .len, args := #[.tmp 8], argTypes := #[23] }, none, []⟩,
  ⟨some 10, .binOp .lss 3 (.tmp 9) (.const (.int .i64 1)) 3, none, []⟩,
  ⟨some 11, .move (.tmp 10), none, []⟩,
  ⟨some 12, .move (.tmp 1), (some (11, false)), []⟩,
  ⟨some 13, .call { callee := .builtin .len, args := #[.tmp 12], argTypes := #[23] }, (some (11, false)), []⟩,
  ⟨some 14, .binOp .gtr 3 (.tmp 13) (.const (.int .i64 7)) 3, (some (11, false)), []⟩,
  ⟨some 15, .pick (.tmp 11) (.const (.bool true)) (.tmp 14), none, []⟩] [1, 2, 10, 11, 14, 15, 18, 40]) (.seq (.cond (.tmp 15) (.seq (.reg [⟨some 16, .move (.tmp 1), none, []⟩,
  ⟨some 17, .call { callee := .builtin .len, args := #[.tmp 16], argTypes := #[23] }, none, []⟩,
  ⟨some 18, .call { callee := .value (.func 23), args := #[.const (.string ⟨#[114, 101, 112, 108, 105, 99, 97, 115]⟩), .tmp 17, .const (.int .i64 18)], argTypes := #[9, 3, 37] }, none, []⟩,
  ⟨some 4, .assign (.tmp 18), none, []⟩] [4, 18, 40]) .ret) .skip) (.seq (.reg [⟨some 19, .load 30 (.tmp 2), none, []⟩,
  ⟨some 20, .call { callee := .value (.func 10), args := #[.tmp 19], argTypes := #[30] }, none, []⟩,
  ⟨some 5, .assign (.tmp 20), none, []⟩] [1, 5, 18, 20, 40]) (.seq (.reg [⟨some 21, .move (.tmp 1), none, []⟩,
  ⟨some 22, .call { callee := .builtin .len, args := #[.tmp 21], argTypes := #[23] }, none, []⟩,
  ⟨some 23, .move (.const (.int .i64 0)), none, []⟩] [1, 5, 18, 20, 21, 22, 23, 40, 41]) (.seq (.block 0 (.seq (.loop (.seq (.reg [⟨some 24, .binOp .lss 3 (.tmp 23) (.tmp 22) 3, none, []⟩] [1, 5, 18, 20, 21, 22, 23, 24, 40, 41]) (.seq (.cond (.tmp 24) .skip (.exit 0)) (.seq (.block 1 (.seq (.reg [⟨some 25, .move (.tmp 23), none, []⟩,
  ⟨some 26, .indexAddr 23 (.tmp 21) (.tmp 23), none, []⟩,
  ⟨some 27, .load 3 (.tmp 26), none, []⟩,
  ⟨some 6, .assign (.tmp 25), none, []⟩,
  ⟨some 7, .assign (.tmp 27), none, []⟩] [1, 5, 6, 7, 18, 20, 21, 22, 23, 25, 26, 27, 40, 41]) (.seq (.reg [⟨some 28, .move (.tmp 5), none, []⟩,
  ⟨some 29, .move (.tmp 7), none, []⟩,
  ⟨some 30, .call { callee := .value (.func 24), args := #[.tmp 28, .tmp 29], argTypes := #[23, 3] }, none, []⟩,
  ⟨some 31, .unOp .not 4 (.tmp 30), none, []⟩,
  ⟨some 32, .move (.tmp 31), none, []⟩,
  ⟨some 33, .move (.tmp 1), (some (32, false)), []⟩,
  ⟨some 34, .move (.tmp 6), (some (32, false)), []⟩,
  ⟨some 35, .slice 23 (.tmp 33) none (some (.tmp 34)) none, (some (32, false)), []⟩,
  ⟨some 36, .move (.tmp 7), (some (32, false)), []⟩,
  ⟨some 37, .call { callee := .value (.func 24), args := #[.tmp 35, .tmp 36], argTypes := #[23, 3] }, (some (32, false)), []⟩,
  ⟨some 38, .pick (.tmp 32) (.const (.bool true)) (.tmp 37), none, []⟩] [1, 5, 6, 18, 20, 21, 22, 23, 25, 31, 32, 37, 38, 40, 41]) (.seq (.cond (.tmp 38) (.seq (.reg [⟨some 39, .move (.tmp 6), none, []⟩,
  ⟨some 40, .call { callee := .value (.func 23), args := #[.const (.string ⟨#[114, 101, 112, 108, 105, 99, 97]⟩), .tmp 39, .const (.int .i64 18)], argTypes := #[9, 3, 37] }, none, []⟩,
  ⟨some 4, .assign (.tmp 40), none, []⟩] [4, 18, 40]) .ret) .skip) .skip)))) (.seq (.reg [⟨some 41, .binOp .add 3 (.tmp 23) (.const (.int .i64 1)) 3, none, []⟩,
  ⟨some 23, .move (.tmp 41), none, []⟩] [1, 5, 18, 20, 21, 22, 23, 40, 41]) .skip))))) .skip)) (.seq (.reg [⟨some 4, .assign (.const .nilIface), none, []⟩] [4, 18, 40]) .ret)))))))
theorem s13 : TextK Proofs.Tryd.prog 0 13 42 [ResultVar.tmp 4] c13 := .mk' Proofs.Tryd.f13 _ (by kernel_rfl) rfl rfl rfl (by kernel_rfl) rfl (by kernel_rfl)
theorem check_ok (m : Image) (ids : List Int) (hb : m.brokers.length ≤ 100) (hid : ids.length ≤ 1000000) : ACall pg 13 [encM m, Li ids] (errO (ckP m.order ids)) := by
  refine s13.call mo (by simp) fun hxs => ?_
  clear hxs
  unfold c13
  have hro := order_ok m hb
  have hol : m.order.length ≤ 1000 := by
    have := (order_perm m (by omega)).length_eq
    rw [this, List.length_map]
    have := List.length_filter_le readyB m.brokers
    omega
  generalize m.order = order at *
  have hne := new_ok (bs [114, 101, 112, 108, 105, 99, 97, 115]) ids.length 18
  by_cases h1 : (ids.length : Int) < 1
  · have e : ckP order ids = some (bs [114, 101, 112, 108, 105, 99, 97, 115], (ids.length : Int), 18) := by unfold ckP; rw [if_pos (by omega)]
    rw [e]
    repeat' first
        | (with_reducible first | refine thN ?_ | refine thR ?_ | refine thE ?_ | refine inN ?_ | refine inR ?_ | refine inH ?_ | refine fF ?_ | refine fS ?_ | refine fR ?_ | refine fQ ?_ | refine fC ?_ | refine fB ?_ | refine fL ?_ | refine fE ?_ | refine fT ?_ | refine awBlock ?_ | refine awExit ?_ | refine awRet ?_ | refine awSkip ?_ | refine inM (by decide) ?_)
        | ((with_reducible refine awReg fun K hok hK => ?_); clear hok; (try simp (maxSteps := 10000000) (disch := first | omega | simp) [h1]); (repeat' first
            | (with_reducible refine hK _ (by simp) ?_)
            | ((with_reducible refine gdT (fun h => ?_) (fun h => ?_)) <;> (simp (maxSteps := 10000000) (disch := first | omega | simp) [h, h1]; (try simp at h); (try (exfalso; omega))))
            | ((with_reducible refine gdF (fun h => ?_) (fun h => ?_)) <;> (simp (maxSteps := 10000000) (disch := first | omega | simp) [h, h1]; (try simp at h); (try (exfalso; omega))))
            | ((with_reducible refine callS' fun K2 hK2 => ?_); (try simp (maxSteps := 10000000) (disch := first | omega | simp) [h1]); (first | (refine hK2 _ _ (hne) rfl fun hk9 => ?_; clear hk9)); clear hK2 K2; (try simp (maxSteps := 10000000) (disch := first | omega | simp) [h1]))
            | ((with_reducible refine callF' fun K2 hK2 => ?_); (try simp (maxSteps := 10000000) (disch := first | omega | simp) [h1]); (first | refine hK2 _ _ _ (hne) fun _ => ?_); clear hK2 K2; (try simp (maxSteps := 10000000) (disch := first | omega | simp) [h1]))
            | ((with_reducible refine callM' rfl fun K2 hK2 => ?_); (try simp (maxSteps := 10000000) (disch := first | omega | simp) [h1]); (first | refine hK2 _ _ _ _ _ _ _ (hne) rfl fun _ _ => ?_); clear hK2 K2; (try simp (maxSteps := 10000000) (disch := first | omega | simp) [h1]))
            | ((with_reducible refine callT' rfl fun K2 hK2 => ?_); (try simp (maxSteps := 10000000) (disch := first | omega | simp) [h1]); (first | refine hK2 _ _ _ _ _ (hne) fun _ => ?_); clear hK2 K2; (try simp (maxSteps := 10000000) (disch := first | omega | simp) [h1]))
            | ((with_reducible refine gdU ?_); (try simp (maxSteps := 10000000) (disch := first | omega | simp) [h1]))) <;> clear hK K)
        | ((with_reducible refine awCond fun A B hA hB => ?_); simp (maxSteps := 10000000) (disch := first | omega | simp) [h1]; (first | refine ⟨fun h => hA ?_, fun h => hB ?_⟩ | refine hA ?_ | refine hB ?_) <;> (clear hA hB A B; (try (exfalso; omega))))
    all_goals (refine aEnR (aRes [] fun K hK => ?_); simp (maxSteps := 10000000) (disch := first | omega | simp) []; refine hK _ ?_ (by simp); clear hK; first | done | (simp (maxSteps := 10000000) (disch := first | omega | simp) [*]; done) | (simp (maxSteps := 10000000) (disch := first | omega | simp) [*]; omega) | (simp_all []; done) | (simp_all []; omega))
  by_cases h2 : 7 < (ids.length : Int)
  · have e : ckP order ids = some (bs [114, 101, 112, 108, 105, 99, 97, 115], (ids.length : Int), 18) := by unfold ckP; rw [if_pos (by omega)]
    rw [e]
    repeat' first
        | (with_reducible first | refine thN ?_ | refine thR ?_ | refine thE ?_ | refine inN ?_ | refine inR ?_ | refine inH ?_ | refine fF ?_ | refine fS ?_ | refine fR ?_ | refine fQ ?_ | refine fC ?_ | refine fB ?_ | refine fL ?_ | refine fE ?_ | refine fT ?_ | refine awBlock ?_ | refine awExit ?_ | refine awRet ?_ | refine awSkip ?_ | refine inM (by decide) ?_)
        | ((with_reducible refine awReg fun K hok hK => ?_); clear hok; (try simp (maxSteps := 10000000) (disch := first | omega | simp) [h1, h2]); (repeat' first
            | (with_reducible refine hK _ (by simp) ?_)
            | ((with_reducible refine gdT (fun h => ?_) (fun h => ?_)) <;> (simp (maxSteps := 10000000) (disch := first | omega | simp) [h, h1, h2]; (try simp at h); (try (exfalso; omega))))
            | ((with_reducible refine gdF (fun h => ?_) (fun h => ?_)) <;> (simp (maxSteps := 10000000) (disch := first | omega | simp) [h, h1, h2]; (try simp at h); (try (exfalso; omega))))
            | ((with_reducible refine callS' fun K2 hK2 => ?_); (try simp (maxSteps := 10000000) (disch := first | omega | simp) [h1, h2]); (first | (refine hK2 _ _ (hne) rfl fun hk9 => ?_; clear hk9)); clear hK2 K2; (try simp (maxSteps := 10000000) (disch := first | omega | simp) [h1, h2]))
            | ((with_reducible refine callF' fun K2 hK2 => ?_); (try simp (maxSteps := 10000000) (disch := first | omega | simp) [h1, h2]); (first | refine hK2 _ _ _ (hne) fun _ => ?_); clear hK2 K2; (try simp (maxSteps := 10000000) (disch := first | omega | simp) [h1, h2]))
            | ((with_reducible refine callM' rfl fun K2 hK2 => ?_); (try simp (maxSteps := 10000000) (disch := first | omega | simp) [h1, h2]); (first | refine hK2 _ _ _ _ _ _ _ (hne) rfl fun _ _ => ?_); clear hK2 K2; (try simp (maxSteps := 10000000) (disch := first | omega | simp) [h1, h2]))
            | ((with_reducible refine callT' rfl fun K2 hK2 => ?_); (try simp (maxSteps := 10000000) (disch := first | omega | simp) [h1, h2]); (first | refine hK2 _ _ _ _ _ (hne) fun _ => ?_); clear hK2 K2; (try simp (maxSteps := 10000000) (disch := first | omega | simp) [h1, h2]))
            | ((with_reducible refine gdU ?_); (try simp (maxSteps := 10000000) (disch := first | omega | simp) [h1, h2]))) <;> clear hK K)
        | ((with_reducible refine awCond fun A B hA hB => ?_); simp (maxSteps := 10000000) (disch := first | omega | simp) [h1, h2]; (first | refine ⟨fun h => hA ?_, fun h => hB ?_⟩ | refine hA ?_ | refine hB ?_) <;> (clear hA hB A B; (try (exfalso; omega))))
    all_goals (refine aEnR (aRes [] fun K hK => ?_); simp (maxSteps := 10000000) (disch := first | omega | simp) []; refine hK _ ?_ (by simp); clear hK; first | done | (simp (maxSteps := 10000000) (disch := first | omega | simp) [*]; done) | (simp (maxSteps := 10000000) (disch := first | omega | simp) [*]; omega) | (simp_all []; done) | (simp_all []; omega))
  clear hne
  have e : ckP order ids = ((List.range ids.length).find? (ckBad order ids)).map fun i : Nat => (bs [114, 101, 112, 108, 105, 99, 97], (i : Int), 18) := by unfold ckP; rw [if_neg (by omega)]
  rw [e]
  clear e
  repeat' first
      | (with_reducible first | refine thN ?_ | refine thR ?_ | refine thE ?_ | refine inN ?_ | refine inR ?_ | refine inH ?_ | refine fF ?_ | refine fS ?_ | refine fR ?_ | refine fQ ?_ | refine fC ?_ | refine fB ?_ | refine fL ?_ | refine fE ?_ | refine fT ?_ | refine awBlock ?_ | refine awExit ?_ | refine awRet ?_ | refine awSkip ?_ | refine inM (by decide) ?_)
      | ((with_reducible refine awReg fun K hok hK => ?_); clear hok; (try simp (maxSteps := 10000000) (disch := first | omega | simp) [h1, h2]); (repeat' first
          | (with_reducible refine hK _ (by simp) ?_)
          | ((with_reducible refine gdT (fun h => ?_) (fun h => ?_)) <;> (simp (maxSteps := 10000000) (disch := first | omega | simp) [h, h1, h2]; (try simp at h); (try (exfalso; omega))))
          | ((with_reducible refine gdF (fun h => ?_) (fun h => ?_)) <;> (simp (maxSteps := 10000000) (disch := first | omega | simp) [h, h1, h2]; (try simp at h); (try (exfalso; omega))))
          | ((with_reducible refine callS' fun K2 hK2 => ?_); (try simp (maxSteps := 10000000) (disch := first | omega | simp) [h1, h2]); (first | (refine hK2 _ _ (hro) rfl fun hk9 => ?_; clear hk9)); clear hK2 K2; (try simp (maxSteps := 10000000) (disch := first | omega | simp) [h1, h2]))
          | ((with_reducible refine callF' fun K2 hK2 => ?_); (try simp (maxSteps := 10000000) (disch := first | omega | simp) [h1, h2]); (first | refine hK2 _ _ _ (hro) fun _ => ?_); clear hK2 K2; (try simp (maxSteps := 10000000) (disch := first | omega | simp) [h1, h2]))
          | ((with_reducible refine callM' rfl fun K2 hK2 => ?_); (try simp (maxSteps := 10000000) (disch := first | omega | simp) [h1, h2]); (first | refine hK2 _ _ _ _ _ _ _ (hro) rfl fun _ _ => ?_); clear hK2 K2; (try simp (maxSteps := 10000000) (disch := first | omega | simp) [h1, h2]))
          | ((with_reducible refine callT' rfl fun K2 hK2 => ?_); (try simp (maxSteps := 10000000) (disch := first | omega | simp) [h1, h2]); (first | refine hK2 _ _ _ _ _ (hro) fun _ => ?_); clear hK2 K2; (try simp (maxSteps := 10000000) (disch := first | omega | simp) [h1, h2]))
          | ((with_reducible refine gdU ?_); (try simp (maxSteps := 10000000) (disch := first | omega | simp) [h1, h2]))) <;> clear hK K)
      | ((with_reducible refine awCond fun A B hA hB => ?_); simp (maxSteps := 10000000) (disch := first | omega | simp) [h1, h2]; (first | refine ⟨fun h => hA ?_, fun h => hB ?_⟩ | refine hA ?_ | refine hB ?_) <;> (clear hA hB A B; (try (exfalso; omega))))
  refine awFor ids.length (fun i (_ : Unit) => ((List.range ids.length).drop i).find? (ckBad order ids) = (List.range ids.length).find? (ckBad order ids))
    (fun i _ => [(23, .p (I i)), (22, .p (I ids.length)), (21, .p (Li ids)), (1, .p (Li ids)), (5, .p (.sl (order.map I)))]) ()
    ((Wk.frz0 (r := 5) rfl).trans (Wk.ofA (by simp))) rfl fun i _ hi hs => ?_
  by_cases hlt : i < ids.length
  · rw [drop_cons (show i < (List.range ids.length).length by simpa using hlt)] at hs
    simp only [List.getElem_range, List.find?_cons] at hs
    have hg : ids.getD i 0 = ids[i] := by rw [List.getD_eq_getElem?_getD, List.getElem?_eq_getElem hlt]; rfl
    have hck : ckBad order ids i = (!order.contains ids[i] || (ids.take i).contains ids[i]) := by unfold ckBad; rw [hg]
    rw [hck] at hs
    have hc1 := contains_ok order ids[i] (by omega)
    have hc2 : ACall pg 24 [.sl ((ids.map I).take i), I ids[i]] (B ((ids.take i).contains ids[i])) := by rw [← List.map_take]; exact contains_ok (ids.take i) ids[i] (by rw [List.length_take]; omega)
    have hne := new_ok (bs [114, 101, 112, 108, 105, 99, 97]) i 18
    cases ht1 : order.contains ids[i] with
    | false =>
      rw [ht1] at hs hc1
      simp only [Bool.not_false, Bool.true_or] at hs
      rw [← hs]
      clear hs
      first | simp only [Option.map_some] | simp only [Option.map_none]
      repeat' first
          | (with_reducible first | refine thN ?_ | refine thR ?_ | refine thE ?_ | refine inN ?_ | refine inR ?_ | refine inH ?_ | refine fF ?_ | refine fS ?_ | refine fR ?_ | refine fQ ?_ | refine fC ?_ | refine fB ?_ | refine fL ?_ | refine fE ?_ | refine fT ?_ | refine awBlock ?_ | refine awExit ?_ | refine awRet ?_ | refine awSkip ?_ | refine inM (by decide) ?_)
          | ((with_reducible refine awReg fun K hok hK => ?_); clear hok; (try simp (maxSteps := 10000000) (disch := first | omega | simp) [hlt]); (repeat' first
              | (with_reducible refine hK _ (by simp) ?_)
              | ((with_reducible refine gdT (fun h => ?_) (fun h => ?_)) <;> (simp (maxSteps := 10000000) (disch := first | omega | simp) [h, hlt]; (try simp at h); (try (exfalso; omega))))
              | ((with_reducible refine gdF (fun h => ?_) (fun h => ?_)) <;> (simp (maxSteps := 10000000) (disch := first | omega | simp) [h, hlt]; (try simp at h); (try (exfalso; omega))))
              | ((with_reducible refine callS' fun K2 hK2 => ?_); (try simp (maxSteps := 10000000) (disch := first | omega | simp) [hlt]); (first | (refine hK2 _ _ (hc1) rfl fun hk9 => ?_; clear hk9) | (refine hK2 _ _ (hne) rfl fun hk9 => ?_; clear hk9)); clear hK2 K2; (try simp (maxSteps := 10000000) (disch := first | omega | simp) [hlt]))
              | ((with_reducible refine callF' fun K2 hK2 => ?_); (try simp (maxSteps := 10000000) (disch := first | omega | simp) [hlt]); (first | refine hK2 _ _ _ (hc1) fun _ => ?_ | refine hK2 _ _ _ (hne) fun _ => ?_); clear hK2 K2; (try simp (maxSteps := 10000000) (disch := first | omega | simp) [hlt]))
              | ((with_reducible refine callM' rfl fun K2 hK2 => ?_); (try simp (maxSteps := 10000000) (disch := first | omega | simp) [hlt]); (first | refine hK2 _ _ _ _ _ _ _ (hc1) rfl fun _ _ => ?_ | refine hK2 _ _ _ _ _ _ _ (hne) rfl fun _ _ => ?_); clear hK2 K2; (try simp (maxSteps := 10000000) (disch := first | omega | simp) [hlt]))
              | ((with_reducible refine callT' rfl fun K2 hK2 => ?_); (try simp (maxSteps := 10000000) (disch := first | omega | simp) [hlt]); (first | refine hK2 _ _ _ _ _ (hc1) fun _ => ?_ | refine hK2 _ _ _ _ _ (hne) fun _ => ?_); clear hK2 K2; (try simp (maxSteps := 10000000) (disch := first | omega | simp) [hlt]))
              | ((with_reducible refine gdU ?_); (try simp (maxSteps := 10000000) (disch := first | omega | simp) [hlt]))) <;> clear hK K)
          | ((with_reducible refine awCond fun A B hA hB => ?_); simp (maxSteps := 10000000) (disch := first | omega | simp) [hlt]; (first | refine ⟨fun h => hA ?_, fun h => hB ?_⟩ | refine hA ?_ | refine hB ?_) <;> (clear hA hB A B; (try (exfalso; omega))))
      all_goals (refine aEnR (aRes [] fun K hK => ?_); simp (maxSteps := 10000000) (disch := first | omega | simp) []; refine hK _ ?_ (by simp); clear hK; first | done | (simp (maxSteps := 10000000) (disch := first | omega | simp) [*]; done) | (simp (maxSteps := 10000000) (disch := first | omega | simp) [*]; omega) | (simp_all []; done) | (simp_all []; omega))
    | true =>
      rw [ht1] at hs hc1
      cases ht2 : (ids.take i).contains ids[i] with
      | true =>
        rw [ht2] at hs hc2
        simp only [Bool.not_true, Bool.false_or] at hs
        rw [← hs]
        clear hs
        first | simp only [Option.map_some] | simp only [Option.map_none]
        repeat' first
            | (with_reducible first | refine thN ?_ | refine thR ?_ | refine thE ?_ | refine inN ?_ | refine inR ?_ | refine inH ?_ | refine fF ?_ | refine fS ?_ | refine fR ?_ | refine fQ ?_ | refine fC ?_ | refine fB ?_ | refine fL ?_ | refine fE ?_ | refine fT ?_ | refine awBlock ?_ | refine awExit ?_ | refine awRet ?_ | refine awSkip ?_ | refine inM (by decide) ?_)
            | ((with_reducible refine awReg fun K hok hK => ?_); clear hok; (try simp (maxSteps := 10000000) (disch := first | omega | simp) [hlt]); (repeat' first
                | (with_reducible refine hK _ (by simp) ?_)
                | ((with_reducible refine gdT (fun h => ?_) (fun h => ?_)) <;> (simp (maxSteps := 10000000) (disch := first | omega | simp) [h, hlt]; (try simp at h); (try (exfalso; omega))))
                | ((with_reducible refine gdF (fun h => ?_) (fun h => ?_)) <;> (simp (maxSteps := 10000000) (disch := first | omega | simp) [h, hlt]; (try simp at h); (try (exfalso; omega))))
                | ((with_reducible refine callS' fun K2 hK2 => ?_); (try simp (maxSteps := 10000000) (disch := first | omega | simp) [hlt]); (first | (refine hK2 _ _ (hc1) rfl fun hk9 => ?_; clear hk9) | (refine hK2 _ _ (hc2) rfl fun hk9 => ?_; clear hk9) | (refine hK2 _ _ (hne) rfl fun hk9 => ?_; clear hk9)); clear hK2 K2; (try simp (maxSteps := 10000000) (disch := first | omega | simp) [hlt]))
                | ((with_reducible refine callF' fun K2 hK2 => ?_); (try simp (maxSteps := 10000000) (disch := first | omega | simp) [hlt]); (first | refine hK2 _ _ _ (hc1) fun _ => ?_ | refine hK2 _ _ _ (hc2) fun _ => ?_ | refine hK2 _ _ _ (hne) fun _ => ?_); clear hK2 K2; (try simp (maxSteps := 10000000) (disch := first | omega | simp) [hlt]))
                | ((with_reducible refine callM' rfl fun K2 hK2 => ?_); (try simp (maxSteps := 10000000) (disch := first | omega | simp) [hlt]); (first | refine hK2 _ _ _ _ _ _ _ (hc1) rfl fun _ _ => ?_ | refine hK2 _ _ _ _ _ _ _ (hc2) rfl fun _ _ => ?_ | refine hK2 _ _ _ _ _ _ _ (hne) rfl fun _ _ => ?_); clear hK2 K2; (try simp (maxSteps := 10000000) (disch := first | omega | simp) [hlt]))
                | ((with_reducible refine callT' rfl fun K2 hK2 => ?_); (try simp (maxSteps := 10000000) (disch := first | omega | simp) [hlt]); (first | refine hK2 _ _ _ _ _ (hc1) fun _ => ?_ | refine hK2 _ _ _ _ _ (hc2) fun _ => ?_ | refine hK2 _ _ _ _ _ (hne) fun _ => ?_); clear hK2 K2; (try simp (maxSteps := 10000000) (disch := first | omega | simp) [hlt]))
                | ((with_reducible refine gdU ?_); (try simp (maxSteps := 10000000) (disch := first | omega | simp) [hlt]))) <;> clear hK K)
            | ((with_reducible refine awCond fun A B hA hB => ?_); simp (maxSteps := 10000000) (disch := first | omega | simp) [hlt]; (first | refine ⟨fun h => hA ?_, fun h => hB ?_⟩ | refine hA ?_ | refine hB ?_) <;> (clear hA hB A B; (try (exfalso; omega))))
        all_goals (refine aEnR (aRes [] fun K hK => ?_); simp (maxSteps := 10000000) (disch := first | omega | simp) []; refine hK _ ?_ (by simp); clear hK; first | done | (simp (maxSteps := 10000000) (disch := first | omega | simp) [*]; done) | (simp (maxSteps := 10000000) (disch := first | omega | simp) [*]; omega) | (simp_all []; done) | (simp_all []; omega))
      | false =>
        rw [ht2] at hs hc2
        simp only [Bool.not_true, Bool.false_or] at hs
        repeat' first
            | (with_reducible first | refine thN ?_ | refine thR ?_ | refine thE ?_ | refine inN ?_ | refine inR ?_ | refine inH ?_ | refine fF ?_ | refine fS ?_ | refine fR ?_ | refine fQ ?_ | refine fC ?_ | refine fB ?_ | refine fL ?_ | refine fE ?_ | refine fT ?_ | refine awBlock ?_ | refine awExit ?_ | refine awRet ?_ | refine awSkip ?_ | refine inM (by decide) ?_)
            | ((with_reducible refine awReg fun K hok hK => ?_); clear hok; (try simp (maxSteps := 10000000) (disch := first | omega | simp) [hlt]); (repeat' first
                | (with_reducible refine hK _ (by simp) ?_)
                | ((with_reducible refine gdT (fun h => ?_) (fun h => ?_)) <;> (simp (maxSteps := 10000000) (disch := first | omega | simp) [h, hlt]; (try simp at h); (try (exfalso; omega))))
                | ((with_reducible refine gdF (fun h => ?_) (fun h => ?_)) <;> (simp (maxSteps := 10000000) (disch := first | omega | simp) [h, hlt]; (try simp at h); (try (exfalso; omega))))
                | ((with_reducible refine callS' fun K2 hK2 => ?_); (try simp (maxSteps := 10000000) (disch := first | omega | simp) [hlt]); (first | (refine hK2 _ _ (hc1) rfl fun hk9 => ?_; clear hk9) | (refine hK2 _ _ (hc2) rfl fun hk9 => ?_; clear hk9)); clear hK2 K2; (try simp (maxSteps := 10000000) (disch := first | omega | simp) [hlt]))
                | ((with_reducible refine callF' fun K2 hK2 => ?_); (try simp (maxSteps := 10000000) (disch := first | omega | simp) [hlt]); (first | refine hK2 _ _ _ (hc1) fun _ => ?_ | refine hK2 _ _ _ (hc2) fun _ => ?_); clear hK2 K2; (try simp (maxSteps := 10000000) (disch := first | omega | simp) [hlt]))
                | ((with_reducible refine callM' rfl fun K2 hK2 => ?_); (try simp (maxSteps := 10000000) (disch := first | omega | simp) [hlt]); (first | refine hK2 _ _ _ _ _ _ _ (hc1) rfl fun _ _ => ?_ | refine hK2 _ _ _ _ _ _ _ (hc2) rfl fun _ _ => ?_); clear hK2 K2; (try simp (maxSteps := 10000000) (disch := first | omega | simp) [hlt]))
                | ((with_reducible refine callT' rfl fun K2 hK2 => ?_); (try simp (maxSteps := 10000000) (disch := first | omega | simp) [hlt]); (first | refine hK2 _ _ _ _ _ (hc1) fun _ => ?_ | refine hK2 _ _ _ _ _ (hc2) fun _ => ?_); clear hK2 K2; (try simp (maxSteps := 10000000) (disch := first | omega | simp) [hlt]))
                | ((with_reducible refine gdU ?_); (try simp (maxSteps := 10000000) (disch := first | omega | simp) [hlt]))) <;> clear hK K)
            | ((with_reducible refine awCond fun A B hA hB => ?_); simp (maxSteps := 10000000) (disch := first | omega | simp) [hlt]; (first | refine ⟨fun h => hA ?_, fun h => hB ?_⟩ | refine hA ?_ | refine hB ?_) <;> (clear hA hB A B; (try (exfalso; omega))))
        (refine ⟨?_, (), ?_, Wk.ofA ?_⟩; assumption; rotate_left; focus (simp []; done))
        exact hs
  · rw [drop_nil (by simp; omega)] at hs
    simp only [List.find?_nil] at hs
    rw [← hs]
    clear hs
    first | simp only [Option.map_some] | simp only [Option.map_none]
    repeat' first
        | (with_reducible first | refine thN ?_ | refine thR ?_ | refine thE ?_ | refine inN ?_ | refine inR ?_ | refine inH ?_ | refine fF ?_ | refine fS ?_ | refine fR ?_ | refine fQ ?_ | refine fC ?_ | refine fB ?_ | refine fL ?_ | refine fE ?_ | refine fT ?_ | refine awBlock ?_ | refine awExit ?_ | refine awRet ?_ | refine awSkip ?_ | refine inM (by decide) ?_)
        | ((with_reducible refine awReg fun K hok hK => ?_); clear hok; (try simp (maxSteps := 10000000) (disch := first | omega | simp) []); (repeat' first
            | (with_reducible refine hK _ (by simp) ?_)
            | ((with_reducible refine gdT (fun h => ?_) (fun h => ?_)) <;> (simp (maxSteps := 10000000) (disch := first | omega | simp) [h]; (try simp at h); (try (exfalso; omega))))
            | ((with_reducible refine gdF (fun h => ?_) (fun h => ?_)) <;> (simp (maxSteps := 10000000) (disch := first | omega | simp) [h]; (try simp at h); (try (exfalso; omega))))
            | ((with_reducible refine gdU ?_); (try simp (maxSteps := 10000000) (disch := first | omega | simp) []))) <;> clear hK K)
        | ((with_reducible refine awCond fun A B hA hB => ?_); simp (maxSteps := 10000000) (disch := first | omega | simp) []; (first | refine ⟨fun h => hA ?_, fun h => hB ?_⟩ | refine hA ?_ | refine hB ?_) <;> (clear hA hB A B; (try (exfalso; omega))))
    all_goals (refine aEnR (aRes [] fun K hK => ?_); simp (maxSteps := 10000000) (disch := first | omega | simp) []; refine hK _ ?_ (by simp); clear hK; first | done | (simp (maxSteps := 10000000) (disch := first | omega | simp) [*]; done) | (simp (maxSteps := 10000000) (disch := first | omega | simp) [*]; omega) | (simp_all []; done) | (simp_all []; omega))
end
end Go.Am
