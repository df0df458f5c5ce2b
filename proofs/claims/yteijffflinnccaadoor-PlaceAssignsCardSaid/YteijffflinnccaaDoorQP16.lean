/- Part of the proof of a law of placing. -/
import Derived.Test.YteijffflinnccaaDoorQP10
import Derived.Test.YteijffflinnccaaDoorQP7
import Derived.Test.YteijffflinnccaaDoorQPK
set_option linter.all false
set_option maxRecDepth 100000
set_option maxHeartbeats 0
namespace Go.Am
open Go
noncomputable section
def c14 : SC := (.seq (.reg [⟨some 2, .box 30 (.tmp 0), none, []⟩,
  ⟨some 4, .assign (.const (.int .i64 0)), none, []⟩] [1, 2]) (.seq (.reg [⟨some 8, .move (.tmp 1), none, []⟩,
  ⟨some 9, .call { callee := .builtin .len, args := #[.tmp 8], argTypes := #[23] }, none, []⟩,
  ⟨some 10, .binOp .lss 3 (.tmp 9) (.const (.int .i64 1)) 3, none, []⟩,
  ⟨some 11, .move (.tmp 10), none, []⟩,
  ⟨some 12, .move (.tmp 1), (some (11, false)), []⟩,
  ⟨some 13, .call { callee := .builtin .len, args := #[.tmp 12], argTypes := #[23] }, (some (11, false)), []⟩,
  ⟨some 14, .binOp .gtr 3 (.tmp 13) (.const (.int .i64 7)) 3, (some (11, false)), []⟩,
  ⟨some 15, .pick (.tmp 11) (.const (.bool true)) (.tmp 14), none, []⟩] [1, 2, 10, 11, 14, 15]) (.seq (.cond (.tmp 15) (.seq (.reg [⟨some 4, .assign (.const (.int .i64 18)), none, []⟩] [4]) .ret) .skip) (.seq (.reg [⟨some 5, .assign (.const (.int .i64 0)), none, []⟩] [1, 2, 5, 21]) (.seq (.block 0 (.seq (.loop (.seq (.reg [⟨some 16, .move (.tmp 5), none, []⟩,
  ⟨some 17, .move (.tmp 1), none, []⟩,
  ⟨some 18, .call { callee := .builtin .len, args := #[.tmp 17], argTypes := #[23] }, none, []⟩,
  ⟨some 19, .binOp .lss 3 (.tmp 16) (.tmp 18) 3, none, []⟩] [1, 2, 5, 19, 21]) (.seq (.cond (.tmp 19) .skip (.exit 0)) (.seq (.block 1 (.seq (.reg [⟨some 23, .load 30 (.tmp 2), none, [24, 25, 26, 27, 6]⟩,
  ⟨some 24, .move (.tmp 1), none, [23, 25, 6]⟩,
  ⟨some 25, .move (.tmp 5), none, [23, 24, 6]⟩,
  ⟨some 26, .indexAddr 23 (.tmp 24) (.tmp 25), none, [23, 6]⟩,
  ⟨some 27, .load 3 (.tmp 26), none, [23, 6]⟩,
  ⟨some 28, .call { callee := .value (.func 25), args := #[.tmp 23, .tmp 27], argTypes := #[30, 3] }, none, [6]⟩,
  ⟨some 22, .move (.tmp 28), none, [6]⟩,
  ⟨some 29, .extract (.tmp 22) 0, none, [30, 6]⟩,
  ⟨some 30, .extract (.tmp 22) 1, none, [29, 6, 6]⟩,
  ⟨some 6, .alloc 34, none, [23, 24, 25, 26, 27, 28, 22, 29, 30]⟩,
  ⟨none, .store 34 (.tmp 6) (.tmp 29), none, [30]⟩,
  ⟨some 7, .assign (.tmp 30), none, []⟩] [1, 2, 5, 6, 7, 21, 22, 28, 30]) (.seq (.reg [⟨some 31, .move (.tmp 7), none, []⟩,
  ⟨some 32, .unOp .not 4 (.tmp 31), none, []⟩,
  ⟨some 33, .move (.tmp 32), none, []⟩,
  ⟨some 34, .load 34 (.tmp 6), (some (33, false)), []⟩,
  ⟨some 35, .call { callee := .value (.func 8), args := #[.tmp 34], argTypes := #[34] }, (some (33, false)), []⟩,
  ⟨some 36, .unOp .not 4 (.tmp 35), (some (33, false)), []⟩,
  ⟨some 37, .pick (.tmp 33) (.const (.bool true)) (.tmp 36), none, []⟩,
  ⟨some 38, .move (.tmp 37), none, []⟩,
  ⟨some 39, .move (.tmp 1), (some (38, false)), [40, 42, 43, 44, 45]⟩,
  ⟨some 40, .move (.tmp 5), (some (38, false)), [39, 42, 43, 44, 45]⟩,
  ⟨some 41, .slice 23 (.tmp 39) none (some (.tmp 40)) none, (some (38, false)), [42, 43, 44, 45]⟩,
  ⟨some 42, .move (.tmp 1), (some (38, false)), [39, 40, 41, 43]⟩,
  ⟨some 43, .move (.tmp 5), (some (38, false)), [39, 40, 41, 42]⟩,
  ⟨some 44, .indexAddr 23 (.tmp 42) (.tmp 43), (some (38, false)), [39, 40, 41]⟩,
  ⟨some 45, .load 3 (.tmp 44), (some (38, false)), [39, 40, 41]⟩,
  ⟨some 46, .call { callee := .value (.func 26), args := #[.tmp 41, .tmp 45], argTypes := #[23, 3] }, (some (38, false)), []⟩,
  ⟨some 47, .pick (.tmp 38) (.const (.bool true)) (.tmp 46), none, []⟩] [1, 2, 5, 21, 32, 33, 36, 37, 38, 46, 47]) (.seq (.cond (.tmp 47) (.seq (.reg [⟨some 4, .assign (.const (.int .i64 18)), none, []⟩] [4]) .ret) .skip) .skip)))) (.seq (.reg [⟨some 20, .move (.tmp 5), none, []⟩,
  ⟨some 21, .binOp .add 3 (.tmp 20) (.const (.int .i64 1)) 3, none, []⟩,
  ⟨some 5, .assign (.tmp 21), none, []⟩] [1, 2, 5, 21]) .skip))))) .skip)) (.seq (.reg [⟨some 4, .assign (.const (.int .i64 0)), none, []⟩] [4]) .ret))))))
theorem s14 : TextK Proofs.Tryd.prog 0 14 48 [ResultVar.tmp 4] c14 := .mk' Proofs.Tryd.f14 _ (by kernel_rfl) rfl rfl rfl (by kernel_rfl) rfl (by kernel_rfl)
def c50 : SC := (.seq (.reg [⟨some 2, .box 30 (.tmp 0), none, []⟩,
  ⟨some 4, .assign (.const (.string ⟨#[]⟩)), none, []⟩] [1, 2]) (.seq (.reg [⟨some 8, .load 30 (.tmp 2), none, []⟩,
  ⟨some 9, .move (.tmp 1), none, []⟩,
  ⟨some 10, .call { callee := .value (.func 25), args := #[.tmp 8, .tmp 9], argTypes := #[30, 3] }, none, []⟩,
  ⟨some 7, .move (.tmp 10), none, []⟩,
  ⟨some 11, .extract (.tmp 7) 0, none, []⟩,
  ⟨some 12, .extract (.tmp 7) 1, none, []⟩,
  ⟨some 5, .alloc 34, none, []⟩,
  ⟨none, .store 34 (.tmp 5) (.tmp 11), none, []⟩,
  ⟨some 6, .assign (.tmp 12), none, []⟩] [5]) (.seq (.reg [⟨some 13, .fieldAddr 34 (.tmp 5) 2, none, []⟩,
  ⟨some 14, .load 9 (.tmp 13), none, []⟩,
  ⟨some 4, .assign (.tmp 14), none, []⟩] [4, 5, 13, 14]) .ret)))
theorem s50 : TextK Proofs.Tryd.prog 0 50 15 [ResultVar.tmp 4] c50 := .mk' Proofs.Tryd.f50 _ (by kernel_rfl) rfl rfl rfl (by kernel_rfl) rfl (by kernel_rfl)
def c42 : SC := (.seq (.reg [⟨some 3, .box 30 (.tmp 0), none, []⟩,
  ⟨some 6, .assign (.const (.int .i64 0)), none, []⟩] [1, 2, 3, 26]) (.seq (.reg [⟨some 7, .assign (.const (.int .i64 0)), none, []⟩] [1, 2, 3, 7, 26]) (.seq (.reg [⟨some 8, .assign (.const (.int .i64 0)), none, []⟩] [1, 2, 3, 7, 8, 14, 26]) (.seq (.block 0 (.seq (.loop (.seq (.reg [⟨some 9, .move (.tmp 8), none, []⟩,
  ⟨some 10, .move (.tmp 1), none, []⟩,
  ⟨some 11, .call { callee := .builtin .len, args := #[.tmp 10], argTypes := #[23] }, none, []⟩,
  ⟨some 12, .binOp .lss 3 (.tmp 9) (.tmp 11) 3, none, []⟩] [1, 2, 3, 7, 8, 12, 14, 26]) (.seq (.cond (.tmp 12) .skip (.exit 0)) (.seq (.block 1 (.seq (.reg [⟨some 15, .load 30 (.tmp 3), none, [16, 17, 18, 19, 21, 22]⟩,
  ⟨some 16, .move (.tmp 1), none, [15, 17, 21, 22]⟩,
  ⟨some 17, .move (.tmp 8), none, [15, 16, 21, 22]⟩,
  ⟨some 18, .indexAddr 23 (.tmp 16) (.tmp 17), none, [15, 21, 22]⟩,
  ⟨some 19, .load 3 (.tmp 18), none, [15, 21, 22]⟩,
  ⟨some 20, .call { callee := .value (.func 50), args := #[.tmp 15, .tmp 19], argTypes := #[30, 3] }, none, [21, 22]⟩,
  ⟨some 21, .load 30 (.tmp 3), none, [15, 16, 17, 18, 19, 20, 22]⟩,
  ⟨some 22, .move (.tmp 2), none, [15, 16, 17, 18, 19, 20, 21]⟩,
  ⟨some 23, .call { callee := .value (.func 50), args := #[.tmp 21, .tmp 22], argTypes := #[30, 3] }, none, []⟩,
  ⟨some 24, .binOp .eql 9 (.tmp 20) (.tmp 23) 9, none, []⟩] [1, 2, 3, 7, 8, 14, 24, 26]) (.seq (.cond (.tmp 24) (.seq (.reg [⟨some 25, .move (.tmp 7), none, []⟩,
  ⟨some 26, .binOp .add 3 (.tmp 25) (.const (.int .i64 1)) 3, none, []⟩,
  ⟨some 7, .assign (.tmp 26), none, []⟩] [1, 2, 3, 7, 8, 14, 26]) .skip) .skip) .skip))) (.seq (.reg [⟨some 13, .move (.tmp 8), none, []⟩,
  ⟨some 14, .binOp .add 3 (.tmp 13) (.const (.int .i64 1)) 3, none, []⟩,
  ⟨some 8, .assign (.tmp 14), none, []⟩] [1, 2, 3, 7, 8, 14, 26]) .skip))))) .skip)) (.seq (.reg [⟨some 27, .move (.tmp 7), none, []⟩,
  ⟨some 6, .assign (.tmp 27), none, []⟩] [6, 7, 26, 27]) .ret)))))
theorem s42 : TextK Proofs.Tryd.prog 0 42 28 [ResultVar.tmp 6] c42 := .mk' Proofs.Tryd.f42 _ (by kernel_rfl) rfl rfl rfl (by kernel_rfl) rfl (by kernel_rfl)
theorem refRack_ok (m : Image) (id : Int) : ACall pg 50 [encM m, I id] (St (rackOf m id)) := by
  refine s50.call mo (by simp) fun hxs => ?_
  clear hxs
  unfold c50
  have hb := broker_ok m id
  repeat' first
      | (with_reducible first | refine thN ?_ | refine thR ?_ | refine thE ?_ | refine inN ?_ | refine inR ?_ | refine inH ?_ | refine fF ?_ | refine fS ?_ | refine fR ?_ | refine fQ ?_ | refine fC ?_ | refine fB ?_ | refine fL ?_ | refine fE ?_ | refine fT ?_ | refine awBlock ?_ | refine awExit ?_ | refine awRet ?_ | refine awSkip ?_ | refine inM (by decide) ?_)
      | ((with_reducible refine awReg fun K hok hK => ?_); clear hok; (try simp (maxSteps := 10000000) (disch := first | omega | simp) []); (repeat' first
          | (with_reducible refine hK _ (by simp) ?_)
          | ((with_reducible refine gdT (fun h => ?_) (fun h => ?_)) <;> (simp (maxSteps := 10000000) (disch := first | omega | simp) [h]; (try simp at h); (try (exfalso; omega))))
          | ((with_reducible refine gdF (fun h => ?_) (fun h => ?_)) <;> (simp (maxSteps := 10000000) (disch := first | omega | simp) [h]; (try simp at h); (try (exfalso; omega))))
          | ((with_reducible refine callS' fun K2 hK2 => ?_); (try simp (maxSteps := 10000000) (disch := first | omega | simp) []); (first | (refine hK2 _ _ (hb) rfl fun hk9 => ?_; clear hk9)); clear hK2 K2; (try simp (maxSteps := 10000000) (disch := first | omega | simp) []))
          | ((with_reducible refine callF' fun K2 hK2 => ?_); (try simp (maxSteps := 10000000) (disch := first | omega | simp) []); (first | refine hK2 _ _ _ (hb) fun _ => ?_); clear hK2 K2; (try simp (maxSteps := 10000000) (disch := first | omega | simp) []))
          | ((with_reducible refine sideS' fun K2 hK2 => ?_); (try simp (maxSteps := 10000000) (disch := first | omega | simp) []); (first | refine hK2 _ _ (hb) rfl ?_); clear hK2 K2; (try simp (maxSteps := 10000000) (disch := first | omega | simp) []))
          | ((with_reducible refine sideF' fun K2 hK2 => ?_); (try simp (maxSteps := 10000000) (disch := first | omega | simp) []); (first | refine hK2 _ _ _ (hb) (by simp) ?_); clear hK2 K2; (try simp (maxSteps := 10000000) (disch := first | omega | simp) []))
          | ((with_reducible refine callM' rfl fun K2 hK2 => ?_); (try simp (maxSteps := 10000000) (disch := first | omega | simp) []); (first | refine hK2 _ _ _ _ _ _ _ (hb) rfl fun _ _ => ?_); clear hK2 K2; (try simp (maxSteps := 10000000) (disch := first | omega | simp) []))
          | ((with_reducible refine callT' rfl fun K2 hK2 => ?_); (try simp (maxSteps := 10000000) (disch := first | omega | simp) []); (first | refine hK2 _ _ _ _ _ (hb) fun _ => ?_); clear hK2 K2; (try simp (maxSteps := 10000000) (disch := first | omega | simp) []))
          | ((with_reducible refine sideSt' fun K2 hK2 => ?_); (try simp (maxSteps := 10000000) (disch := first | omega | simp) []); refine hK2 _ ?_; clear hK2 K2; (try simp (maxSteps := 10000000) (disch := first | omega | simp) []))
          | ((with_reducible refine gdU ?_); (try simp (maxSteps := 10000000) (disch := first | omega | simp) []))
          | ((with_reducible refine sideQ' ?_ ?_ fun K2 hK2 => ?_); exact rfl; exact rfl; (try simp (maxSteps := 10000000) (disch := first | omega | simp) []); with_reducible refine hK2 _ _ ?_; clear hK2 K2; (try simp (maxSteps := 10000000) (disch := first | omega | simp) []))
          | ((with_reducible refine side' ?_ fun K2 hK2 => ?_); exact rfl; (try simp (maxSteps := 10000000) (disch := first | omega | simp) []); refine hK2 _ _ (by simp) ?_; clear hK2 K2; (try simp (maxSteps := 10000000) (disch := first | omega | simp) []))) <;> clear hK K)
      | ((with_reducible refine awCond fun A B hA hB => ?_); simp (maxSteps := 10000000) (disch := first | omega | simp) []; (first | refine ⟨fun h => hA ?_, fun h => hB ?_⟩ | refine hA ?_ | refine hB ?_) <;> (clear hA hB A B; (try (exfalso; omega))))
  (refine aEnR (aRes [] fun K hK => ?_); simp (maxSteps := 10000000) (disch := first | omega | simp) [rackOf]; refine hK _ ?_ (by simp); clear hK; first | done | (simp (maxSteps := 10000000) (disch := first | omega | simp) [rackOf, *]; done) | (simp (maxSteps := 10000000) (disch := first | omega | simp) [rackOf, *]; omega) | (simp_all [rackOf]; done) | (simp_all [rackOf]; omega))
theorem refMet_ok (m : Image) (l : List Int) (id : Int) (hl : l.length ≤ 1000) : ACall pg 42 [encM m, Li l, I id] (I (metR m l id)) := by
  refine s42.call mo (by simp) fun hxs => ?_
  clear hxs
  unfold c42
  have hid := refRack_ok m id
  repeat' first
      | (with_reducible first | refine thN ?_ | refine thR ?_ | refine thE ?_ | refine inN ?_ | refine inR ?_ | refine inH ?_ | refine fF ?_ | refine fS ?_ | refine fR ?_ | refine fQ ?_ | refine fC ?_ | refine fB ?_ | refine fL ?_ | refine fE ?_ | refine fT ?_ | refine awBlock ?_ | refine awExit ?_ | refine awRet ?_ | refine awSkip ?_ | refine inM (by decide) ?_)
      | ((with_reducible refine awReg fun K hok hK => ?_); clear hok; (try simp (maxSteps := 10000000) (disch := first | omega | simp) []); (repeat' first
          | (with_reducible refine hK _ (by simp) ?_)
          | ((with_reducible refine gdT (fun h => ?_) (fun h => ?_)) <;> (simp (maxSteps := 10000000) (disch := first | omega | simp) [h]; (try simp at h); (try (exfalso; omega))))
          | ((with_reducible refine gdF (fun h => ?_) (fun h => ?_)) <;> (simp (maxSteps := 10000000) (disch := first | omega | simp) [h]; (try simp at h); (try (exfalso; omega))))
          | ((with_reducible refine sideSt' fun K2 hK2 => ?_); (try simp (maxSteps := 10000000) (disch := first | omega | simp) []); refine hK2 _ ?_; clear hK2 K2; (try simp (maxSteps := 10000000) (disch := first | omega | simp) []))
          | ((with_reducible refine gdU ?_); (try simp (maxSteps := 10000000) (disch := first | omega | simp) []))
          | ((with_reducible refine sideQ' ?_ ?_ fun K2 hK2 => ?_); exact rfl; exact rfl; (try simp (maxSteps := 10000000) (disch := first | omega | simp) []); with_reducible refine hK2 _ _ ?_; clear hK2 K2; (try simp (maxSteps := 10000000) (disch := first | omega | simp) []))
          | ((with_reducible refine side' ?_ fun K2 hK2 => ?_); exact rfl; (try simp (maxSteps := 10000000) (disch := first | omega | simp) []); refine hK2 _ _ (by simp) ?_; clear hK2 K2; (try simp (maxSteps := 10000000) (disch := first | omega | simp) []))) <;> clear hK K)
      | ((with_reducible refine awCond fun A B hA hB => ?_); simp (maxSteps := 10000000) (disch := first | omega | simp) []; (first | refine ⟨fun h => hA ?_, fun h => hB ?_⟩ | refine hA ?_ | refine hB ?_) <;> (clear hA hB A B; (try (exfalso; omega))))
  refine awFor l.length (fun i (n : Nat) => n + (l.drop i).countP (fun x => eqS (rackOf m x) (rackOf m id)) = metR m l id ∧ n ≤ i)
    (fun i n => [(8, .p (I i)), (7, .p (I n)), (3, .p (.own (encM m).cells)), (2, .p (I id)), (1, .p (Li l))]) 0 (Wk.ofA (by simp)) ⟨by simp [metR], by omega⟩ fun i n hi hs => ?_
  obtain ⟨hs, hn⟩ := hs
  by_cases hlt : i < l.length
  · rw [drop_cons hlt, List.countP_cons] at hs
    have hx := refRack_ok m l[i]
    cases hq : ((rackOf m l[i]).toList == (rackOf m id).toList) with
    | true =>
      have e : eqS (rackOf m l[i]) (rackOf m id) = true := hq
      rw [e] at hs
      repeat' first
          | (with_reducible first | refine thN ?_ | refine thR ?_ | refine thE ?_ | refine inN ?_ | refine inR ?_ | refine inH ?_ | refine fF ?_ | refine fS ?_ | refine fR ?_ | refine fQ ?_ | refine fC ?_ | refine fB ?_ | refine fL ?_ | refine fE ?_ | refine fT ?_ | refine awBlock ?_ | refine awExit ?_ | refine awRet ?_ | refine awSkip ?_ | refine inM (by decide) ?_)
          | ((with_reducible refine awReg fun K hok hK => ?_); clear hok; (try simp (maxSteps := 10000000) (disch := first | omega | simp) [hlt, hq]); (repeat' first
              | (with_reducible refine hK _ (by simp) ?_)
              | ((with_reducible refine gdT (fun h => ?_) (fun h => ?_)) <;> (simp (maxSteps := 10000000) (disch := first | omega | simp) [h, hlt, hq]; (try simp at h); (try (exfalso; omega))))
              | ((with_reducible refine gdF (fun h => ?_) (fun h => ?_)) <;> (simp (maxSteps := 10000000) (disch := first | omega | simp) [h, hlt, hq]; (try simp at h); (try (exfalso; omega))))
              | ((with_reducible refine callS' fun K2 hK2 => ?_); (try simp (maxSteps := 10000000) (disch := first | omega | simp) [hlt, hq]); (first | (refine hK2 _ _ (hid) rfl fun hk9 => ?_; clear hk9) | (refine hK2 _ _ (hx) rfl fun hk9 => ?_; clear hk9)); clear hK2 K2; (try simp (maxSteps := 10000000) (disch := first | omega | simp) [hlt, hq]))
              | ((with_reducible refine callF' fun K2 hK2 => ?_); (try simp (maxSteps := 10000000) (disch := first | omega | simp) [hlt, hq]); (first | refine hK2 _ _ _ (hid) fun _ => ?_ | refine hK2 _ _ _ (hx) fun _ => ?_); clear hK2 K2; (try simp (maxSteps := 10000000) (disch := first | omega | simp) [hlt, hq]))
              | ((with_reducible refine sideS' fun K2 hK2 => ?_); (try simp (maxSteps := 10000000) (disch := first | omega | simp) [hlt, hq]); (first | refine hK2 _ _ (hid) rfl ?_ | refine hK2 _ _ (hx) rfl ?_); clear hK2 K2; (try simp (maxSteps := 10000000) (disch := first | omega | simp) [hlt, hq]))
              | ((with_reducible refine sideF' fun K2 hK2 => ?_); (try simp (maxSteps := 10000000) (disch := first | omega | simp) [hlt, hq]); (first | refine hK2 _ _ _ (hid) (by simp) ?_ | refine hK2 _ _ _ (hx) (by simp) ?_); clear hK2 K2; (try simp (maxSteps := 10000000) (disch := first | omega | simp) [hlt, hq]))
              | ((with_reducible refine callM' rfl fun K2 hK2 => ?_); (try simp (maxSteps := 10000000) (disch := first | omega | simp) [hlt, hq]); (first | refine hK2 _ _ _ _ _ _ _ (hid) rfl fun _ _ => ?_ | refine hK2 _ _ _ _ _ _ _ (hx) rfl fun _ _ => ?_); clear hK2 K2; (try simp (maxSteps := 10000000) (disch := first | omega | simp) [hlt, hq]))
              | ((with_reducible refine callT' rfl fun K2 hK2 => ?_); (try simp (maxSteps := 10000000) (disch := first | omega | simp) [hlt, hq]); (first | refine hK2 _ _ _ _ _ (hid) fun _ => ?_ | refine hK2 _ _ _ _ _ (hx) fun _ => ?_); clear hK2 K2; (try simp (maxSteps := 10000000) (disch := first | omega | simp) [hlt, hq]))
              | ((with_reducible refine sideSt' fun K2 hK2 => ?_); (try simp (maxSteps := 10000000) (disch := first | omega | simp) [hlt, hq]); refine hK2 _ ?_; clear hK2 K2; (try simp (maxSteps := 10000000) (disch := first | omega | simp) [hlt, hq]))
              | ((with_reducible refine gdU ?_); (try simp (maxSteps := 10000000) (disch := first | omega | simp) [hlt, hq]))
              | ((with_reducible refine sideQ' ?_ ?_ fun K2 hK2 => ?_); exact rfl; exact rfl; (try simp (maxSteps := 10000000) (disch := first | omega | simp) [hlt, hq]); with_reducible refine hK2 _ _ ?_; clear hK2 K2; (try simp (maxSteps := 10000000) (disch := first | omega | simp) [hlt, hq]))
              | ((with_reducible refine side' ?_ fun K2 hK2 => ?_); exact rfl; (try simp (maxSteps := 10000000) (disch := first | omega | simp) [hlt, hq]); refine hK2 _ _ (by simp) ?_; clear hK2 K2; (try simp (maxSteps := 10000000) (disch := first | omega | simp) [hlt, hq]))) <;> clear hK K)
          | ((with_reducible refine awCond fun A B hA hB => ?_); simp (maxSteps := 10000000) (disch := first | omega | simp) [hlt, hq]; (first | refine ⟨fun h => hA ?_, fun h => hB ?_⟩ | refine hA ?_ | refine hB ?_) <;> (clear hA hB A B; (try (exfalso; omega))))
      (refine ⟨?_, n + 1, ?_, Wk.ofA ?_⟩; assumption; rotate_left; focus (simp []; done))
      exact ⟨by simp at hs; omega, by omega⟩
    | false =>
      have e : eqS (rackOf m l[i]) (rackOf m id) = false := hq
      rw [e] at hs
      repeat' first
          | (with_reducible first | refine thN ?_ | refine thR ?_ | refine thE ?_ | refine inN ?_ | refine inR ?_ | refine inH ?_ | refine fF ?_ | refine fS ?_ | refine fR ?_ | refine fQ ?_ | refine fC ?_ | refine fB ?_ | refine fL ?_ | refine fE ?_ | refine fT ?_ | refine awBlock ?_ | refine awExit ?_ | refine awRet ?_ | refine awSkip ?_ | refine inM (by decide) ?_)
          | ((with_reducible refine awReg fun K hok hK => ?_); clear hok; (try simp (maxSteps := 10000000) (disch := first | omega | simp) [hlt, hq]); (repeat' first
              | (with_reducible refine hK _ (by simp) ?_)
              | ((with_reducible refine gdT (fun h => ?_) (fun h => ?_)) <;> (simp (maxSteps := 10000000) (disch := first | omega | simp) [h, hlt, hq]; (try simp at h); (try (exfalso; omega))))
              | ((with_reducible refine gdF (fun h => ?_) (fun h => ?_)) <;> (simp (maxSteps := 10000000) (disch := first | omega | simp) [h, hlt, hq]; (try simp at h); (try (exfalso; omega))))
              | ((with_reducible refine callS' fun K2 hK2 => ?_); (try simp (maxSteps := 10000000) (disch := first | omega | simp) [hlt, hq]); (first | (refine hK2 _ _ (hid) rfl fun hk9 => ?_; clear hk9) | (refine hK2 _ _ (hx) rfl fun hk9 => ?_; clear hk9)); clear hK2 K2; (try simp (maxSteps := 10000000) (disch := first | omega | simp) [hlt, hq]))
              | ((with_reducible refine callF' fun K2 hK2 => ?_); (try simp (maxSteps := 10000000) (disch := first | omega | simp) [hlt, hq]); (first | refine hK2 _ _ _ (hid) fun _ => ?_ | refine hK2 _ _ _ (hx) fun _ => ?_); clear hK2 K2; (try simp (maxSteps := 10000000) (disch := first | omega | simp) [hlt, hq]))
              | ((with_reducible refine sideS' fun K2 hK2 => ?_); (try simp (maxSteps := 10000000) (disch := first | omega | simp) [hlt, hq]); (first | refine hK2 _ _ (hid) rfl ?_ | refine hK2 _ _ (hx) rfl ?_); clear hK2 K2; (try simp (maxSteps := 10000000) (disch := first | omega | simp) [hlt, hq]))
              | ((with_reducible refine sideF' fun K2 hK2 => ?_); (try simp (maxSteps := 10000000) (disch := first | omega | simp) [hlt, hq]); (first | refine hK2 _ _ _ (hid) (by simp) ?_ | refine hK2 _ _ _ (hx) (by simp) ?_); clear hK2 K2; (try simp (maxSteps := 10000000) (disch := first | omega | simp) [hlt, hq]))
              | ((with_reducible refine callM' rfl fun K2 hK2 => ?_); (try simp (maxSteps := 10000000) (disch := first | omega | simp) [hlt, hq]); (first | refine hK2 _ _ _ _ _ _ _ (hid) rfl fun _ _ => ?_ | refine hK2 _ _ _ _ _ _ _ (hx) rfl fun _ _ => ?_); clear hK2 K2; (try simp (maxSteps := 10000000) (disch := first | omega | simp) [hlt, hq]))
              | ((with_reducible refine callT' rfl fun K2 hK2 => ?_); (try simp (maxSteps := 10000000) (disch := first | omega | simp) [hlt, hq]); (first | refine hK2 _ _ _ _ _ (hid) fun _ => ?_ | refine hK2 _ _ _ _ _ (hx) fun _ => ?_); clear hK2 K2; (try simp (maxSteps := 10000000) (disch := first | omega | simp) [hlt, hq]))
              | ((with_reducible refine sideSt' fun K2 hK2 => ?_); (try simp (maxSteps := 10000000) (disch := first | omega | simp) [hlt, hq]); refine hK2 _ ?_; clear hK2 K2; (try simp (maxSteps := 10000000) (disch := first | omega | simp) [hlt, hq]))
              | ((with_reducible refine gdU ?_); (try simp (maxSteps := 10000000) (disch := first | omega | simp) [hlt, hq]))
              | ((with_reducible refine sideQ' ?_ ?_ fun K2 hK2 => ?_); exact rfl; exact rfl; (try simp (maxSteps := 10000000) (disch := first | omega | simp) [hlt, hq]); with_reducible refine hK2 _ _ ?_; clear hK2 K2; (try simp (maxSteps := 10000000) (disch := first | omega | simp) [hlt, hq]))
              | ((with_reducible refine side' ?_ fun K2 hK2 => ?_); exact rfl; (try simp (maxSteps := 10000000) (disch := first | omega | simp) [hlt, hq]); refine hK2 _ _ (by simp) ?_; clear hK2 K2; (try simp (maxSteps := 10000000) (disch := first | omega | simp) [hlt, hq]))) <;> clear hK K)
          | ((with_reducible refine awCond fun A B hA hB => ?_); simp (maxSteps := 10000000) (disch := first | omega | simp) [hlt, hq]; (first | refine ⟨fun h => hA ?_, fun h => hB ?_⟩ | refine hA ?_ | refine hB ?_) <;> (clear hA hB A B; (try (exfalso; omega))))
      (refine ⟨?_, n, ?_, Wk.ofA ?_⟩; assumption; rotate_left; focus (simp []; done))
      exact ⟨by simpa using hs, by omega⟩
  · have e : metR m l id = n := by rw [drop_nil (by omega)] at hs; simpa using hs.symm
    clear hs
    repeat' first
        | (with_reducible first | refine thN ?_ | refine thR ?_ | refine thE ?_ | refine inN ?_ | refine inR ?_ | refine inH ?_ | refine fF ?_ | refine fS ?_ | refine fR ?_ | refine fQ ?_ | refine fC ?_ | refine fB ?_ | refine fL ?_ | refine fE ?_ | refine fT ?_ | refine awBlock ?_ | refine awExit ?_ | refine awRet ?_ | refine awSkip ?_ | refine inM (by decide) ?_)
        | ((with_reducible refine awReg fun K hok hK => ?_); clear hok; (try simp (maxSteps := 10000000) (disch := first | omega | simp) [hlt]); (repeat' first
            | (with_reducible refine hK _ (by simp) ?_)
            | ((with_reducible refine gdT (fun h => ?_) (fun h => ?_)) <;> (simp (maxSteps := 10000000) (disch := first | omega | simp) [h, hlt]; (try simp at h); (try (exfalso; omega))))
            | ((with_reducible refine gdF (fun h => ?_) (fun h => ?_)) <;> (simp (maxSteps := 10000000) (disch := first | omega | simp) [h, hlt]; (try simp at h); (try (exfalso; omega))))
            | ((with_reducible refine sideSt' fun K2 hK2 => ?_); (try simp (maxSteps := 10000000) (disch := first | omega | simp) [hlt]); refine hK2 _ ?_; clear hK2 K2; (try simp (maxSteps := 10000000) (disch := first | omega | simp) [hlt]))
            | ((with_reducible refine gdU ?_); (try simp (maxSteps := 10000000) (disch := first | omega | simp) [hlt]))
            | ((with_reducible refine sideQ' ?_ ?_ fun K2 hK2 => ?_); exact rfl; exact rfl; (try simp (maxSteps := 10000000) (disch := first | omega | simp) [hlt]); with_reducible refine hK2 _ _ ?_; clear hK2 K2; (try simp (maxSteps := 10000000) (disch := first | omega | simp) [hlt]))
            | ((with_reducible refine side' ?_ fun K2 hK2 => ?_); exact rfl; (try simp (maxSteps := 10000000) (disch := first | omega | simp) [hlt]); refine hK2 _ _ (by simp) ?_; clear hK2 K2; (try simp (maxSteps := 10000000) (disch := first | omega | simp) [hlt]))) <;> clear hK K)
        | ((with_reducible refine awCond fun A B hA hB => ?_); simp (maxSteps := 10000000) (disch := first | omega | simp) [hlt]; (first | refine ⟨fun h => hA ?_, fun h => hB ?_⟩ | refine hA ?_ | refine hB ?_) <;> (clear hA hB A B; (try (exfalso; omega))))
    (refine aEnR (aRes [] fun K hK => ?_); simp (maxSteps := 10000000) (disch := first | omega | simp) [e]; refine hK _ ?_ (by simp); clear hK; first | done | (simp (maxSteps := 10000000) (disch := first | omega | simp) [e, *]; done) | (simp (maxSteps := 10000000) (disch := first | omega | simp) [e, *]; omega) | (simp_all [e]; done) | (simp_all [e]; omega))
theorem refCheck_ok (m : Image) (ids : List Int) (hl : ids.length ≤ 1000) : ACall pg 14 [encM m, Li ids] (I (refCk m ids)) := by
  refine s14.call mo (by simp) fun hxs => ?_
  clear hxs
  unfold c14
  by_cases h1 : ids.length < 1
  · have e : refCk m ids = 18 := by unfold refCk; rw [if_pos (.inl h1)]
    have h2 : (ids.length : Int) < 1 := by omega
    rw [e]
    clear h1
    repeat' first
        | (with_reducible first | refine thN ?_ | refine thR ?_ | refine thE ?_ | refine inN ?_ | refine inR ?_ | refine inH ?_ | refine fF ?_ | refine fS ?_ | refine fR ?_ | refine fQ ?_ | refine fC ?_ | refine fB ?_ | refine fL ?_ | refine fE ?_ | refine fT ?_ | refine awBlock ?_ | refine awExit ?_ | refine awRet ?_ | refine awSkip ?_ | refine inM (by decide) ?_)
        | ((with_reducible refine awReg fun K hok hK => ?_); clear hok; (try simp (maxSteps := 10000000) (disch := first | omega | simp) [h2]); (repeat' first
            | (with_reducible refine hK _ (by simp) ?_)
            | ((with_reducible refine gdT (fun h => ?_) (fun h => ?_)) <;> (simp (maxSteps := 10000000) (disch := first | omega | simp) [h, h2]; (try simp at h); (try (exfalso; omega))))
            | ((with_reducible refine gdF (fun h => ?_) (fun h => ?_)) <;> (simp (maxSteps := 10000000) (disch := first | omega | simp) [h, h2]; (try simp at h); (try (exfalso; omega))))
            | ((with_reducible refine sideSt' fun K2 hK2 => ?_); (try simp (maxSteps := 10000000) (disch := first | omega | simp) [h2]); refine hK2 _ ?_; clear hK2 K2; (try simp (maxSteps := 10000000) (disch := first | omega | simp) [h2]))
            | ((with_reducible refine gdU ?_); (try simp (maxSteps := 10000000) (disch := first | omega | simp) [h2]))
            | ((with_reducible refine sideQ' ?_ ?_ fun K2 hK2 => ?_); exact rfl; exact rfl; (try simp (maxSteps := 10000000) (disch := first | omega | simp) [h2]); with_reducible refine hK2 _ _ ?_; clear hK2 K2; (try simp (maxSteps := 10000000) (disch := first | omega | simp) [h2]))
            | ((with_reducible refine side' ?_ fun K2 hK2 => ?_); exact rfl; (try simp (maxSteps := 10000000) (disch := first | omega | simp) [h2]); refine hK2 _ _ (by simp) ?_; clear hK2 K2; (try simp (maxSteps := 10000000) (disch := first | omega | simp) [h2]))) <;> clear hK K)
        | ((with_reducible refine awCond fun A B hA hB => ?_); simp (maxSteps := 10000000) (disch := first | omega | simp) [h2]; (first | refine ⟨fun h => hA ?_, fun h => hB ?_⟩ | refine hA ?_ | refine hB ?_) <;> (clear hA hB A B; (try (exfalso; omega))))
    all_goals (refine aEnR (aRes [] fun K hK => ?_); simp (maxSteps := 10000000) (disch := first | omega | simp) []; refine hK _ ?_ (by simp); clear hK; first | done | (simp (maxSteps := 10000000) (disch := first | omega | simp) [*]; done) | (simp (maxSteps := 10000000) (disch := first | omega | simp) [*]; omega) | (simp_all []; done) | (simp_all []; omega))
  · by_cases h7 : 7 < ids.length
    · have e : refCk m ids = 18 := by unfold refCk; rw [if_pos (.inr h7)]
      have h2 : ¬ (ids.length : Int) < 1 := by omega
      have h3 : 7 < (ids.length : Int) := by omega
      rw [e]
      clear h1 h7
      repeat' first
          | (with_reducible first | refine thN ?_ | refine thR ?_ | refine thE ?_ | refine inN ?_ | refine inR ?_ | refine inH ?_ | refine fF ?_ | refine fS ?_ | refine fR ?_ | refine fQ ?_ | refine fC ?_ | refine fB ?_ | refine fL ?_ | refine fE ?_ | refine fT ?_ | refine awBlock ?_ | refine awExit ?_ | refine awRet ?_ | refine awSkip ?_ | refine inM (by decide) ?_)
          | ((with_reducible refine awReg fun K hok hK => ?_); clear hok; (try simp (maxSteps := 10000000) (disch := first | omega | simp) [h2, h3]); (repeat' first
              | (with_reducible refine hK _ (by simp) ?_)
              | ((with_reducible refine gdT (fun h => ?_) (fun h => ?_)) <;> (simp (maxSteps := 10000000) (disch := first | omega | simp) [h, h2, h3]; (try simp at h); (try (exfalso; omega))))
              | ((with_reducible refine gdF (fun h => ?_) (fun h => ?_)) <;> (simp (maxSteps := 10000000) (disch := first | omega | simp) [h, h2, h3]; (try simp at h); (try (exfalso; omega))))
              | ((with_reducible refine sideSt' fun K2 hK2 => ?_); (try simp (maxSteps := 10000000) (disch := first | omega | simp) [h2, h3]); refine hK2 _ ?_; clear hK2 K2; (try simp (maxSteps := 10000000) (disch := first | omega | simp) [h2, h3]))
              | ((with_reducible refine gdU ?_); (try simp (maxSteps := 10000000) (disch := first | omega | simp) [h2, h3]))
              | ((with_reducible refine sideQ' ?_ ?_ fun K2 hK2 => ?_); exact rfl; exact rfl; (try simp (maxSteps := 10000000) (disch := first | omega | simp) [h2, h3]); with_reducible refine hK2 _ _ ?_; clear hK2 K2; (try simp (maxSteps := 10000000) (disch := first | omega | simp) [h2, h3]))
              | ((with_reducible refine side' ?_ fun K2 hK2 => ?_); exact rfl; (try simp (maxSteps := 10000000) (disch := first | omega | simp) [h2, h3]); refine hK2 _ _ (by simp) ?_; clear hK2 K2; (try simp (maxSteps := 10000000) (disch := first | omega | simp) [h2, h3]))) <;> clear hK K)
          | ((with_reducible refine awCond fun A B hA hB => ?_); simp (maxSteps := 10000000) (disch := first | omega | simp) [h2, h3]; (first | refine ⟨fun h => hA ?_, fun h => hB ?_⟩ | refine hA ?_ | refine hB ?_) <;> (clear hA hB A B; (try (exfalso; omega))))
      all_goals (refine aEnR (aRes [] fun K hK => ?_); simp (maxSteps := 10000000) (disch := first | omega | simp) []; refine hK _ ?_ (by simp); clear hK; first | done | (simp (maxSteps := 10000000) (disch := first | omega | simp) [*]; done) | (simp (maxSteps := 10000000) (disch := first | omega | simp) [*]; omega) | (simp_all []; done) | (simp_all []; omega))
    · have h2 : ¬ (ids.length : Int) < 1 := by omega
      have h3 : ¬ 7 < (ids.length : Int) := by omega
      have e0 : refCk m ids = if (List.range ids.length).any (refBad m ids) then 18 else 0 := by unfold refCk; rw [if_neg (by omega)]
      repeat' first
          | (with_reducible first | refine thN ?_ | refine thR ?_ | refine thE ?_ | refine inN ?_ | refine inR ?_ | refine inH ?_ | refine fF ?_ | refine fS ?_ | refine fR ?_ | refine fQ ?_ | refine fC ?_ | refine fB ?_ | refine fL ?_ | refine fE ?_ | refine fT ?_ | refine awBlock ?_ | refine awExit ?_ | refine awRet ?_ | refine awSkip ?_ | refine inM (by decide) ?_)
          | ((with_reducible refine awReg fun K hok hK => ?_); clear hok; (try simp (maxSteps := 10000000) (disch := first | omega | simp) [h2, h3]); (repeat' first
              | (with_reducible refine hK _ (by simp) ?_)
              | ((with_reducible refine gdT (fun h => ?_) (fun h => ?_)) <;> (simp (maxSteps := 10000000) (disch := first | omega | simp) [h, h2, h3]; (try simp at h); (try (exfalso; omega))))
              | ((with_reducible refine gdF (fun h => ?_) (fun h => ?_)) <;> (simp (maxSteps := 10000000) (disch := first | omega | simp) [h, h2, h3]; (try simp at h); (try (exfalso; omega))))
              | ((with_reducible refine sideSt' fun K2 hK2 => ?_); (try simp (maxSteps := 10000000) (disch := first | omega | simp) [h2, h3]); refine hK2 _ ?_; clear hK2 K2; (try simp (maxSteps := 10000000) (disch := first | omega | simp) [h2, h3]))
              | ((with_reducible refine gdU ?_); (try simp (maxSteps := 10000000) (disch := first | omega | simp) [h2, h3]))
              | ((with_reducible refine sideQ' ?_ ?_ fun K2 hK2 => ?_); exact rfl; exact rfl; (try simp (maxSteps := 10000000) (disch := first | omega | simp) [h2, h3]); with_reducible refine hK2 _ _ ?_; clear hK2 K2; (try simp (maxSteps := 10000000) (disch := first | omega | simp) [h2, h3]))
              | ((with_reducible refine side' ?_ fun K2 hK2 => ?_); exact rfl; (try simp (maxSteps := 10000000) (disch := first | omega | simp) [h2, h3]); refine hK2 _ _ (by simp) ?_; clear hK2 K2; (try simp (maxSteps := 10000000) (disch := first | omega | simp) [h2, h3]))) <;> clear hK K)
          | ((with_reducible refine awCond fun A B hA hB => ?_); simp (maxSteps := 10000000) (disch := first | omega | simp) [h2, h3]; (first | refine ⟨fun h => hA ?_, fun h => hB ?_⟩ | refine hA ?_ | refine hB ?_) <;> (clear hA hB A B; (try (exfalso; omega))))
      refine awFor ids.length (fun i (_ : Unit) => (List.range ids.length).any (refBad m ids) = ((List.range ids.length).drop i).any (refBad m ids))
        (fun i _ => [(5, .p (I i)), (2, .p (.own (encM m).cells)), (1, .p (Li ids))]) () (Wk.ofA (by simp)) (by simp) fun i _ hi hs => ?_
      by_cases hlt : i < ids.length
      · rw [drop_cons (show i < (List.range ids.length).length by simpa using hlt), List.any_cons] at hs
        simp only [List.getElem_range] at hs
        have hgi : ids.getD i 0 = ids[i] := by rw [List.getD_eq_getElem?_getD, List.getElem?_eq_getElem hlt]; rfl
        have hb := broker_ok m ids[i]
        have hr := refReady_ok ((m.broker ids[i]).getD zB)
        have hc := has_ok (ids.take i) ids[i]
        have e1 : refBad m ids i = (!(m.broker ids[i]).isSome || !readyB ((m.broker ids[i]).getD zB) || (ids.take i).contains ids[i]) := by unfold refBad; rw [hgi]
        rw [e1] at hs
        have e2 : Li (ids.take i) = .sl ((ids.map I).take i) := by simp [List.map_take]
        rw [e2] at hc
        cases q1 : (m.broker ids[i]).isSome with
        | false =>
          rw [q1] at hs hb
          have e : refCk m ids = 18 := by rw [e0, hs]; simp
          rw [e]
          clear hs e0
          repeat' first
              | (with_reducible first | refine thN ?_ | refine thR ?_ | refine thE ?_ | refine inN ?_ | refine inR ?_ | refine inH ?_ | refine fF ?_ | refine fS ?_ | refine fR ?_ | refine fQ ?_ | refine fC ?_ | refine fB ?_ | refine fL ?_ | refine fE ?_ | refine fT ?_ | refine awBlock ?_ | refine awExit ?_ | refine awRet ?_ | refine awSkip ?_ | refine inM (by decide) ?_)
              | ((with_reducible refine awReg fun K hok hK => ?_); clear hok; (try simp (maxSteps := 10000000) (disch := first | omega | simp) [hlt, q1]); (repeat' first
                  | (with_reducible refine hK _ (by simp) ?_)
                  | ((with_reducible refine gdT (fun h => ?_) (fun h => ?_)) <;> (simp (maxSteps := 10000000) (disch := first | omega | simp) [h, hlt, q1]; (try simp at h); (try (exfalso; omega))))
                  | ((with_reducible refine gdF (fun h => ?_) (fun h => ?_)) <;> (simp (maxSteps := 10000000) (disch := first | omega | simp) [h, hlt, q1]; (try simp at h); (try (exfalso; omega))))
                  | ((with_reducible refine callS' fun K2 hK2 => ?_); (try simp (maxSteps := 10000000) (disch := first | omega | simp) [hlt, q1]); (first | (refine hK2 _ _ (hb) rfl fun hk9 => ?_; clear hk9) | (refine hK2 _ _ (hr) rfl fun hk9 => ?_; clear hk9) | (refine hK2 _ _ (hc) rfl fun hk9 => ?_; clear hk9)); clear hK2 K2; (try simp (maxSteps := 10000000) (disch := first | omega | simp) [hlt, q1]))
                  | ((with_reducible refine callF' fun K2 hK2 => ?_); (try simp (maxSteps := 10000000) (disch := first | omega | simp) [hlt, q1]); (first | refine hK2 _ _ _ (hb) fun _ => ?_ | refine hK2 _ _ _ (hr) fun _ => ?_ | refine hK2 _ _ _ (hc) fun _ => ?_); clear hK2 K2; (try simp (maxSteps := 10000000) (disch := first | omega | simp) [hlt, q1]))
                  | ((with_reducible refine sideS' fun K2 hK2 => ?_); (try simp (maxSteps := 10000000) (disch := first | omega | simp) [hlt, q1]); (first | refine hK2 _ _ (hb) rfl ?_ | refine hK2 _ _ (hr) rfl ?_ | refine hK2 _ _ (hc) rfl ?_); clear hK2 K2; (try simp (maxSteps := 10000000) (disch := first | omega | simp) [hlt, q1]))
                  | ((with_reducible refine sideF' fun K2 hK2 => ?_); (try simp (maxSteps := 10000000) (disch := first | omega | simp) [hlt, q1]); (first | refine hK2 _ _ _ (hb) (by simp) ?_ | refine hK2 _ _ _ (hr) (by simp) ?_ | refine hK2 _ _ _ (hc) (by simp) ?_); clear hK2 K2; (try simp (maxSteps := 10000000) (disch := first | omega | simp) [hlt, q1]))
                  | ((with_reducible refine callM' rfl fun K2 hK2 => ?_); (try simp (maxSteps := 10000000) (disch := first | omega | simp) [hlt, q1]); (first | refine hK2 _ _ _ _ _ _ _ (hb) rfl fun _ _ => ?_ | refine hK2 _ _ _ _ _ _ _ (hr) rfl fun _ _ => ?_ | refine hK2 _ _ _ _ _ _ _ (hc) rfl fun _ _ => ?_); clear hK2 K2; (try simp (maxSteps := 10000000) (disch := first | omega | simp) [hlt, q1]))
                  | ((with_reducible refine callT' rfl fun K2 hK2 => ?_); (try simp (maxSteps := 10000000) (disch := first | omega | simp) [hlt, q1]); (first | refine hK2 _ _ _ _ _ (hb) fun _ => ?_ | refine hK2 _ _ _ _ _ (hr) fun _ => ?_ | refine hK2 _ _ _ _ _ (hc) fun _ => ?_); clear hK2 K2; (try simp (maxSteps := 10000000) (disch := first | omega | simp) [hlt, q1]))
                  | ((with_reducible refine sideSt' fun K2 hK2 => ?_); (try simp (maxSteps := 10000000) (disch := first | omega | simp) [hlt, q1]); refine hK2 _ ?_; clear hK2 K2; (try simp (maxSteps := 10000000) (disch := first | omega | simp) [hlt, q1]))
                  | ((with_reducible refine gdU ?_); (try simp (maxSteps := 10000000) (disch := first | omega | simp) [hlt, q1]))
                  | ((with_reducible refine sideQ' ?_ ?_ fun K2 hK2 => ?_); exact rfl; exact rfl; (try simp (maxSteps := 10000000) (disch := first | omega | simp) [hlt, q1]); with_reducible refine hK2 _ _ ?_; clear hK2 K2; (try simp (maxSteps := 10000000) (disch := first | omega | simp) [hlt, q1]))
                  | ((with_reducible refine side' ?_ fun K2 hK2 => ?_); exact rfl; (try simp (maxSteps := 10000000) (disch := first | omega | simp) [hlt, q1]); refine hK2 _ _ (by simp) ?_; clear hK2 K2; (try simp (maxSteps := 10000000) (disch := first | omega | simp) [hlt, q1]))) <;> clear hK K)
              | ((with_reducible refine awCond fun A B hA hB => ?_); simp (maxSteps := 10000000) (disch := first | omega | simp) [hlt, q1]; (first | refine ⟨fun h => hA ?_, fun h => hB ?_⟩ | refine hA ?_ | refine hB ?_) <;> (clear hA hB A B; (try (exfalso; omega))))
          (refine aEnR (aRes [] fun K hK => ?_); simp (maxSteps := 10000000) (disch := first | omega | simp) []; refine hK _ ?_ (by simp); clear hK; first | done | (simp (maxSteps := 10000000) (disch := first | omega | simp) [*]; done) | (simp (maxSteps := 10000000) (disch := first | omega | simp) [*]; omega) | (simp_all []; done) | (simp_all []; omega))
        | true =>
          cases q2 : readyB ((m.broker ids[i]).getD zB) with
          | false =>
            rw [q1, q2] at hs
            rw [q1] at hb
            rw [q2] at hr
            have e : refCk m ids = 18 := by rw [e0, hs]; simp
            rw [e]
            clear hs e0
            repeat' first
                | (with_reducible first | refine thN ?_ | refine thR ?_ | refine thE ?_ | refine inN ?_ | refine inR ?_ | refine inH ?_ | refine fF ?_ | refine fS ?_ | refine fR ?_ | refine fQ ?_ | refine fC ?_ | refine fB ?_ | refine fL ?_ | refine fE ?_ | refine fT ?_ | refine awBlock ?_ | refine awExit ?_ | refine awRet ?_ | refine awSkip ?_ | refine inM (by decide) ?_)
                | ((with_reducible refine awReg fun K hok hK => ?_); clear hok; (try simp (maxSteps := 10000000) (disch := first | omega | simp) [hlt, q1, q2]); (repeat' first
                    | (with_reducible refine hK _ (by simp) ?_)
                    | ((with_reducible refine gdT (fun h => ?_) (fun h => ?_)) <;> (simp (maxSteps := 10000000) (disch := first | omega | simp) [h, hlt, q1, q2]; (try simp at h); (try (exfalso; omega))))
                    | ((with_reducible refine gdF (fun h => ?_) (fun h => ?_)) <;> (simp (maxSteps := 10000000) (disch := first | omega | simp) [h, hlt, q1, q2]; (try simp at h); (try (exfalso; omega))))
                    | ((with_reducible refine callS' fun K2 hK2 => ?_); (try simp (maxSteps := 10000000) (disch := first | omega | simp) [hlt, q1, q2]); (first | (refine hK2 _ _ (hb) rfl fun hk9 => ?_; clear hk9) | (refine hK2 _ _ (hr) rfl fun hk9 => ?_; clear hk9) | (refine hK2 _ _ (hc) rfl fun hk9 => ?_; clear hk9)); clear hK2 K2; (try simp (maxSteps := 10000000) (disch := first | omega | simp) [hlt, q1, q2]))
                    | ((with_reducible refine callF' fun K2 hK2 => ?_); (try simp (maxSteps := 10000000) (disch := first | omega | simp) [hlt, q1, q2]); (first | refine hK2 _ _ _ (hb) fun _ => ?_ | refine hK2 _ _ _ (hr) fun _ => ?_ | refine hK2 _ _ _ (hc) fun _ => ?_); clear hK2 K2; (try simp (maxSteps := 10000000) (disch := first | omega | simp) [hlt, q1, q2]))
                    | ((with_reducible refine sideS' fun K2 hK2 => ?_); (try simp (maxSteps := 10000000) (disch := first | omega | simp) [hlt, q1, q2]); (first | refine hK2 _ _ (hb) rfl ?_ | refine hK2 _ _ (hr) rfl ?_ | refine hK2 _ _ (hc) rfl ?_); clear hK2 K2; (try simp (maxSteps := 10000000) (disch := first | omega | simp) [hlt, q1, q2]))
                    | ((with_reducible refine sideF' fun K2 hK2 => ?_); (try simp (maxSteps := 10000000) (disch := first | omega | simp) [hlt, q1, q2]); (first | refine hK2 _ _ _ (hb) (by simp) ?_ | refine hK2 _ _ _ (hr) (by simp) ?_ | refine hK2 _ _ _ (hc) (by simp) ?_); clear hK2 K2; (try simp (maxSteps := 10000000) (disch := first | omega | simp) [hlt, q1, q2]))
                    | ((with_reducible refine callM' rfl fun K2 hK2 => ?_); (try simp (maxSteps := 10000000) (disch := first | omega | simp) [hlt, q1, q2]); (first | refine hK2 _ _ _ _ _ _ _ (hb) rfl fun _ _ => ?_ | refine hK2 _ _ _ _ _ _ _ (hr) rfl fun _ _ => ?_ | refine hK2 _ _ _ _ _ _ _ (hc) rfl fun _ _ => ?_); clear hK2 K2; (try simp (maxSteps := 10000000) (disch := first | omega | simp) [hlt, q1, q2]))
                    | ((with_reducible refine callT' rfl fun K2 hK2 => ?_); (try simp (maxSteps := 10000000) (disch := first | omega | simp) [hlt, q1, q2]); (first | refine hK2 _ _ _ _ _ (hb) fun _ => ?_ | refine hK2 _ _ _ _ _ (hr) fun _ => ?_ | refine hK2 _ _ _ _ _ (hc) fun _ => ?_); clear hK2 K2; (try simp (maxSteps := 10000000) (disch := first | omega | simp) [hlt, q1, q2]))
                    | ((with_reducible refine sideSt' fun K2 hK2 => ?_); (try simp (maxSteps := 10000000) (disch := first | omega | simp) [hlt, q1, q2]); refine hK2 _ ?_; clear hK2 K2; (try simp (maxSteps := 10000000) (disch := first | omega | simp) [hlt, q1, q2]))
                    | ((with_reducible refine gdU ?_); (try simp (maxSteps := 10000000) (disch := first | omega | simp) [hlt, q1, q2]))
                    | ((with_reducible refine sideQ' ?_ ?_ fun K2 hK2 => ?_); exact rfl; exact rfl; (try simp (maxSteps := 10000000) (disch := first | omega | simp) [hlt, q1, q2]); with_reducible refine hK2 _ _ ?_; clear hK2 K2; (try simp (maxSteps := 10000000) (disch := first | omega | simp) [hlt, q1, q2]))
                    | ((with_reducible refine side' ?_ fun K2 hK2 => ?_); exact rfl; (try simp (maxSteps := 10000000) (disch := first | omega | simp) [hlt, q1, q2]); refine hK2 _ _ (by simp) ?_; clear hK2 K2; (try simp (maxSteps := 10000000) (disch := first | omega | simp) [hlt, q1, q2]))) <;> clear hK K)
                | ((with_reducible refine awCond fun A B hA hB => ?_); simp (maxSteps := 10000000) (disch := first | omega | simp) [hlt, q1, q2]; (first | refine ⟨fun h => hA ?_, fun h => hB ?_⟩ | refine hA ?_ | refine hB ?_) <;> (clear hA hB A B; (try (exfalso; omega))))
            (refine aEnR (aRes [] fun K hK => ?_); simp (maxSteps := 10000000) (disch := first | omega | simp) []; refine hK _ ?_ (by simp); clear hK; first | done | (simp (maxSteps := 10000000) (disch := first | omega | simp) [*]; done) | (simp (maxSteps := 10000000) (disch := first | omega | simp) [*]; omega) | (simp_all []; done) | (simp_all []; omega))
          | true =>
            cases q3 : (ids.take i).contains ids[i] with
            | true =>
              rw [q1, q2, q3] at hs
              rw [q1] at hb
              rw [q2] at hr
              rw [q3] at hc
              have e : refCk m ids = 18 := by rw [e0, hs]; simp
              rw [e]
              clear hs e0
              repeat' first
                  | (with_reducible first | refine thN ?_ | refine thR ?_ | refine thE ?_ | refine inN ?_ | refine inR ?_ | refine inH ?_ | refine fF ?_ | refine fS ?_ | refine fR ?_ | refine fQ ?_ | refine fC ?_ | refine fB ?_ | refine fL ?_ | refine fE ?_ | refine fT ?_ | refine awBlock ?_ | refine awExit ?_ | refine awRet ?_ | refine awSkip ?_ | refine inM (by decide) ?_)
                  | ((with_reducible refine awReg fun K hok hK => ?_); clear hok; (try simp (maxSteps := 10000000) (disch := first | omega | simp) [hlt, q1, q2, q3]); (repeat' first
                      | (with_reducible refine hK _ (by simp) ?_)
                      | ((with_reducible refine gdT (fun h => ?_) (fun h => ?_)) <;> (simp (maxSteps := 10000000) (disch := first | omega | simp) [h, hlt, q1, q2, q3]; (try simp at h); (try (exfalso; omega))))
                      | ((with_reducible refine gdF (fun h => ?_) (fun h => ?_)) <;> (simp (maxSteps := 10000000) (disch := first | omega | simp) [h, hlt, q1, q2, q3]; (try simp at h); (try (exfalso; omega))))
                      | ((with_reducible refine callS' fun K2 hK2 => ?_); (try simp (maxSteps := 10000000) (disch := first | omega | simp) [hlt, q1, q2, q3]); (first | (refine hK2 _ _ (hb) rfl fun hk9 => ?_; clear hk9) | (refine hK2 _ _ (hr) rfl fun hk9 => ?_; clear hk9) | (refine hK2 _ _ (hc) rfl fun hk9 => ?_; clear hk9)); clear hK2 K2; (try simp (maxSteps := 10000000) (disch := first | omega | simp) [hlt, q1, q2, q3]))
                      | ((with_reducible refine callF' fun K2 hK2 => ?_); (try simp (maxSteps := 10000000) (disch := first | omega | simp) [hlt, q1, q2, q3]); (first | refine hK2 _ _ _ (hb) fun _ => ?_ | refine hK2 _ _ _ (hr) fun _ => ?_ | refine hK2 _ _ _ (hc) fun _ => ?_); clear hK2 K2; (try simp (maxSteps := 10000000) (disch := first | omega | simp) [hlt, q1, q2, q3]))
                      | ((with_reducible refine sideS' fun K2 hK2 => ?_); (try simp (maxSteps := 10000000) (disch := first | omega | simp) [hlt, q1, q2, q3]); (first | refine hK2 _ _ (hb) rfl ?_ | refine hK2 _ _ (hr) rfl ?_ | refine hK2 _ _ (hc) rfl ?_); clear hK2 K2; (try simp (maxSteps := 10000000) (disch := first | omega | simp) [hlt, q1, q2, q3]))
                      | ((with_reducible refine sideF' fun K2 hK2 => ?_); (try simp (maxSteps := 10000000) (disch := first | omega | simp) [hlt, q1, q2, q3]); (first | refine hK2 _ _ _ (hb) (by simp) ?_ | refine hK2 _ _ _ (hr) (by simp) ?_ | refine hK2 _ _ _ (hc) (by simp) ?_); clear hK2 K2; (try simp (maxSteps := 10000000) (disch := first | omega | simp) [hlt, q1, q2, q3]))
                      | ((with_reducible refine callM' rfl fun K2 hK2 => ?_); (try simp (maxSteps := 10000000) (disch := first | omega | simp) [hlt, q1, q2, q3]); (first | refine hK2 _ _ _ _ _ _ _ (hb) rfl fun _ _ => ?_ | refine hK2 _ _ _ _ _ _ _ (hr) rfl fun _ _ => ?_ | refine hK2 _ _ _ _ _ _ _ (hc) rfl fun _ _ => ?_); clear hK2 K2; (try simp (maxSteps := 10000000) (disch := first | omega | simp) [hlt, q1, q2, q3]))
                      | ((with_reducible refine callT' rfl fun K2 hK2 => ?_); (try simp (maxSteps := 10000000) (disch := first | omega | simp) [hlt, q1, q2, q3]); (first | refine hK2 _ _ _ _ _ (hb) fun _ => ?_ | refine hK2 _ _ _ _ _ (hr) fun _ => ?_ | refine hK2 _ _ _ _ _ (hc) fun _ => ?_); clear hK2 K2; (try simp (maxSteps := 10000000) (disch := first | omega | simp) [hlt, q1, q2, q3]))
                      | ((with_reducible refine sideSt' fun K2 hK2 => ?_); (try simp (maxSteps := 10000000) (disch := first | omega | simp) [hlt, q1, q2, q3]); refine hK2 _ ?_; clear hK2 K2; (try simp (maxSteps := 10000000) (disch := first | omega | simp) [hlt, q1, q2, q3]))
                      | ((with_reducible refine gdU ?_); (try simp (maxSteps := 10000000) (disch := first | omega | simp) [hlt, q1, q2, q3]))
                      | ((with_reducible refine sideQ' ?_ ?_ fun K2 hK2 => ?_); exact rfl; exact rfl; (try simp (maxSteps := 10000000) (disch := first | omega | simp) [hlt, q1, q2, q3]); with_reducible refine hK2 _ _ ?_; clear hK2 K2; (try simp (maxSteps := 10000000) (disch := first | omega | simp) [hlt, q1, q2, q3]))
                      | ((with_reducible refine side' ?_ fun K2 hK2 => ?_); exact rfl; (try simp (maxSteps := 10000000) (disch := first | omega | simp) [hlt, q1, q2, q3]); refine hK2 _ _ (by simp) ?_; clear hK2 K2; (try simp (maxSteps := 10000000) (disch := first | omega | simp) [hlt, q1, q2, q3]))) <;> clear hK K)
                  | ((with_reducible refine awCond fun A B hA hB => ?_); simp (maxSteps := 10000000) (disch := first | omega | simp) [hlt, q1, q2, q3]; (first | refine ⟨fun h => hA ?_, fun h => hB ?_⟩ | refine hA ?_ | refine hB ?_) <;> (clear hA hB A B; (try (exfalso; omega))))
              (refine aEnR (aRes [] fun K hK => ?_); simp (maxSteps := 10000000) (disch := first | omega | simp) []; refine hK _ ?_ (by simp); clear hK; first | done | (simp (maxSteps := 10000000) (disch := first | omega | simp) [*]; done) | (simp (maxSteps := 10000000) (disch := first | omega | simp) [*]; omega) | (simp_all []; done) | (simp_all []; omega))
            | false =>
              rw [q1, q2, q3] at hs
              rw [q1] at hb
              rw [q2] at hr
              rw [q3] at hc
              repeat' first
                  | (with_reducible first | refine thN ?_ | refine thR ?_ | refine thE ?_ | refine inN ?_ | refine inR ?_ | refine inH ?_ | refine fF ?_ | refine fS ?_ | refine fR ?_ | refine fQ ?_ | refine fC ?_ | refine fB ?_ | refine fL ?_ | refine fE ?_ | refine fT ?_ | refine awBlock ?_ | refine awExit ?_ | refine awRet ?_ | refine awSkip ?_ | refine inM (by decide) ?_)
                  | ((with_reducible refine awReg fun K hok hK => ?_); clear hok; (try simp (maxSteps := 10000000) (disch := first | omega | simp) [hlt, q1, q2, q3]); (repeat' first
                      | (with_reducible refine hK _ (by simp) ?_)
                      | ((with_reducible refine gdT (fun h => ?_) (fun h => ?_)) <;> (simp (maxSteps := 10000000) (disch := first | omega | simp) [h, hlt, q1, q2, q3]; (try simp at h); (try (exfalso; omega))))
                      | ((with_reducible refine gdF (fun h => ?_) (fun h => ?_)) <;> (simp (maxSteps := 10000000) (disch := first | omega | simp) [h, hlt, q1, q2, q3]; (try simp at h); (try (exfalso; omega))))
                      | ((with_reducible refine callS' fun K2 hK2 => ?_); (try simp (maxSteps := 10000000) (disch := first | omega | simp) [hlt, q1, q2, q3]); (first | (refine hK2 _ _ (hb) rfl fun hk9 => ?_; clear hk9) | (refine hK2 _ _ (hr) rfl fun hk9 => ?_; clear hk9) | (refine hK2 _ _ (hc) rfl fun hk9 => ?_; clear hk9)); clear hK2 K2; (try simp (maxSteps := 10000000) (disch := first | omega | simp) [hlt, q1, q2, q3]))
                      | ((with_reducible refine callF' fun K2 hK2 => ?_); (try simp (maxSteps := 10000000) (disch := first | omega | simp) [hlt, q1, q2, q3]); (first | refine hK2 _ _ _ (hb) fun _ => ?_ | refine hK2 _ _ _ (hr) fun _ => ?_ | refine hK2 _ _ _ (hc) fun _ => ?_); clear hK2 K2; (try simp (maxSteps := 10000000) (disch := first | omega | simp) [hlt, q1, q2, q3]))
                      | ((with_reducible refine sideS' fun K2 hK2 => ?_); (try simp (maxSteps := 10000000) (disch := first | omega | simp) [hlt, q1, q2, q3]); (first | refine hK2 _ _ (hb) rfl ?_ | refine hK2 _ _ (hr) rfl ?_ | refine hK2 _ _ (hc) rfl ?_); clear hK2 K2; (try simp (maxSteps := 10000000) (disch := first | omega | simp) [hlt, q1, q2, q3]))
                      | ((with_reducible refine sideF' fun K2 hK2 => ?_); (try simp (maxSteps := 10000000) (disch := first | omega | simp) [hlt, q1, q2, q3]); (first | refine hK2 _ _ _ (hb) (by simp) ?_ | refine hK2 _ _ _ (hr) (by simp) ?_ | refine hK2 _ _ _ (hc) (by simp) ?_); clear hK2 K2; (try simp (maxSteps := 10000000) (disch := first | omega | simp) [hlt, q1, q2, q3]))
                      | ((with_reducible refine callM' rfl fun K2 hK2 => ?_); (try simp (maxSteps := 10000000) (disch := first | omega | simp) [hlt, q1, q2, q3]); (first | refine hK2 _ _ _ _ _ _ _ (hb) rfl fun _ _ => ?_ | refine hK2 _ _ _ _ _ _ _ (hr) rfl fun _ _ => ?_ | refine hK2 _ _ _ _ _ _ _ (hc) rfl fun _ _ => ?_); clear hK2 K2; (try simp (maxSteps := 10000000) (disch := first | omega | simp) [hlt, q1, q2, q3]))
                      | ((with_reducible refine callT' rfl fun K2 hK2 => ?_); (try simp (maxSteps := 10000000) (disch := first | omega | simp) [hlt, q1, q2, q3]); (first | refine hK2 _ _ _ _ _ (hb) fun _ => ?_ | refine hK2 _ _ _ _ _ (hr) fun _ => ?_ | refine hK2 _ _ _ _ _ (hc) fun _ => ?_); clear hK2 K2; (try simp (maxSteps := 10000000) (disch := first | omega | simp) [hlt, q1, q2, q3]))
                      | ((with_reducible refine sideSt' fun K2 hK2 => ?_); (try simp (maxSteps := 10000000) (disch := first | omega | simp) [hlt, q1, q2, q3]); refine hK2 _ ?_; clear hK2 K2; (try simp (maxSteps := 10000000) (disch := first | omega | simp) [hlt, q1, q2, q3]))
                      | ((with_reducible refine gdU ?_); (try simp (maxSteps := 10000000) (disch := first | omega | simp) [hlt, q1, q2, q3]))
                      | ((with_reducible refine sideQ' ?_ ?_ fun K2 hK2 => ?_); exact rfl; exact rfl; (try simp (maxSteps := 10000000) (disch := first | omega | simp) [hlt, q1, q2, q3]); with_reducible refine hK2 _ _ ?_; clear hK2 K2; (try simp (maxSteps := 10000000) (disch := first | omega | simp) [hlt, q1, q2, q3]))
                      | ((with_reducible refine side' ?_ fun K2 hK2 => ?_); exact rfl; (try simp (maxSteps := 10000000) (disch := first | omega | simp) [hlt, q1, q2, q3]); refine hK2 _ _ (by simp) ?_; clear hK2 K2; (try simp (maxSteps := 10000000) (disch := first | omega | simp) [hlt, q1, q2, q3]))) <;> clear hK K)
                  | ((with_reducible refine awCond fun A B hA hB => ?_); simp (maxSteps := 10000000) (disch := first | omega | simp) [hlt, q1, q2, q3]; (first | refine ⟨fun h => hA ?_, fun h => hB ?_⟩ | refine hA ?_ | refine hB ?_) <;> (clear hA hB A B; (try (exfalso; omega))))
              (refine ⟨?_, (), ?_, Wk.ofA ?_⟩; assumption; rotate_left; focus (simp []; done))
              simpa using hs
      · have e : refCk m ids = 0 := by rw [e0, hs, drop_nil (by simp; omega)]; rfl
        rw [e]
        clear hs e0
        repeat' first
            | (with_reducible first | refine thN ?_ | refine thR ?_ | refine thE ?_ | refine inN ?_ | refine inR ?_ | refine inH ?_ | refine fF ?_ | refine fS ?_ | refine fR ?_ | refine fQ ?_ | refine fC ?_ | refine fB ?_ | refine fL ?_ | refine fE ?_ | refine fT ?_ | refine awBlock ?_ | refine awExit ?_ | refine awRet ?_ | refine awSkip ?_ | refine inM (by decide) ?_)
            | ((with_reducible refine awReg fun K hok hK => ?_); clear hok; (try simp (maxSteps := 10000000) (disch := first | omega | simp) [hlt]); (repeat' first
                | (with_reducible refine hK _ (by simp) ?_)
                | ((with_reducible refine gdT (fun h => ?_) (fun h => ?_)) <;> (simp (maxSteps := 10000000) (disch := first | omega | simp) [h, hlt]; (try simp at h); (try (exfalso; omega))))
                | ((with_reducible refine gdF (fun h => ?_) (fun h => ?_)) <;> (simp (maxSteps := 10000000) (disch := first | omega | simp) [h, hlt]; (try simp at h); (try (exfalso; omega))))
                | ((with_reducible refine sideSt' fun K2 hK2 => ?_); (try simp (maxSteps := 10000000) (disch := first | omega | simp) [hlt]); refine hK2 _ ?_; clear hK2 K2; (try simp (maxSteps := 10000000) (disch := first | omega | simp) [hlt]))
                | ((with_reducible refine gdU ?_); (try simp (maxSteps := 10000000) (disch := first | omega | simp) [hlt]))
                | ((with_reducible refine sideQ' ?_ ?_ fun K2 hK2 => ?_); exact rfl; exact rfl; (try simp (maxSteps := 10000000) (disch := first | omega | simp) [hlt]); with_reducible refine hK2 _ _ ?_; clear hK2 K2; (try simp (maxSteps := 10000000) (disch := first | omega | simp) [hlt]))
                | ((with_reducible refine side' ?_ fun K2 hK2 => ?_); exact rfl; (try simp (maxSteps := 10000000) (disch := first | omega | simp) [hlt]); refine hK2 _ _ (by simp) ?_; clear hK2 K2; (try simp (maxSteps := 10000000) (disch := first | omega | simp) [hlt]))) <;> clear hK K)
            | ((with_reducible refine awCond fun A B hA hB => ?_); simp (maxSteps := 10000000) (disch := first | omega | simp) [hlt]; (first | refine ⟨fun h => hA ?_, fun h => hB ?_⟩ | refine hA ?_ | refine hB ?_) <;> (clear hA hB A B; (try (exfalso; omega))))
        (refine aEnR (aRes [] fun K hK => ?_); simp (maxSteps := 10000000) (disch := first | omega | simp) []; refine hK _ ?_ (by simp); clear hK; first | done | (simp (maxSteps := 10000000) (disch := first | omega | simp) [*]; done) | (simp (maxSteps := 10000000) (disch := first | omega | simp) [*]; omega) | (simp_all []; done) | (simp_all []; omega))
end
end Go.Am
