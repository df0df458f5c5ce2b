/- Part of the proof of a law of placing. -/
import Derived.Test.YteijffflinnccaaDoorQP16
import Derived.Test.YteijffflinnccaaDoorQP6j
set_option linter.all false
set_option maxRecDepth 100000
set_option maxHeartbeats 0
namespace Go.Am
open Go
noncomputable section
def c31 : SC := (.seq (.reg [⟨some 4, .box 30 (.tmp 0), none, []⟩,
  ⟨some 8, .assign (.const (.slice none 0 0)), none, []⟩] [1, 2, 3, 4, 52]) (.seq (.reg [⟨some 9, .assign (.const (.slice none 0 0)), none, []⟩] [1, 2, 3, 4, 9, 52]) (.seq (.block 0 (.seq (.loop (.seq (.reg [⟨some 13, .move (.tmp 9), none, []⟩,
  ⟨some 14, .call { callee := .builtin .len, args := #[.tmp 13], argTypes := #[23] }, none, []⟩,
  ⟨some 15, .move (.tmp 3), none, []⟩,
  ⟨some 16, .binOp .lss 3 (.tmp 14) (.tmp 15) 3, none, []⟩] [1, 2, 3, 4, 9, 16, 52]) (.seq (.cond (.tmp 16) .skip (.exit 0)) (.seq (.block 1 (.seq (.reg [⟨some 10, .assign (.const (.int .i64 0)), none, []⟩] [1, 2, 3, 4, 9, 10, 12, 23, 29, 30, 31, 48, 52]) (.seq (.reg [⟨some 11, .assign (.const (.int .i64 0)), none, []⟩] [1, 2, 3, 4, 9, 10, 11, 12, 22, 23, 29, 30, 31, 48, 52]) (.seq (.block 2 (.seq (.loop (.seq (.reg [⟨some 17, .move (.tmp 11), none, []⟩,
  ⟨some 18, .move (.tmp 1), none, []⟩,
  ⟨some 19, .call { callee := .builtin .len, args := #[.tmp 18], argTypes := #[23] }, none, []⟩,
  ⟨some 20, .binOp .lss 3 (.tmp 17) (.tmp 19) 3, none, []⟩] [1, 2, 3, 4, 9, 10, 11, 12, 20, 22, 23, 29, 30, 31, 48, 52]) (.seq (.cond (.tmp 20) .skip (.exit 2)) (.seq (.block 3 (.seq (.reg [⟨some 23, .move (.tmp 1), none, []⟩,
  ⟨some 24, .move (.tmp 2), none, []⟩,
  ⟨some 25, .move (.tmp 11), none, []⟩,
  ⟨some 26, .binOp .add 3 (.tmp 24) (.tmp 25) 3, none, []⟩,
  ⟨some 27, .move (.tmp 1), none, []⟩,
  ⟨some 28, .call { callee := .builtin .len, args := #[.tmp 27], argTypes := #[23] }, none, []⟩,
  ⟨some 29, .binOp .rem 3 (.tmp 26) (.tmp 28) 3, none, []⟩,
  ⟨some 30, .indexAddr 23 (.tmp 23) (.tmp 29), none, []⟩,
  ⟨some 31, .load 3 (.tmp 30), none, []⟩,
  ⟨some 12, .assign (.tmp 31), none, []⟩] [1, 2, 3, 4, 9, 10, 11, 12, 22, 23, 29, 30, 31, 48, 52]) (.seq (.reg [⟨some 32, .move (.tmp 9), none, []⟩,
  ⟨some 33, .move (.tmp 12), none, []⟩,
  ⟨some 34, .call { callee := .value (.func 26), args := #[.tmp 32, .tmp 33], argTypes := #[23, 3] }, none, []⟩] [1, 2, 3, 4, 9, 10, 11, 12, 22, 23, 29, 30, 31, 34, 48, 52]) (.seq (.cond (.tmp 34) (.exit 3) .skip) (.seq (.reg [⟨some 35, .move (.tmp 10), none, []⟩,
  ⟨some 36, .binOp .eql 3 (.tmp 35) (.const (.int .i64 0)) 3, none, []⟩,
  ⟨some 37, .move (.tmp 36), none, []⟩,
  ⟨some 38, .load 30 (.tmp 4), (some (37, false)), [39, 40, 42, 43, 44]⟩,
  ⟨some 39, .move (.tmp 9), (some (37, false)), [38, 40, 42, 43, 44]⟩,
  ⟨some 40, .move (.tmp 12), (some (37, false)), [38, 39, 42, 43, 44]⟩,
  ⟨some 41, .call { callee := .value (.func 42), args := #[.tmp 38, .tmp 39, .tmp 40], argTypes := #[30, 23, 3] }, (some (37, false)), [42, 43, 44]⟩,
  ⟨some 42, .load 30 (.tmp 4), (some (37, false)), [38, 39, 40, 41, 43, 44]⟩,
  ⟨some 43, .move (.tmp 9), (some (37, false)), [38, 39, 40, 41, 42, 44]⟩,
  ⟨some 44, .move (.tmp 10), (some (37, false)), [38, 39, 40, 41, 42, 43]⟩,
  ⟨some 45, .call { callee := .value (.func 42), args := #[.tmp 42, .tmp 43, .tmp 44], argTypes := #[30, 23, 3] }, (some (37, false)), []⟩,
  ⟨some 46, .binOp .lss 3 (.tmp 41) (.tmp 45) 3, (some (37, false)), []⟩,
  ⟨some 47, .pick (.tmp 37) (.const (.bool true)) (.tmp 46), none, []⟩] [1, 2, 3, 4, 9, 10, 11, 12, 22, 23, 29, 30, 31, 36, 37, 46, 47, 48, 52]) (.seq (.cond (.tmp 47) (.seq (.reg [⟨some 48, .move (.tmp 12), none, []⟩,
  ⟨some 10, .assign (.tmp 48), none, []⟩] [1, 2, 3, 4, 9, 10, 11, 12, 22, 23, 29, 30, 31, 48, 52]) .skip) .skip) .skip)))))) (.seq (.reg [⟨some 21, .move (.tmp 11), none, []⟩,
  ⟨some 22, .binOp .add 3 (.tmp 21) (.const (.int .i64 1)) 3, none, []⟩,
  ⟨some 11, .assign (.tmp 22), none, []⟩] [1, 2, 3, 4, 9, 10, 11, 12, 22, 23, 29, 30, 31, 48, 52]) .skip))))) .skip)) (.seq (.reg [⟨some 49, .move (.tmp 9), none, []⟩,
  ⟨some 50, .move (.tmp 10), none, []⟩,
  ⟨some 51, .buildSlice 23 1 #[(0, .tmp 50)], none, []⟩,
  ⟨some 52, .call { callee := .builtin .append, args := #[.tmp 49, .tmp 51], argTypes := #[23, 23] }, none, []⟩,
  ⟨some 9, .assign (.tmp 52), none, []⟩] [1, 2, 3, 4, 9, 52]) .skip))))) .skip)))) .skip)) (.seq (.reg [⟨some 53, .move (.tmp 9), none, []⟩,
  ⟨some 8, .assign (.tmp 53), none, []⟩] [8, 9, 52, 53]) .ret))))
theorem s31 : TextK Proofs.Tryd.prog 0 31 54 [ResultVar.tmp 8] c31 := .mk' Proofs.Tryd.f31 _ (by kernel_rfl) rfl rfl rfl (by kernel_rfl) rfl (by kernel_rfl)
def c16 : SC := (.seq (.reg [⟨some 4, .box 30 (.tmp 0), none, []⟩,
  ⟨some 8, .assign (.const (.slice none 0 0)), none, []⟩,
  ⟨some 9, .assign (.const (.int .i64 0)), none, []⟩] [1, 2, 3, 4, 11, 53, 54]) (.seq (.reg [⟨some 13, .load 30 (.tmp 4), none, []⟩,
  ⟨some 14, .call { callee := .value (.func 11), args := #[.tmp 13], argTypes := #[30] }, none, []⟩,
  ⟨some 10, .assign (.tmp 14), none, []⟩] [1, 2, 3, 4, 10, 11, 14, 53, 54]) (.seq (.reg [⟨some 15, .move (.tmp 1), none, []⟩,
  ⟨some 16, .binOp .lss 3 (.tmp 15) (.const (.int .i64 1)) 3, none, []⟩,
  ⟨some 17, .move (.tmp 16), none, []⟩,
  ⟨some 18, .move (.tmp 1), (some (17, false)), []⟩,
  ⟨some 19, .binOp .gtr 3 (.tmp 18) (.const (.int .i64 256)) 3, (some (17, false)), []⟩,
  ⟨some 20, .pick (.tmp 17) (.const (.bool true)) (.tmp 19), none, []⟩] [1, 2, 3, 4, 10, 11, 14, 16, 17, 19, 20, 53, 54]) (.seq (.cond (.tmp 20) (.seq (.reg [⟨some 8, .assign (.const (.slice none 0 0)), none, []⟩,
  ⟨some 9, .assign (.const (.int .i64 2)), none, []⟩] [8, 9, 11, 53, 54]) .ret) .skip) (.seq (.reg [⟨some 21, .move (.tmp 2), none, []⟩,
  ⟨some 22, .binOp .lss 3 (.tmp 21) (.const (.int .i64 1)) 3, none, []⟩,
  ⟨some 23, .move (.tmp 22), none, []⟩,
  ⟨some 24, .move (.tmp 2), (some (23, false)), []⟩,
  ⟨some 25, .binOp .gtr 3 (.tmp 24) (.const (.int .i64 7)) 3, (some (23, false)), []⟩,
  ⟨some 26, .pick (.tmp 23) (.const (.bool true)) (.tmp 25), none, []⟩,
  ⟨some 27, .move (.tmp 26), none, []⟩,
  ⟨some 28, .move (.tmp 2), (some (27, false)), []⟩,
  ⟨some 29, .move (.tmp 10), (some (27, false)), []⟩,
  ⟨some 30, .call { callee := .builtin .len, args := #[.tmp 29], argTypes := #[23] }, (some (27, false)), []⟩,
  ⟨some 31, .binOp .gtr 3 (.tmp 28) (.tmp 30) 3, (some (27, false)), []⟩,
  ⟨some 32, .pick (.tmp 27) (.const (.bool true)) (.tmp 31), none, []⟩] [1, 2, 3, 4, 10, 11, 14, 22, 23, 25, 26, 27, 31, 32, 53, 54]) (.seq (.cond (.tmp 32) (.seq (.reg [⟨some 8, .assign (.const (.slice none 0 0)), none, []⟩,
  ⟨some 9, .assign (.const (.int .i64 18)), none, []⟩] [8, 9, 11, 53, 54]) .ret) .skip) (.seq (.reg [⟨some 33, .move (.tmp 3), none, []⟩,
  ⟨some 34, .binOp .lss 3 (.tmp 33) (.const (.int .i64 0)) 3, none, []⟩,
  ⟨some 35, .move (.tmp 34), none, []⟩,
  ⟨some 36, .move (.tmp 3), (some (35, false)), []⟩,
  ⟨some 37, .binOp .gtr 3 (.tmp 36) (.const (.int .i64 1073741824)) 3, (some (35, false)), []⟩,
  ⟨some 38, .pick (.tmp 35) (.const (.bool true)) (.tmp 37), none, []⟩] [1, 2, 3, 4, 10, 11, 14, 34, 35, 37, 38, 53, 54]) (.seq (.cond (.tmp 38) (.seq (.reg [⟨some 8, .assign (.const (.slice none 0 0)), none, []⟩,
  ⟨some 9, .assign (.const (.int .i64 2)), none, []⟩] [8, 9, 11, 53, 54]) .ret) .skip) (.seq (.reg [⟨some 11, .assign (.const (.slice none 0 0)), none, []⟩] [1, 2, 3, 4, 10, 11, 14, 53]) (.seq (.reg [⟨some 12, .assign (.const (.int .i64 0)), none, []⟩] [1, 2, 3, 4, 10, 11, 12, 14, 43, 53]) (.seq (.block 0 (.seq (.loop (.seq (.reg [⟨some 39, .move (.tmp 12), none, []⟩,
  ⟨some 40, .move (.tmp 1), none, []⟩,
  ⟨some 41, .binOp .lss 3 (.tmp 39) (.tmp 40) 3, none, []⟩] [1, 2, 3, 4, 10, 11, 12, 14, 41, 43, 53]) (.seq (.cond (.tmp 41) .skip (.exit 0)) (.seq (.block 1 (.seq (.reg [⟨some 44, .move (.tmp 11), none, []⟩,
  ⟨some 45, .load 30 (.tmp 4), none, []⟩,
  ⟨some 46, .move (.tmp 10), none, []⟩,
  ⟨some 47, .move (.tmp 3), none, []⟩,
  ⟨some 48, .move (.tmp 12), none, []⟩,
  ⟨some 49, .binOp .add 3 (.tmp 47) (.tmp 48) 3, none, []⟩,
  ⟨some 50, .move (.tmp 2), none, []⟩,
  ⟨some 51, .call { callee := .value (.func 31), args := #[.tmp 45, .tmp 46, .tmp 49, .tmp 50], argTypes := #[30, 23, 3, 3] }, none, []⟩,
  ⟨some 52, .buildSlice 44 1 #[(0, .tmp 51)], none, []⟩,
  ⟨some 53, .call { callee := .builtin .append, args := #[.tmp 44, .tmp 52], argTypes := #[44, 44] }, none, []⟩,
  ⟨some 11, .assign (.tmp 53), none, []⟩] [1, 2, 3, 4, 10, 11, 12, 14, 43, 53]) .skip)) (.seq (.reg [⟨some 42, .move (.tmp 12), none, []⟩,
  ⟨some 43, .binOp .add 3 (.tmp 42) (.const (.int .i64 1)) 3, none, []⟩,
  ⟨some 12, .assign (.tmp 43), none, []⟩] [1, 2, 3, 4, 10, 11, 12, 14, 43, 53]) .skip))))) .skip)) (.seq (.reg [⟨some 54, .move (.tmp 11), none, []⟩,
  ⟨some 8, .assign (.tmp 54), none, []⟩,
  ⟨some 9, .assign (.const (.int .i64 0)), none, []⟩] [8, 9, 11, 53, 54]) .ret))))))))))))
theorem s16 : TextK Proofs.Tryd.prog 0 16 55 [ResultVar.tmp 8, ResultVar.tmp 9] c16 := .mk' Proofs.Tryd.f16 _ (by kernel_rfl) rfl rfl rfl (by kernel_rfl) rfl (by kernel_rfl)
theorem refOne_ok (m : Image) (order : List Int) (at' r : Nat) (hol : order.length ≤ 1000) (hr : r ≤ order.length) (hpos : ∀ id ∈ order, 0 < id) (hat : at' ≤ 4294967296) :
    ACall pg 31 [encM m, Li order, I at', I r] (.uq ((oneR m order at' r).map I)) := by
  refine s31.call mo (by simp) fun hxs => ?_
  clear hxs
  unfold c31
  repeat' first
      | (with_reducible first | refine thN ?_ | refine thR ?_ | refine thE ?_ | refine inN ?_ | refine inR ?_ | refine inH ?_ | refine fF ?_ | refine fS ?_ | refine fR ?_ | refine fQ ?_ | refine fC ?_ | refine fB ?_ | refine fL ?_ | refine fE ?_ | refine fT ?_ | refine awBlock ?_ | refine awExit ?_ | refine awRet ?_ | refine awSkip ?_ | refine inM (by decide) ?_)
      | ((with_reducible refine awReg fun K hok hK => ?_); clear hok; (try simp (maxSteps := 10000000) (disch := first | omega | simp) []); (repeat' first
          | (with_reducible refine hK _ (by simp) ?_)
          | ((with_reducible refine gdT (fun h => ?_) (fun h => ?_)) <;> (simp (maxSteps := 10000000) (disch := first | omega | simp) [h]; (try simp at h); (try (exfalso; omega))))
          | ((with_reducible refine gdF (fun h => ?_) (fun h => ?_)) <;> (simp (maxSteps := 10000000) (disch := first | omega | simp) [h]; (try simp at h); (try (exfalso; omega))))
          | ((with_reducible refine sideSt' fun K2 hK2 => ?_); (try simp (maxSteps := 10000000) (disch := first | omega | simp) []); refine hK2 _ ?_; clear hK2 K2; (try simp (maxSteps := 10000000) (disch := first | omega | simp) []))
          | ((with_reducible refine gdU ?_); (try simp (maxSteps := 10000000) (disch := first | omega | simp) []))
          | ((with_reducible refine sideQ' ?_ ?_ fun K2 hK2 => ?_); exact rfl; exact rfl; (try simp (maxSteps := 10000000) (disch := first | omega | simp) []); with_reducible refine hK2 _ _ ?_; clear hK2 K2; (try simp (maxSteps := 10000000) (disch := first | omega | simp) []))
          | ((with_reducible refine side' ?_ fun K2 hK2 => ?_); exact rfl; (try simp (maxSteps := 10000000) (disch := first | omega | simp) []); refine hK2 _ _ (by simp) ?_; clear hK2 K2; (try simp (maxSteps := 10000000) (disch := first | omega | simp) []))) <;> clear hK K)
      | ((with_reducible refine awCond fun A B hA hB => ?_); simp (maxSteps := 10000000) (disch := first | omega | simp) []; (first | refine ⟨fun h => hA ?_, fun h => hB ?_⟩ | refine hA ?_ | refine hB ?_) <;> (clear hA hB A B; (try (exfalso; omega))))
  refine awFor r (fun j (out : List Int) => iterR m order at' (r - j) out = oneR m order at' r ∧ out.length = j)
    (fun j out => [(9, .p (.uq (out.map I))), (4, .p (.own (encM m).cells)), (3, .p (I r)), (2, .p (I at')), (1, .p (Li order))]) [] (Wk.ofA (by simp)) ⟨rfl, rfl⟩ fun j out hj hs => ?_
  obtain ⟨hs, hlen⟩ := hs
  by_cases hjl : j < r
  · have hne : order ≠ [] := by intro e; subst e; simp at hr; omega
    have hln : 0 < order.length := List.length_pos_iff.2 hne
    rw [show r - j = (r - (j + 1)) + 1 by omega, iterR] at hs
    have hlr : (out.length : Int) < r := by omega
    repeat' first
        | (with_reducible first | refine thN ?_ | refine thR ?_ | refine thE ?_ | refine inN ?_ | refine inR ?_ | refine inH ?_ | refine fF ?_ | refine fS ?_ | refine fR ?_ | refine fQ ?_ | refine fC ?_ | refine fB ?_ | refine fL ?_ | refine fE ?_ | refine fT ?_ | refine awBlock ?_ | refine awExit ?_ | refine awRet ?_ | refine awSkip ?_ | refine inM (by decide) ?_)
        | ((with_reducible refine awReg fun K hok hK => ?_); clear hok; (try simp (maxSteps := 10000000) (disch := first | omega | simp) [hlr]); (repeat' first
            | (with_reducible refine hK _ (by simp) ?_)
            | ((with_reducible refine gdT (fun h => ?_) (fun h => ?_)) <;> (simp (maxSteps := 10000000) (disch := first | omega | simp) [h, hlr]; (try simp at h); (try (exfalso; omega))))
            | ((with_reducible refine gdF (fun h => ?_) (fun h => ?_)) <;> (simp (maxSteps := 10000000) (disch := first | omega | simp) [h, hlr]; (try simp at h); (try (exfalso; omega))))
            | ((with_reducible refine sideSt' fun K2 hK2 => ?_); (try simp (maxSteps := 10000000) (disch := first | omega | simp) [hlr]); refine hK2 _ ?_; clear hK2 K2; (try simp (maxSteps := 10000000) (disch := first | omega | simp) [hlr]))
            | ((with_reducible refine gdU ?_); (try simp (maxSteps := 10000000) (disch := first | omega | simp) [hlr]))
            | ((with_reducible refine sideQ' ?_ ?_ fun K2 hK2 => ?_); exact rfl; exact rfl; (try simp (maxSteps := 10000000) (disch := first | omega | simp) [hlr]); with_reducible refine hK2 _ _ ?_; clear hK2 K2; (try simp (maxSteps := 10000000) (disch := first | omega | simp) [hlr]))
            | ((with_reducible refine side' ?_ fun K2 hK2 => ?_); exact rfl; (try simp (maxSteps := 10000000) (disch := first | omega | simp) [hlr]); refine hK2 _ _ (by simp) ?_; clear hK2 K2; (try simp (maxSteps := 10000000) (disch := first | omega | simp) [hlr]))) <;> clear hK K)
        | ((with_reducible refine awCond fun A B hA hB => ?_); simp (maxSteps := 10000000) (disch := first | omega | simp) [hlr]; (first | refine ⟨fun h => hA ?_, fun h => hB ?_⟩ | refine hA ?_ | refine hB ?_) <;> (clear hA hB A B; (try (exfalso; omega))))
    refine awFor order.length (fun k (s : Int) => ((List.range order.length).drop k).foldl (stepR m order at' out) s = bestR m order at' out ∧ (s = 0 ∨ s ∈ order))
      (fun k s => [(11, .p (I k)), (10, .p (I s)), (9, .p (.uq (out.map I))), (4, .p (.own (encM m).cells)), (3, .p (I r)), (2, .p (I at')), (1, .p (Li order))]) 0 (Wk.ofA (by simp)) ⟨rfl, .inl rfl⟩ fun k s hk hf => ?_
    obtain ⟨hf, hso⟩ := hf
    by_cases hlt : k < order.length
    · rw [drop_cons (show k < (List.range order.length).length by simpa using hlt)] at hf
      simp only [List.getElem_range, List.foldl_cons] at hf
      have hid := nth_mem hne (at' + k)
      have hido := hpos _ hid
      have hmod := Nat.mod_lt (at' + k) hln
      have hget : order[(at' + k) % order.length] = nth order (at' + k) := by
        unfold nth
        rw [List.getD_eq_getElem?_getD, List.getElem?_eq_getElem hmod]; rfl
      have htm : ((at' : Int) + k).tmod (order.length : Int) = (((at' + k) % order.length : Nat) : Int) := rfl
      generalize (at' + k) % order.length = q at hmod hget htm
      have hcn := has_ok out (nth order (at' + k))
      have hst : stepR m order at' out s k = if out.contains (nth order (at' + k)) then s else if s = 0 ∨ metR m out (nth order (at' + k)) < metR m out s then nth order (at' + k) else s := rfl
      rw [hst] at hf
      clear hst
      generalize nth order (at' + k) = id at *
      have hm1 := refMet_ok m out id (by omega)
      cases hct : out.contains id with
      | true =>
        rw [hct] at hf hcn
        simp only [if_true] at hf
        repeat' first
            | (with_reducible first | refine thN ?_ | refine thR ?_ | refine thE ?_ | refine inN ?_ | refine inR ?_ | refine inH ?_ | refine fF ?_ | refine fS ?_ | refine fR ?_ | refine fQ ?_ | refine fC ?_ | refine fB ?_ | refine fL ?_ | refine fE ?_ | refine fT ?_ | refine awBlock ?_ | refine awExit ?_ | refine awRet ?_ | refine awSkip ?_ | refine inM (by decide) ?_)
            | ((with_reducible refine awReg fun K hok hK => ?_); clear hok; (try simp (maxSteps := 10000000) (disch := first | omega | simp) [hne, htm, hget, hmod, hlt]); (repeat' first
                | (with_reducible refine hK _ (by simp) ?_)
                | ((with_reducible refine gdT (fun h => ?_) (fun h => ?_)) <;> (simp (maxSteps := 10000000) (disch := first | omega | simp) [h, hne, htm, hget, hmod, hlt]; (try simp at h); (try (exfalso; omega))))
                | ((with_reducible refine gdF (fun h => ?_) (fun h => ?_)) <;> (simp (maxSteps := 10000000) (disch := first | omega | simp) [h, hne, htm, hget, hmod, hlt]; (try simp at h); (try (exfalso; omega))))
                | ((with_reducible refine callS' fun K2 hK2 => ?_); (try simp (maxSteps := 10000000) (disch := first | omega | simp) [hne, htm, hget, hmod, hlt]); (first | (refine hK2 _ _ (hcn) rfl fun hk9 => ?_; clear hk9)); clear hK2 K2; (try simp (maxSteps := 10000000) (disch := first | omega | simp) [hne, htm, hget, hmod, hlt]))
                | ((with_reducible refine callF' fun K2 hK2 => ?_); (try simp (maxSteps := 10000000) (disch := first | omega | simp) [hne, htm, hget, hmod, hlt]); (first | refine hK2 _ _ _ (hcn) fun _ => ?_); clear hK2 K2; (try simp (maxSteps := 10000000) (disch := first | omega | simp) [hne, htm, hget, hmod, hlt]))
                | ((with_reducible refine sideS' fun K2 hK2 => ?_); (try simp (maxSteps := 10000000) (disch := first | omega | simp) [hne, htm, hget, hmod, hlt]); (first | refine hK2 _ _ (hcn) rfl ?_); clear hK2 K2; (try simp (maxSteps := 10000000) (disch := first | omega | simp) [hne, htm, hget, hmod, hlt]))
                | ((with_reducible refine sideF' fun K2 hK2 => ?_); (try simp (maxSteps := 10000000) (disch := first | omega | simp) [hne, htm, hget, hmod, hlt]); (first | refine hK2 _ _ _ (hcn) (by simp) ?_); clear hK2 K2; (try simp (maxSteps := 10000000) (disch := first | omega | simp) [hne, htm, hget, hmod, hlt]))
                | ((with_reducible refine callM' rfl fun K2 hK2 => ?_); (try simp (maxSteps := 10000000) (disch := first | omega | simp) [hne, htm, hget, hmod, hlt]); (first | refine hK2 _ _ _ _ _ _ _ (hcn) rfl fun _ _ => ?_); clear hK2 K2; (try simp (maxSteps := 10000000) (disch := first | omega | simp) [hne, htm, hget, hmod, hlt]))
                | ((with_reducible refine callT' rfl fun K2 hK2 => ?_); (try simp (maxSteps := 10000000) (disch := first | omega | simp) [hne, htm, hget, hmod, hlt]); (first | refine hK2 _ _ _ _ _ (hcn) fun _ => ?_); clear hK2 K2; (try simp (maxSteps := 10000000) (disch := first | omega | simp) [hne, htm, hget, hmod, hlt]))
                | ((with_reducible refine sideSt' fun K2 hK2 => ?_); (try simp (maxSteps := 10000000) (disch := first | omega | simp) [hne, htm, hget, hmod, hlt]); refine hK2 _ ?_; clear hK2 K2; (try simp (maxSteps := 10000000) (disch := first | omega | simp) [hne, htm, hget, hmod, hlt]))
                | ((with_reducible refine gdU ?_); (try simp (maxSteps := 10000000) (disch := first | omega | simp) [hne, htm, hget, hmod, hlt]))
                | ((with_reducible refine sideQ' ?_ ?_ fun K2 hK2 => ?_); exact rfl; exact rfl; (try simp (maxSteps := 10000000) (disch := first | omega | simp) [hne, htm, hget, hmod, hlt]); with_reducible refine hK2 _ _ ?_; clear hK2 K2; (try simp (maxSteps := 10000000) (disch := first | omega | simp) [hne, htm, hget, hmod, hlt]))
                | ((with_reducible refine side' ?_ fun K2 hK2 => ?_); exact rfl; (try simp (maxSteps := 10000000) (disch := first | omega | simp) [hne, htm, hget, hmod, hlt]); refine hK2 _ _ (by simp) ?_; clear hK2 K2; (try simp (maxSteps := 10000000) (disch := first | omega | simp) [hne, htm, hget, hmod, hlt]))) <;> clear hK K)
            | ((with_reducible refine awCond fun A B hA hB => ?_); simp (maxSteps := 10000000) (disch := first | omega | simp) [hne, htm, hget, hmod, hlt]; (first | refine ⟨fun h => hA ?_, fun h => hB ?_⟩ | refine hA ?_ | refine hB ?_) <;> (clear hA hB A B; (try (exfalso; omega))))
        (refine ⟨?_, s, ?_, Wk.ofA ?_⟩; assumption; rotate_left; focus (simp []; done))
        exact ⟨hf, hso⟩
      | false =>
        rw [hct] at hf hcn
        simp only [Bool.false_eq_true, if_false] at hf
        rcases hso with rfl | hso
        · rw [if_pos (.inl rfl)] at hf
          repeat' first
              | (with_reducible first | refine thN ?_ | refine thR ?_ | refine thE ?_ | refine inN ?_ | refine inR ?_ | refine inH ?_ | refine fF ?_ | refine fS ?_ | refine fR ?_ | refine fQ ?_ | refine fC ?_ | refine fB ?_ | refine fL ?_ | refine fE ?_ | refine fT ?_ | refine awBlock ?_ | refine awExit ?_ | refine awRet ?_ | refine awSkip ?_ | refine inM (by decide) ?_)
              | ((with_reducible refine awReg fun K hok hK => ?_); clear hok; (try simp (maxSteps := 10000000) (disch := first | omega | simp) [hne, htm, hget, hmod, hlt]); (repeat' first
                  | (with_reducible refine hK _ (by simp) ?_)
                  | ((with_reducible refine gdT (fun h => ?_) (fun h => ?_)) <;> (simp (maxSteps := 10000000) (disch := first | omega | simp) [h, hne, htm, hget, hmod, hlt]; (try simp at h); (try (exfalso; omega))))
                  | ((with_reducible refine gdF (fun h => ?_) (fun h => ?_)) <;> (simp (maxSteps := 10000000) (disch := first | omega | simp) [h, hne, htm, hget, hmod, hlt]; (try simp at h); (try (exfalso; omega))))
                  | ((with_reducible refine callS' fun K2 hK2 => ?_); (try simp (maxSteps := 10000000) (disch := first | omega | simp) [hne, htm, hget, hmod, hlt]); (first | (refine hK2 _ _ (hcn) rfl fun hk9 => ?_; clear hk9) | (refine hK2 _ _ (hm1) rfl fun hk9 => ?_; clear hk9)); clear hK2 K2; (try simp (maxSteps := 10000000) (disch := first | omega | simp) [hne, htm, hget, hmod, hlt]))
                  | ((with_reducible refine callF' fun K2 hK2 => ?_); (try simp (maxSteps := 10000000) (disch := first | omega | simp) [hne, htm, hget, hmod, hlt]); (first | refine hK2 _ _ _ (hcn) fun _ => ?_ | refine hK2 _ _ _ (hm1) fun _ => ?_); clear hK2 K2; (try simp (maxSteps := 10000000) (disch := first | omega | simp) [hne, htm, hget, hmod, hlt]))
                  | ((with_reducible refine sideS' fun K2 hK2 => ?_); (try simp (maxSteps := 10000000) (disch := first | omega | simp) [hne, htm, hget, hmod, hlt]); (first | refine hK2 _ _ (hcn) rfl ?_ | refine hK2 _ _ (hm1) rfl ?_); clear hK2 K2; (try simp (maxSteps := 10000000) (disch := first | omega | simp) [hne, htm, hget, hmod, hlt]))
                  | ((with_reducible refine sideF' fun K2 hK2 => ?_); (try simp (maxSteps := 10000000) (disch := first | omega | simp) [hne, htm, hget, hmod, hlt]); (first | refine hK2 _ _ _ (hcn) (by simp) ?_ | refine hK2 _ _ _ (hm1) (by simp) ?_); clear hK2 K2; (try simp (maxSteps := 10000000) (disch := first | omega | simp) [hne, htm, hget, hmod, hlt]))
                  | ((with_reducible refine callM' rfl fun K2 hK2 => ?_); (try simp (maxSteps := 10000000) (disch := first | omega | simp) [hne, htm, hget, hmod, hlt]); (first | refine hK2 _ _ _ _ _ _ _ (hcn) rfl fun _ _ => ?_ | refine hK2 _ _ _ _ _ _ _ (hm1) rfl fun _ _ => ?_); clear hK2 K2; (try simp (maxSteps := 10000000) (disch := first | omega | simp) [hne, htm, hget, hmod, hlt]))
                  | ((with_reducible refine callT' rfl fun K2 hK2 => ?_); (try simp (maxSteps := 10000000) (disch := first | omega | simp) [hne, htm, hget, hmod, hlt]); (first | refine hK2 _ _ _ _ _ (hcn) fun _ => ?_ | refine hK2 _ _ _ _ _ (hm1) fun _ => ?_); clear hK2 K2; (try simp (maxSteps := 10000000) (disch := first | omega | simp) [hne, htm, hget, hmod, hlt]))
                  | ((with_reducible refine sideSt' fun K2 hK2 => ?_); (try simp (maxSteps := 10000000) (disch := first | omega | simp) [hne, htm, hget, hmod, hlt]); refine hK2 _ ?_; clear hK2 K2; (try simp (maxSteps := 10000000) (disch := first | omega | simp) [hne, htm, hget, hmod, hlt]))
                  | ((with_reducible refine gdU ?_); (try simp (maxSteps := 10000000) (disch := first | omega | simp) [hne, htm, hget, hmod, hlt]))
                  | ((with_reducible refine sideQ' ?_ ?_ fun K2 hK2 => ?_); exact rfl; exact rfl; (try simp (maxSteps := 10000000) (disch := first | omega | simp) [hne, htm, hget, hmod, hlt]); with_reducible refine hK2 _ _ ?_; clear hK2 K2; (try simp (maxSteps := 10000000) (disch := first | omega | simp) [hne, htm, hget, hmod, hlt]))
                  | ((with_reducible refine side' ?_ fun K2 hK2 => ?_); exact rfl; (try simp (maxSteps := 10000000) (disch := first | omega | simp) [hne, htm, hget, hmod, hlt]); refine hK2 _ _ (by simp) ?_; clear hK2 K2; (try simp (maxSteps := 10000000) (disch := first | omega | simp) [hne, htm, hget, hmod, hlt]))) <;> clear hK K)
              | ((with_reducible refine awCond fun A B hA hB => ?_); simp (maxSteps := 10000000) (disch := first | omega | simp) [hne, htm, hget, hmod, hlt]; (first | refine ⟨fun h => hA ?_, fun h => hB ?_⟩ | refine hA ?_ | refine hB ?_) <;> (clear hA hB A B; (try (exfalso; omega))))
          (refine ⟨?_, id, ?_, Wk.ofA ?_⟩; assumption; rotate_left; focus (simp []; done))
          exact ⟨hf, .inr hid⟩
        · have hs0 := hpos s hso
          have hn0 : ¬ s = 0 := by omega
          have hm2 := refMet_ok m out s (by omega)
          by_cases hc2 : metR m out id < metR m out s
          · rw [if_pos (.inr hc2)] at hf
            repeat' first
                | (with_reducible first | refine thN ?_ | refine thR ?_ | refine thE ?_ | refine inN ?_ | refine inR ?_ | refine inH ?_ | refine fF ?_ | refine fS ?_ | refine fR ?_ | refine fQ ?_ | refine fC ?_ | refine fB ?_ | refine fL ?_ | refine fE ?_ | refine fT ?_ | refine awBlock ?_ | refine awExit ?_ | refine awRet ?_ | refine awSkip ?_ | refine inM (by decide) ?_)
                | ((with_reducible refine awReg fun K hok hK => ?_); clear hok; (try simp (maxSteps := 10000000) (disch := first | omega | simp) [hne, htm, hget, hmod, hlt, hn0, hc2]); (repeat' first
                    | (with_reducible refine hK _ (by simp) ?_)
                    | ((with_reducible refine gdT (fun h => ?_) (fun h => ?_)) <;> (simp (maxSteps := 10000000) (disch := first | omega | simp) [h, hne, htm, hget, hmod, hlt, hn0, hc2]; (try simp at h); (try (exfalso; omega))))
                    | ((with_reducible refine gdF (fun h => ?_) (fun h => ?_)) <;> (simp (maxSteps := 10000000) (disch := first | omega | simp) [h, hne, htm, hget, hmod, hlt, hn0, hc2]; (try simp at h); (try (exfalso; omega))))
                    | ((with_reducible refine callS' fun K2 hK2 => ?_); (try simp (maxSteps := 10000000) (disch := first | omega | simp) [hne, htm, hget, hmod, hlt, hn0, hc2]); (first | (refine hK2 _ _ (hcn) rfl fun hk9 => ?_; clear hk9) | (refine hK2 _ _ (hm1) rfl fun hk9 => ?_; clear hk9) | (refine hK2 _ _ (hm2) rfl fun hk9 => ?_; clear hk9)); clear hK2 K2; (try simp (maxSteps := 10000000) (disch := first | omega | simp) [hne, htm, hget, hmod, hlt, hn0, hc2]))
                    | ((with_reducible refine callF' fun K2 hK2 => ?_); (try simp (maxSteps := 10000000) (disch := first | omega | simp) [hne, htm, hget, hmod, hlt, hn0, hc2]); (first | refine hK2 _ _ _ (hcn) fun _ => ?_ | refine hK2 _ _ _ (hm1) fun _ => ?_ | refine hK2 _ _ _ (hm2) fun _ => ?_); clear hK2 K2; (try simp (maxSteps := 10000000) (disch := first | omega | simp) [hne, htm, hget, hmod, hlt, hn0, hc2]))
                    | ((with_reducible refine sideS' fun K2 hK2 => ?_); (try simp (maxSteps := 10000000) (disch := first | omega | simp) [hne, htm, hget, hmod, hlt, hn0, hc2]); (first | refine hK2 _ _ (hcn) rfl ?_ | refine hK2 _ _ (hm1) rfl ?_ | refine hK2 _ _ (hm2) rfl ?_); clear hK2 K2; (try simp (maxSteps := 10000000) (disch := first | omega | simp) [hne, htm, hget, hmod, hlt, hn0, hc2]))
                    | ((with_reducible refine sideF' fun K2 hK2 => ?_); (try simp (maxSteps := 10000000) (disch := first | omega | simp) [hne, htm, hget, hmod, hlt, hn0, hc2]); (first | refine hK2 _ _ _ (hcn) (by simp) ?_ | refine hK2 _ _ _ (hm1) (by simp) ?_ | refine hK2 _ _ _ (hm2) (by simp) ?_); clear hK2 K2; (try simp (maxSteps := 10000000) (disch := first | omega | simp) [hne, htm, hget, hmod, hlt, hn0, hc2]))
                    | ((with_reducible refine callM' rfl fun K2 hK2 => ?_); (try simp (maxSteps := 10000000) (disch := first | omega | simp) [hne, htm, hget, hmod, hlt, hn0, hc2]); (first | refine hK2 _ _ _ _ _ _ _ (hcn) rfl fun _ _ => ?_ | refine hK2 _ _ _ _ _ _ _ (hm1) rfl fun _ _ => ?_ | refine hK2 _ _ _ _ _ _ _ (hm2) rfl fun _ _ => ?_); clear hK2 K2; (try simp (maxSteps := 10000000) (disch := first | omega | simp) [hne, htm, hget, hmod, hlt, hn0, hc2]))
                    | ((with_reducible refine callT' rfl fun K2 hK2 => ?_); (try simp (maxSteps := 10000000) (disch := first | omega | simp) [hne, htm, hget, hmod, hlt, hn0, hc2]); (first | refine hK2 _ _ _ _ _ (hcn) fun _ => ?_ | refine hK2 _ _ _ _ _ (hm1) fun _ => ?_ | refine hK2 _ _ _ _ _ (hm2) fun _ => ?_); clear hK2 K2; (try simp (maxSteps := 10000000) (disch := first | omega | simp) [hne, htm, hget, hmod, hlt, hn0, hc2]))
                    | ((with_reducible refine sideSt' fun K2 hK2 => ?_); (try simp (maxSteps := 10000000) (disch := first | omega | simp) [hne, htm, hget, hmod, hlt, hn0, hc2]); refine hK2 _ ?_; clear hK2 K2; (try simp (maxSteps := 10000000) (disch := first | omega | simp) [hne, htm, hget, hmod, hlt, hn0, hc2]))
                    | ((with_reducible refine gdU ?_); (try simp (maxSteps := 10000000) (disch := first | omega | simp) [hne, htm, hget, hmod, hlt, hn0, hc2]))
                    | ((with_reducible refine sideQ' ?_ ?_ fun K2 hK2 => ?_); exact rfl; exact rfl; (try simp (maxSteps := 10000000) (disch := first | omega | simp) [hne, htm, hget, hmod, hlt, hn0, hc2]); with_reducible refine hK2 _ _ ?_; clear hK2 K2; (try simp (maxSteps := 10000000) (disch := first | omega | simp) [hne, htm, hget, hmod, hlt, hn0, hc2]))
                    | ((with_reducible refine side' ?_ fun K2 hK2 => ?_); exact rfl; (try simp (maxSteps := 10000000) (disch := first | omega | simp) [hne, htm, hget, hmod, hlt, hn0, hc2]); refine hK2 _ _ (by simp) ?_; clear hK2 K2; (try simp (maxSteps := 10000000) (disch := first | omega | simp) [hne, htm, hget, hmod, hlt, hn0, hc2]))) <;> clear hK K)
                | ((with_reducible refine awCond fun A B hA hB => ?_); simp (maxSteps := 10000000) (disch := first | omega | simp) [hne, htm, hget, hmod, hlt, hn0, hc2]; (first | refine ⟨fun h => hA ?_, fun h => hB ?_⟩ | refine hA ?_ | refine hB ?_) <;> (clear hA hB A B; (try (exfalso; omega))))
            (refine ⟨?_, id, ?_, Wk.ofA ?_⟩; assumption; rotate_left; focus (simp []; done))
            exact ⟨hf, .inr hid⟩
          · rw [if_neg (by omega)] at hf
            repeat' first
                | (with_reducible first | refine thN ?_ | refine thR ?_ | refine thE ?_ | refine inN ?_ | refine inR ?_ | refine inH ?_ | refine fF ?_ | refine fS ?_ | refine fR ?_ | refine fQ ?_ | refine fC ?_ | refine fB ?_ | refine fL ?_ | refine fE ?_ | refine fT ?_ | refine awBlock ?_ | refine awExit ?_ | refine awRet ?_ | refine awSkip ?_ | refine inM (by decide) ?_)
                | ((with_reducible refine awReg fun K hok hK => ?_); clear hok; (try simp (maxSteps := 10000000) (disch := first | omega | simp) [hne, htm, hget, hmod, hlt, hn0, hc2]); (repeat' first
                    | (with_reducible refine hK _ (by simp) ?_)
                    | ((with_reducible refine gdT (fun h => ?_) (fun h => ?_)) <;> (simp (maxSteps := 10000000) (disch := first | omega | simp) [h, hne, htm, hget, hmod, hlt, hn0, hc2]; (try simp at h); (try (exfalso; omega))))
                    | ((with_reducible refine gdF (fun h => ?_) (fun h => ?_)) <;> (simp (maxSteps := 10000000) (disch := first | omega | simp) [h, hne, htm, hget, hmod, hlt, hn0, hc2]; (try simp at h); (try (exfalso; omega))))
                    | ((with_reducible refine callS' fun K2 hK2 => ?_); (try simp (maxSteps := 10000000) (disch := first | omega | simp) [hne, htm, hget, hmod, hlt, hn0, hc2]); (first | (refine hK2 _ _ (hcn) rfl fun hk9 => ?_; clear hk9) | (refine hK2 _ _ (hm1) rfl fun hk9 => ?_; clear hk9) | (refine hK2 _ _ (hm2) rfl fun hk9 => ?_; clear hk9)); clear hK2 K2; (try simp (maxSteps := 10000000) (disch := first | omega | simp) [hne, htm, hget, hmod, hlt, hn0, hc2]))
                    | ((with_reducible refine callF' fun K2 hK2 => ?_); (try simp (maxSteps := 10000000) (disch := first | omega | simp) [hne, htm, hget, hmod, hlt, hn0, hc2]); (first | refine hK2 _ _ _ (hcn) fun _ => ?_ | refine hK2 _ _ _ (hm1) fun _ => ?_ | refine hK2 _ _ _ (hm2) fun _ => ?_); clear hK2 K2; (try simp (maxSteps := 10000000) (disch := first | omega | simp) [hne, htm, hget, hmod, hlt, hn0, hc2]))
                    | ((with_reducible refine sideS' fun K2 hK2 => ?_); (try simp (maxSteps := 10000000) (disch := first | omega | simp) [hne, htm, hget, hmod, hlt, hn0, hc2]); (first | refine hK2 _ _ (hcn) rfl ?_ | refine hK2 _ _ (hm1) rfl ?_ | refine hK2 _ _ (hm2) rfl ?_); clear hK2 K2; (try simp (maxSteps := 10000000) (disch := first | omega | simp) [hne, htm, hget, hmod, hlt, hn0, hc2]))
                    | ((with_reducible refine sideF' fun K2 hK2 => ?_); (try simp (maxSteps := 10000000) (disch := first | omega | simp) [hne, htm, hget, hmod, hlt, hn0, hc2]); (first | refine hK2 _ _ _ (hcn) (by simp) ?_ | refine hK2 _ _ _ (hm1) (by simp) ?_ | refine hK2 _ _ _ (hm2) (by simp) ?_); clear hK2 K2; (try simp (maxSteps := 10000000) (disch := first | omega | simp) [hne, htm, hget, hmod, hlt, hn0, hc2]))
                    | ((with_reducible refine callM' rfl fun K2 hK2 => ?_); (try simp (maxSteps := 10000000) (disch := first | omega | simp) [hne, htm, hget, hmod, hlt, hn0, hc2]); (first | refine hK2 _ _ _ _ _ _ _ (hcn) rfl fun _ _ => ?_ | refine hK2 _ _ _ _ _ _ _ (hm1) rfl fun _ _ => ?_ | refine hK2 _ _ _ _ _ _ _ (hm2) rfl fun _ _ => ?_); clear hK2 K2; (try simp (maxSteps := 10000000) (disch := first | omega | simp) [hne, htm, hget, hmod, hlt, hn0, hc2]))
                    | ((with_reducible refine callT' rfl fun K2 hK2 => ?_); (try simp (maxSteps := 10000000) (disch := first | omega | simp) [hne, htm, hget, hmod, hlt, hn0, hc2]); (first | refine hK2 _ _ _ _ _ (hcn) fun _ => ?_ | refine hK2 _ _ _ _ _ (hm1) fun _ => ?_ | refine hK2 _ _ _ _ _ (hm2) fun _ => ?_); clear hK2 K2; (try simp (maxSteps := 10000000) (disch := first | omega | simp) [hne, htm, hget, hmod, hlt, hn0, hc2]))
                    | ((with_reducible refine sideSt' fun K2 hK2 => ?_); (try simp (maxSteps := 10000000) (disch := first | omega | simp) [hne, htm, hget, hmod, hlt, hn0, hc2]); refine hK2 _ ?_; clear hK2 K2; (try simp (maxSteps := 10000000) (disch := first | omega | simp) [hne, htm, hget, hmod, hlt, hn0, hc2]))
                    | ((with_reducible refine gdU ?_); (try simp (maxSteps := 10000000) (disch := first | omega | simp) [hne, htm, hget, hmod, hlt, hn0, hc2]))
                    | ((with_reducible refine sideQ' ?_ ?_ fun K2 hK2 => ?_); exact rfl; exact rfl; (try simp (maxSteps := 10000000) (disch := first | omega | simp) [hne, htm, hget, hmod, hlt, hn0, hc2]); with_reducible refine hK2 _ _ ?_; clear hK2 K2; (try simp (maxSteps := 10000000) (disch := first | omega | simp) [hne, htm, hget, hmod, hlt, hn0, hc2]))
                    | ((with_reducible refine side' ?_ fun K2 hK2 => ?_); exact rfl; (try simp (maxSteps := 10000000) (disch := first | omega | simp) [hne, htm, hget, hmod, hlt, hn0, hc2]); refine hK2 _ _ (by simp) ?_; clear hK2 K2; (try simp (maxSteps := 10000000) (disch := first | omega | simp) [hne, htm, hget, hmod, hlt, hn0, hc2]))) <;> clear hK K)
                | ((with_reducible refine awCond fun A B hA hB => ?_); simp (maxSteps := 10000000) (disch := first | omega | simp) [hne, htm, hget, hmod, hlt, hn0, hc2]; (first | refine ⟨fun h => hA ?_, fun h => hB ?_⟩ | refine hA ?_ | refine hB ?_) <;> (clear hA hB A B; (try (exfalso; omega))))
            (refine ⟨?_, s, ?_, Wk.ofA ?_⟩; assumption; rotate_left; focus (simp []; done))
            exact ⟨hf, .inr hso⟩
    · have e : bestR m order at' out = s := by rw [drop_nil (by simp; omega)] at hf; exact hf.symm
      rw [e] at hs
      clear hf e
      repeat' first
          | (with_reducible first | refine thN ?_ | refine thR ?_ | refine thE ?_ | refine inN ?_ | refine inR ?_ | refine inH ?_ | refine fF ?_ | refine fS ?_ | refine fR ?_ | refine fQ ?_ | refine fC ?_ | refine fB ?_ | refine fL ?_ | refine fE ?_ | refine fT ?_ | refine awBlock ?_ | refine awExit ?_ | refine awRet ?_ | refine awSkip ?_ | refine inM (by decide) ?_)
          | ((with_reducible refine awReg fun K hok hK => ?_); clear hok; (try simp (maxSteps := 10000000) (disch := first | omega | simp) [hlt]); (repeat' first
              | (with_reducible refine hK _ (by simp) ?_)
              | ((with_reducible refine gdT (fun h => ?_) (fun h => ?_)) <;> (simp (maxSteps := 10000000) (disch := first | omega | simp) [h, hlt]; (try simp at h); (try (exfalso; omega))))
              | ((with_reducible refine gdF (fun h => ?_) (fun h => ?_)) <;> (simp (maxSteps := 10000000) (disch := first | omega | simp) [h, hlt]; (try simp at h); (try (exfalso; omega))))
              | ((with_reducible refine sideSt' fun K2 hK2 => ?_); (try simp (maxSteps := 10000000) (disch := first | omega | simp) [hlt]); refine hK2 _ ?_; clear hK2 K2; (try simp (maxSteps := 10000000) (disch := first | omega | simp) [hlt]))
              | ((with_reducible refine gdU ?_); (try simp (maxSteps := 10000000) (disch := first | omega | simp) [hlt]))
              | ((with_reducible refine sideQ' ?_ ?_ fun K2 hK2 => ?_); exact rfl; exact rfl; (try simp (maxSteps := 10000000) (disch := first | omega | simp) [hlt]); with_reducible refine hK2 _ _ ?_; clear hK2 K2; (try simp (maxSteps := 10000000) (disch := first | omega | simp) [hlt]))
              | ((with_reducible refine side' ?_ fun K2 hK2 => ?_); exact rfl; (try simp (maxSteps := 10000000) (disch := first | omega | simp) [hlt]); refine hK2 _ _ (by simp) ?_; clear hK2 K2; (try simp (maxSteps := 10000000) (disch := first | omega | simp) [hlt]))) <;> clear hK K)
          | ((with_reducible refine awCond fun A B hA hB => ?_); simp (maxSteps := 10000000) (disch := first | omega | simp) [hlt]; (first | refine ⟨fun h => hA ?_, fun h => hB ?_⟩ | refine hA ?_ | refine hB ?_) <;> (clear hA hB A B; (try (exfalso; omega))))
      (refine ⟨?_, out ++ [s], ?_, Wk.ofA ?_⟩; assumption; rotate_left; focus (simp []; done))
      exact ⟨hs, by simp [hlen]⟩
  · have e : oneR m order at' r = out := by rw [show r - j = 0 by omega] at hs; exact hs.symm
    clear hs
    have hlr : ¬ (out.length : Int) < r := by omega
    repeat' first
        | (with_reducible first | refine thN ?_ | refine thR ?_ | refine thE ?_ | refine inN ?_ | refine inR ?_ | refine inH ?_ | refine fF ?_ | refine fS ?_ | refine fR ?_ | refine fQ ?_ | refine fC ?_ | refine fB ?_ | refine fL ?_ | refine fE ?_ | refine fT ?_ | refine awBlock ?_ | refine awExit ?_ | refine awRet ?_ | refine awSkip ?_ | refine inM (by decide) ?_)
        | ((with_reducible refine awReg fun K hok hK => ?_); clear hok; (try simp (maxSteps := 10000000) (disch := first | omega | simp) [hlr]); (repeat' first
            | (with_reducible refine hK _ (by simp) ?_)
            | ((with_reducible refine gdT (fun h => ?_) (fun h => ?_)) <;> (simp (maxSteps := 10000000) (disch := first | omega | simp) [h, hlr]; (try simp at h); (try (exfalso; omega))))
            | ((with_reducible refine gdF (fun h => ?_) (fun h => ?_)) <;> (simp (maxSteps := 10000000) (disch := first | omega | simp) [h, hlr]; (try simp at h); (try (exfalso; omega))))
            | ((with_reducible refine sideSt' fun K2 hK2 => ?_); (try simp (maxSteps := 10000000) (disch := first | omega | simp) [hlr]); refine hK2 _ ?_; clear hK2 K2; (try simp (maxSteps := 10000000) (disch := first | omega | simp) [hlr]))
            | ((with_reducible refine gdU ?_); (try simp (maxSteps := 10000000) (disch := first | omega | simp) [hlr]))
            | ((with_reducible refine sideQ' ?_ ?_ fun K2 hK2 => ?_); exact rfl; exact rfl; (try simp (maxSteps := 10000000) (disch := first | omega | simp) [hlr]); with_reducible refine hK2 _ _ ?_; clear hK2 K2; (try simp (maxSteps := 10000000) (disch := first | omega | simp) [hlr]))
            | ((with_reducible refine side' ?_ fun K2 hK2 => ?_); exact rfl; (try simp (maxSteps := 10000000) (disch := first | omega | simp) [hlr]); refine hK2 _ _ (by simp) ?_; clear hK2 K2; (try simp (maxSteps := 10000000) (disch := first | omega | simp) [hlr]))) <;> clear hK K)
        | ((with_reducible refine awCond fun A B hA hB => ?_); simp (maxSteps := 10000000) (disch := first | omega | simp) [hlr]; (first | refine ⟨fun h => hA ?_, fun h => hB ?_⟩ | refine hA ?_ | refine hB ?_) <;> (clear hA hB A B; (try (exfalso; omega))))
    (refine aEnR (aRes [] fun K hK => ?_); simp (maxSteps := 10000000) (disch := first | omega | simp) [e]; refine hK _ ?_ (by simp); clear hK; first | done | (simp (maxSteps := 10000000) (disch := first | omega | simp) [e, *]; done) | (simp (maxSteps := 10000000) (disch := first | omega | simp) [e, *]; omega) | (simp_all [e]; done) | (simp_all [e]; omega))
theorem refAssign_ok (m : Image) (parts r start : Int) (hb : m.brokers.length ≤ 100) (hpos : ∀ id ∈ refOrder m, 0 < id) :
    ACall pg 16 [encM m, I parts, I r, I start] (.tup [.uq ((refAssign m (refOrder m) parts r start).1.map Li), I (refAssign m (refOrder m) parts r start).2]) := by
  refine s16.call mo (by simp) fun hxs => ?_
  clear hxs
  unfold c16
  have hro := refOrder_ok m hb
  have hol : (refOrder m).length ≤ 1000 := by
    have := refEnts_len m m.brokers []
    unfold refOrder refEnts
    rw [List.length_map]; simp at this; omega
  generalize hO : refOrder m = order at *
  by_cases h1 : parts < 1 ∨ 256 < parts
  · have e : refAssign m order parts r start = ([], 2) := by unfold refAssign; rw [if_pos h1]
    rw [e]
    by_cases h11 : parts < 1
    · repeat' first
          | (with_reducible first | refine thN ?_ | refine thR ?_ | refine thE ?_ | refine inN ?_ | refine inR ?_ | refine inH ?_ | refine fF ?_ | refine fS ?_ | refine fR ?_ | refine fQ ?_ | refine fC ?_ | refine fB ?_ | refine fL ?_ | refine fE ?_ | refine fT ?_ | refine awBlock ?_ | refine awExit ?_ | refine awRet ?_ | refine awSkip ?_ | refine inM (by decide) ?_)
          | ((with_reducible refine awReg fun K hok hK => ?_); clear hok; (try simp (maxSteps := 10000000) (disch := first | omega | simp) [h11]); (repeat' first
              | (with_reducible refine hK _ (by simp) ?_)
              | ((with_reducible refine gdT (fun h => ?_) (fun h => ?_)) <;> (simp (maxSteps := 10000000) (disch := first | omega | simp) [h, h11]; (try simp at h); (try (exfalso; omega))))
              | ((with_reducible refine gdF (fun h => ?_) (fun h => ?_)) <;> (simp (maxSteps := 10000000) (disch := first | omega | simp) [h, h11]; (try simp at h); (try (exfalso; omega))))
              | ((with_reducible refine callS' fun K2 hK2 => ?_); (try simp (maxSteps := 10000000) (disch := first | omega | simp) [h11]); (first | (refine hK2 _ _ (hro) rfl fun hk9 => ?_; clear hk9)); clear hK2 K2; (try simp (maxSteps := 10000000) (disch := first | omega | simp) [h11]))
              | ((with_reducible refine callF' fun K2 hK2 => ?_); (try simp (maxSteps := 10000000) (disch := first | omega | simp) [h11]); (first | refine hK2 _ _ _ (hro) fun _ => ?_); clear hK2 K2; (try simp (maxSteps := 10000000) (disch := first | omega | simp) [h11]))
              | ((with_reducible refine sideS' fun K2 hK2 => ?_); (try simp (maxSteps := 10000000) (disch := first | omega | simp) [h11]); (first | refine hK2 _ _ (hro) rfl ?_); clear hK2 K2; (try simp (maxSteps := 10000000) (disch := first | omega | simp) [h11]))
              | ((with_reducible refine sideF' fun K2 hK2 => ?_); (try simp (maxSteps := 10000000) (disch := first | omega | simp) [h11]); (first | refine hK2 _ _ _ (hro) (by simp) ?_); clear hK2 K2; (try simp (maxSteps := 10000000) (disch := first | omega | simp) [h11]))
              | ((with_reducible refine callM' rfl fun K2 hK2 => ?_); (try simp (maxSteps := 10000000) (disch := first | omega | simp) [h11]); (first | refine hK2 _ _ _ _ _ _ _ (hro) rfl fun _ _ => ?_); clear hK2 K2; (try simp (maxSteps := 10000000) (disch := first | omega | simp) [h11]))
              | ((with_reducible refine callT' rfl fun K2 hK2 => ?_); (try simp (maxSteps := 10000000) (disch := first | omega | simp) [h11]); (first | refine hK2 _ _ _ _ _ (hro) fun _ => ?_); clear hK2 K2; (try simp (maxSteps := 10000000) (disch := first | omega | simp) [h11]))
              | ((with_reducible refine sideSt' fun K2 hK2 => ?_); (try simp (maxSteps := 10000000) (disch := first | omega | simp) [h11]); refine hK2 _ ?_; clear hK2 K2; (try simp (maxSteps := 10000000) (disch := first | omega | simp) [h11]))
              | ((with_reducible refine gdU ?_); (try simp (maxSteps := 10000000) (disch := first | omega | simp) [h11]))
              | ((with_reducible refine sideQ' ?_ ?_ fun K2 hK2 => ?_); exact rfl; exact rfl; (try simp (maxSteps := 10000000) (disch := first | omega | simp) [h11]); with_reducible refine hK2 _ _ ?_; clear hK2 K2; (try simp (maxSteps := 10000000) (disch := first | omega | simp) [h11]))
              | ((with_reducible refine side' ?_ fun K2 hK2 => ?_); exact rfl; (try simp (maxSteps := 10000000) (disch := first | omega | simp) [h11]); refine hK2 _ _ (by simp) ?_; clear hK2 K2; (try simp (maxSteps := 10000000) (disch := first | omega | simp) [h11]))) <;> clear hK K)
          | ((with_reducible refine awCond fun A B hA hB => ?_); simp (maxSteps := 10000000) (disch := first | omega | simp) [h11]; (first | refine ⟨fun h => hA ?_, fun h => hB ?_⟩ | refine hA ?_ | refine hB ?_) <;> (clear hA hB A B; (try (exfalso; omega))))
      all_goals (refine aEnR (aRes [] fun K hK => ?_); simp (maxSteps := 10000000) (disch := first | omega | simp) []; refine hK _ ?_ (by simp); clear hK; first | done | (simp (maxSteps := 10000000) (disch := first | omega | simp) [*]; done) | (simp (maxSteps := 10000000) (disch := first | omega | simp) [*]; omega) | (simp_all []; done) | (simp_all []; omega))
    · have h12 : 256 < parts := by omega
      repeat' first
          | (with_reducible first | refine thN ?_ | refine thR ?_ | refine thE ?_ | refine inN ?_ | refine inR ?_ | refine inH ?_ | refine fF ?_ | refine fS ?_ | refine fR ?_ | refine fQ ?_ | refine fC ?_ | refine fB ?_ | refine fL ?_ | refine fE ?_ | refine fT ?_ | refine awBlock ?_ | refine awExit ?_ | refine awRet ?_ | refine awSkip ?_ | refine inM (by decide) ?_)
          | ((with_reducible refine awReg fun K hok hK => ?_); clear hok; (try simp (maxSteps := 10000000) (disch := first | omega | simp) [h11, h12]); (repeat' first
              | (with_reducible refine hK _ (by simp) ?_)
              | ((with_reducible refine gdT (fun h => ?_) (fun h => ?_)) <;> (simp (maxSteps := 10000000) (disch := first | omega | simp) [h, h11, h12]; (try simp at h); (try (exfalso; omega))))
              | ((with_reducible refine gdF (fun h => ?_) (fun h => ?_)) <;> (simp (maxSteps := 10000000) (disch := first | omega | simp) [h, h11, h12]; (try simp at h); (try (exfalso; omega))))
              | ((with_reducible refine callS' fun K2 hK2 => ?_); (try simp (maxSteps := 10000000) (disch := first | omega | simp) [h11, h12]); (first | (refine hK2 _ _ (hro) rfl fun hk9 => ?_; clear hk9)); clear hK2 K2; (try simp (maxSteps := 10000000) (disch := first | omega | simp) [h11, h12]))
              | ((with_reducible refine callF' fun K2 hK2 => ?_); (try simp (maxSteps := 10000000) (disch := first | omega | simp) [h11, h12]); (first | refine hK2 _ _ _ (hro) fun _ => ?_); clear hK2 K2; (try simp (maxSteps := 10000000) (disch := first | omega | simp) [h11, h12]))
              | ((with_reducible refine sideS' fun K2 hK2 => ?_); (try simp (maxSteps := 10000000) (disch := first | omega | simp) [h11, h12]); (first | refine hK2 _ _ (hro) rfl ?_); clear hK2 K2; (try simp (maxSteps := 10000000) (disch := first | omega | simp) [h11, h12]))
              | ((with_reducible refine sideF' fun K2 hK2 => ?_); (try simp (maxSteps := 10000000) (disch := first | omega | simp) [h11, h12]); (first | refine hK2 _ _ _ (hro) (by simp) ?_); clear hK2 K2; (try simp (maxSteps := 10000000) (disch := first | omega | simp) [h11, h12]))
              | ((with_reducible refine callM' rfl fun K2 hK2 => ?_); (try simp (maxSteps := 10000000) (disch := first | omega | simp) [h11, h12]); (first | refine hK2 _ _ _ _ _ _ _ (hro) rfl fun _ _ => ?_); clear hK2 K2; (try simp (maxSteps := 10000000) (disch := first | omega | simp) [h11, h12]))
              | ((with_reducible refine callT' rfl fun K2 hK2 => ?_); (try simp (maxSteps := 10000000) (disch := first | omega | simp) [h11, h12]); (first | refine hK2 _ _ _ _ _ (hro) fun _ => ?_); clear hK2 K2; (try simp (maxSteps := 10000000) (disch := first | omega | simp) [h11, h12]))
              | ((with_reducible refine sideSt' fun K2 hK2 => ?_); (try simp (maxSteps := 10000000) (disch := first | omega | simp) [h11, h12]); refine hK2 _ ?_; clear hK2 K2; (try simp (maxSteps := 10000000) (disch := first | omega | simp) [h11, h12]))
              | ((with_reducible refine gdU ?_); (try simp (maxSteps := 10000000) (disch := first | omega | simp) [h11, h12]))
              | ((with_reducible refine sideQ' ?_ ?_ fun K2 hK2 => ?_); exact rfl; exact rfl; (try simp (maxSteps := 10000000) (disch := first | omega | simp) [h11, h12]); with_reducible refine hK2 _ _ ?_; clear hK2 K2; (try simp (maxSteps := 10000000) (disch := first | omega | simp) [h11, h12]))
              | ((with_reducible refine side' ?_ fun K2 hK2 => ?_); exact rfl; (try simp (maxSteps := 10000000) (disch := first | omega | simp) [h11, h12]); refine hK2 _ _ (by simp) ?_; clear hK2 K2; (try simp (maxSteps := 10000000) (disch := first | omega | simp) [h11, h12]))) <;> clear hK K)
          | ((with_reducible refine awCond fun A B hA hB => ?_); simp (maxSteps := 10000000) (disch := first | omega | simp) [h11, h12]; (first | refine ⟨fun h => hA ?_, fun h => hB ?_⟩ | refine hA ?_ | refine hB ?_) <;> (clear hA hB A B; (try (exfalso; omega))))
      all_goals (refine aEnR (aRes [] fun K hK => ?_); simp (maxSteps := 10000000) (disch := first | omega | simp) []; refine hK _ ?_ (by simp); clear hK; first | done | (simp (maxSteps := 10000000) (disch := first | omega | simp) [*]; done) | (simp (maxSteps := 10000000) (disch := first | omega | simp) [*]; omega) | (simp_all []; done) | (simp_all []; omega))
  · obtain ⟨pn, hpn⟩ : ∃ pn : Nat, parts = pn := ⟨parts.toNat, by omega⟩
    subst hpn
    have h13 : ¬ ((pn : Int) < 1) := by omega
    have h14 : ¬ (256 < (pn : Int)) := by omega
    by_cases h2 : r < 1 ∨ 7 < r ∨ (order.length : Int) < r
    · have e : refAssign m order pn r start = ([], 18) := by unfold refAssign; rw [if_neg h1, if_pos h2]
      rw [e]
      by_cases h21 : r < 1
      · repeat' first
            | (with_reducible first | refine thN ?_ | refine thR ?_ | refine thE ?_ | refine inN ?_ | refine inR ?_ | refine inH ?_ | refine fF ?_ | refine fS ?_ | refine fR ?_ | refine fQ ?_ | refine fC ?_ | refine fB ?_ | refine fL ?_ | refine fE ?_ | refine fT ?_ | refine awBlock ?_ | refine awExit ?_ | refine awRet ?_ | refine awSkip ?_ | refine inM (by decide) ?_)
            | ((with_reducible refine awReg fun K hok hK => ?_); clear hok; (try simp (maxSteps := 10000000) (disch := first | omega | simp) [h13, h14, h21]); (repeat' first
                | (with_reducible refine hK _ (by simp) ?_)
                | ((with_reducible refine gdT (fun h => ?_) (fun h => ?_)) <;> (simp (maxSteps := 10000000) (disch := first | omega | simp) [h, h13, h14, h21]; (try simp at h); (try (exfalso; omega))))
                | ((with_reducible refine gdF (fun h => ?_) (fun h => ?_)) <;> (simp (maxSteps := 10000000) (disch := first | omega | simp) [h, h13, h14, h21]; (try simp at h); (try (exfalso; omega))))
                | ((with_reducible refine callS' fun K2 hK2 => ?_); (try simp (maxSteps := 10000000) (disch := first | omega | simp) [h13, h14, h21]); (first | (refine hK2 _ _ (hro) rfl fun hk9 => ?_; clear hk9)); clear hK2 K2; (try simp (maxSteps := 10000000) (disch := first | omega | simp) [h13, h14, h21]))
                | ((with_reducible refine callF' fun K2 hK2 => ?_); (try simp (maxSteps := 10000000) (disch := first | omega | simp) [h13, h14, h21]); (first | refine hK2 _ _ _ (hro) fun _ => ?_); clear hK2 K2; (try simp (maxSteps := 10000000) (disch := first | omega | simp) [h13, h14, h21]))
                | ((with_reducible refine sideS' fun K2 hK2 => ?_); (try simp (maxSteps := 10000000) (disch := first | omega | simp) [h13, h14, h21]); (first | refine hK2 _ _ (hro) rfl ?_); clear hK2 K2; (try simp (maxSteps := 10000000) (disch := first | omega | simp) [h13, h14, h21]))
                | ((with_reducible refine sideF' fun K2 hK2 => ?_); (try simp (maxSteps := 10000000) (disch := first | omega | simp) [h13, h14, h21]); (first | refine hK2 _ _ _ (hro) (by simp) ?_); clear hK2 K2; (try simp (maxSteps := 10000000) (disch := first | omega | simp) [h13, h14, h21]))
                | ((with_reducible refine callM' rfl fun K2 hK2 => ?_); (try simp (maxSteps := 10000000) (disch := first | omega | simp) [h13, h14, h21]); (first | refine hK2 _ _ _ _ _ _ _ (hro) rfl fun _ _ => ?_); clear hK2 K2; (try simp (maxSteps := 10000000) (disch := first | omega | simp) [h13, h14, h21]))
                | ((with_reducible refine callT' rfl fun K2 hK2 => ?_); (try simp (maxSteps := 10000000) (disch := first | omega | simp) [h13, h14, h21]); (first | refine hK2 _ _ _ _ _ (hro) fun _ => ?_); clear hK2 K2; (try simp (maxSteps := 10000000) (disch := first | omega | simp) [h13, h14, h21]))
                | ((with_reducible refine sideSt' fun K2 hK2 => ?_); (try simp (maxSteps := 10000000) (disch := first | omega | simp) [h13, h14, h21]); refine hK2 _ ?_; clear hK2 K2; (try simp (maxSteps := 10000000) (disch := first | omega | simp) [h13, h14, h21]))
                | ((with_reducible refine gdU ?_); (try simp (maxSteps := 10000000) (disch := first | omega | simp) [h13, h14, h21]))
                | ((with_reducible refine sideQ' ?_ ?_ fun K2 hK2 => ?_); exact rfl; exact rfl; (try simp (maxSteps := 10000000) (disch := first | omega | simp) [h13, h14, h21]); with_reducible refine hK2 _ _ ?_; clear hK2 K2; (try simp (maxSteps := 10000000) (disch := first | omega | simp) [h13, h14, h21]))
                | ((with_reducible refine side' ?_ fun K2 hK2 => ?_); exact rfl; (try simp (maxSteps := 10000000) (disch := first | omega | simp) [h13, h14, h21]); refine hK2 _ _ (by simp) ?_; clear hK2 K2; (try simp (maxSteps := 10000000) (disch := first | omega | simp) [h13, h14, h21]))) <;> clear hK K)
            | ((with_reducible refine awCond fun A B hA hB => ?_); simp (maxSteps := 10000000) (disch := first | omega | simp) [h13, h14, h21]; (first | refine ⟨fun h => hA ?_, fun h => hB ?_⟩ | refine hA ?_ | refine hB ?_) <;> (clear hA hB A B; (try (exfalso; omega))))
        all_goals (refine aEnR (aRes [] fun K hK => ?_); simp (maxSteps := 10000000) (disch := first | omega | simp) []; refine hK _ ?_ (by simp); clear hK; first | done | (simp (maxSteps := 10000000) (disch := first | omega | simp) [*]; done) | (simp (maxSteps := 10000000) (disch := first | omega | simp) [*]; omega) | (simp_all []; done) | (simp_all []; omega))
      · by_cases h22 : 7 < r
        · repeat' first
              | (with_reducible first | refine thN ?_ | refine thR ?_ | refine thE ?_ | refine inN ?_ | refine inR ?_ | refine inH ?_ | refine fF ?_ | refine fS ?_ | refine fR ?_ | refine fQ ?_ | refine fC ?_ | refine fB ?_ | refine fL ?_ | refine fE ?_ | refine fT ?_ | refine awBlock ?_ | refine awExit ?_ | refine awRet ?_ | refine awSkip ?_ | refine inM (by decide) ?_)
              | ((with_reducible refine awReg fun K hok hK => ?_); clear hok; (try simp (maxSteps := 10000000) (disch := first | omega | simp) [h13, h14, h21, h22]); (repeat' first
                  | (with_reducible refine hK _ (by simp) ?_)
                  | ((with_reducible refine gdT (fun h => ?_) (fun h => ?_)) <;> (simp (maxSteps := 10000000) (disch := first | omega | simp) [h, h13, h14, h21, h22]; (try simp at h); (try (exfalso; omega))))
                  | ((with_reducible refine gdF (fun h => ?_) (fun h => ?_)) <;> (simp (maxSteps := 10000000) (disch := first | omega | simp) [h, h13, h14, h21, h22]; (try simp at h); (try (exfalso; omega))))
                  | ((with_reducible refine callS' fun K2 hK2 => ?_); (try simp (maxSteps := 10000000) (disch := first | omega | simp) [h13, h14, h21, h22]); (first | (refine hK2 _ _ (hro) rfl fun hk9 => ?_; clear hk9)); clear hK2 K2; (try simp (maxSteps := 10000000) (disch := first | omega | simp) [h13, h14, h21, h22]))
                  | ((with_reducible refine callF' fun K2 hK2 => ?_); (try simp (maxSteps := 10000000) (disch := first | omega | simp) [h13, h14, h21, h22]); (first | refine hK2 _ _ _ (hro) fun _ => ?_); clear hK2 K2; (try simp (maxSteps := 10000000) (disch := first | omega | simp) [h13, h14, h21, h22]))
                  | ((with_reducible refine sideS' fun K2 hK2 => ?_); (try simp (maxSteps := 10000000) (disch := first | omega | simp) [h13, h14, h21, h22]); (first | refine hK2 _ _ (hro) rfl ?_); clear hK2 K2; (try simp (maxSteps := 10000000) (disch := first | omega | simp) [h13, h14, h21, h22]))
                  | ((with_reducible refine sideF' fun K2 hK2 => ?_); (try simp (maxSteps := 10000000) (disch := first | omega | simp) [h13, h14, h21, h22]); (first | refine hK2 _ _ _ (hro) (by simp) ?_); clear hK2 K2; (try simp (maxSteps := 10000000) (disch := first | omega | simp) [h13, h14, h21, h22]))
                  | ((with_reducible refine callM' rfl fun K2 hK2 => ?_); (try simp (maxSteps := 10000000) (disch := first | omega | simp) [h13, h14, h21, h22]); (first | refine hK2 _ _ _ _ _ _ _ (hro) rfl fun _ _ => ?_); clear hK2 K2; (try simp (maxSteps := 10000000) (disch := first | omega | simp) [h13, h14, h21, h22]))
                  | ((with_reducible refine callT' rfl fun K2 hK2 => ?_); (try simp (maxSteps := 10000000) (disch := first | omega | simp) [h13, h14, h21, h22]); (first | refine hK2 _ _ _ _ _ (hro) fun _ => ?_); clear hK2 K2; (try simp (maxSteps := 10000000) (disch := first | omega | simp) [h13, h14, h21, h22]))
                  | ((with_reducible refine sideSt' fun K2 hK2 => ?_); (try simp (maxSteps := 10000000) (disch := first | omega | simp) [h13, h14, h21, h22]); refine hK2 _ ?_; clear hK2 K2; (try simp (maxSteps := 10000000) (disch := first | omega | simp) [h13, h14, h21, h22]))
                  | ((with_reducible refine gdU ?_); (try simp (maxSteps := 10000000) (disch := first | omega | simp) [h13, h14, h21, h22]))
                  | ((with_reducible refine sideQ' ?_ ?_ fun K2 hK2 => ?_); exact rfl; exact rfl; (try simp (maxSteps := 10000000) (disch := first | omega | simp) [h13, h14, h21, h22]); with_reducible refine hK2 _ _ ?_; clear hK2 K2; (try simp (maxSteps := 10000000) (disch := first | omega | simp) [h13, h14, h21, h22]))
                  | ((with_reducible refine side' ?_ fun K2 hK2 => ?_); exact rfl; (try simp (maxSteps := 10000000) (disch := first | omega | simp) [h13, h14, h21, h22]); refine hK2 _ _ (by simp) ?_; clear hK2 K2; (try simp (maxSteps := 10000000) (disch := first | omega | simp) [h13, h14, h21, h22]))) <;> clear hK K)
              | ((with_reducible refine awCond fun A B hA hB => ?_); simp (maxSteps := 10000000) (disch := first | omega | simp) [h13, h14, h21, h22]; (first | refine ⟨fun h => hA ?_, fun h => hB ?_⟩ | refine hA ?_ | refine hB ?_) <;> (clear hA hB A B; (try (exfalso; omega))))
          all_goals (refine aEnR (aRes [] fun K hK => ?_); simp (maxSteps := 10000000) (disch := first | omega | simp) []; refine hK _ ?_ (by simp); clear hK; first | done | (simp (maxSteps := 10000000) (disch := first | omega | simp) [*]; done) | (simp (maxSteps := 10000000) (disch := first | omega | simp) [*]; omega) | (simp_all []; done) | (simp_all []; omega))
        · have h23 : (order.length : Int) < r := by omega
          repeat' first
              | (with_reducible first | refine thN ?_ | refine thR ?_ | refine thE ?_ | refine inN ?_ | refine inR ?_ | refine inH ?_ | refine fF ?_ | refine fS ?_ | refine fR ?_ | refine fQ ?_ | refine fC ?_ | refine fB ?_ | refine fL ?_ | refine fE ?_ | refine fT ?_ | refine awBlock ?_ | refine awExit ?_ | refine awRet ?_ | refine awSkip ?_ | refine inM (by decide) ?_)
              | ((with_reducible refine awReg fun K hok hK => ?_); clear hok; (try simp (maxSteps := 10000000) (disch := first | omega | simp) [h13, h14, h21, h22, h23]); (repeat' first
                  | (with_reducible refine hK _ (by simp) ?_)
                  | ((with_reducible refine gdT (fun h => ?_) (fun h => ?_)) <;> (simp (maxSteps := 10000000) (disch := first | omega | simp) [h, h13, h14, h21, h22, h23]; (try simp at h); (try (exfalso; omega))))
                  | ((with_reducible refine gdF (fun h => ?_) (fun h => ?_)) <;> (simp (maxSteps := 10000000) (disch := first | omega | simp) [h, h13, h14, h21, h22, h23]; (try simp at h); (try (exfalso; omega))))
                  | ((with_reducible refine callS' fun K2 hK2 => ?_); (try simp (maxSteps := 10000000) (disch := first | omega | simp) [h13, h14, h21, h22, h23]); (first | (refine hK2 _ _ (hro) rfl fun hk9 => ?_; clear hk9)); clear hK2 K2; (try simp (maxSteps := 10000000) (disch := first | omega | simp) [h13, h14, h21, h22, h23]))
                  | ((with_reducible refine callF' fun K2 hK2 => ?_); (try simp (maxSteps := 10000000) (disch := first | omega | simp) [h13, h14, h21, h22, h23]); (first | refine hK2 _ _ _ (hro) fun _ => ?_); clear hK2 K2; (try simp (maxSteps := 10000000) (disch := first | omega | simp) [h13, h14, h21, h22, h23]))
                  | ((with_reducible refine sideS' fun K2 hK2 => ?_); (try simp (maxSteps := 10000000) (disch := first | omega | simp) [h13, h14, h21, h22, h23]); (first | refine hK2 _ _ (hro) rfl ?_); clear hK2 K2; (try simp (maxSteps := 10000000) (disch := first | omega | simp) [h13, h14, h21, h22, h23]))
                  | ((with_reducible refine sideF' fun K2 hK2 => ?_); (try simp (maxSteps := 10000000) (disch := first | omega | simp) [h13, h14, h21, h22, h23]); (first | refine hK2 _ _ _ (hro) (by simp) ?_); clear hK2 K2; (try simp (maxSteps := 10000000) (disch := first | omega | simp) [h13, h14, h21, h22, h23]))
                  | ((with_reducible refine callM' rfl fun K2 hK2 => ?_); (try simp (maxSteps := 10000000) (disch := first | omega | simp) [h13, h14, h21, h22, h23]); (first | refine hK2 _ _ _ _ _ _ _ (hro) rfl fun _ _ => ?_); clear hK2 K2; (try simp (maxSteps := 10000000) (disch := first | omega | simp) [h13, h14, h21, h22, h23]))
                  | ((with_reducible refine callT' rfl fun K2 hK2 => ?_); (try simp (maxSteps := 10000000) (disch := first | omega | simp) [h13, h14, h21, h22, h23]); (first | refine hK2 _ _ _ _ _ (hro) fun _ => ?_); clear hK2 K2; (try simp (maxSteps := 10000000) (disch := first | omega | simp) [h13, h14, h21, h22, h23]))
                  | ((with_reducible refine sideSt' fun K2 hK2 => ?_); (try simp (maxSteps := 10000000) (disch := first | omega | simp) [h13, h14, h21, h22, h23]); refine hK2 _ ?_; clear hK2 K2; (try simp (maxSteps := 10000000) (disch := first | omega | simp) [h13, h14, h21, h22, h23]))
                  | ((with_reducible refine gdU ?_); (try simp (maxSteps := 10000000) (disch := first | omega | simp) [h13, h14, h21, h22, h23]))
                  | ((with_reducible refine sideQ' ?_ ?_ fun K2 hK2 => ?_); exact rfl; exact rfl; (try simp (maxSteps := 10000000) (disch := first | omega | simp) [h13, h14, h21, h22, h23]); with_reducible refine hK2 _ _ ?_; clear hK2 K2; (try simp (maxSteps := 10000000) (disch := first | omega | simp) [h13, h14, h21, h22, h23]))
                  | ((with_reducible refine side' ?_ fun K2 hK2 => ?_); exact rfl; (try simp (maxSteps := 10000000) (disch := first | omega | simp) [h13, h14, h21, h22, h23]); refine hK2 _ _ (by simp) ?_; clear hK2 K2; (try simp (maxSteps := 10000000) (disch := first | omega | simp) [h13, h14, h21, h22, h23]))) <;> clear hK K)
              | ((with_reducible refine awCond fun A B hA hB => ?_); simp (maxSteps := 10000000) (disch := first | omega | simp) [h13, h14, h21, h22, h23]; (first | refine ⟨fun h => hA ?_, fun h => hB ?_⟩ | refine hA ?_ | refine hB ?_) <;> (clear hA hB A B; (try (exfalso; omega))))
          all_goals (refine aEnR (aRes [] fun K hK => ?_); simp (maxSteps := 10000000) (disch := first | omega | simp) []; refine hK _ ?_ (by simp); clear hK; first | done | (simp (maxSteps := 10000000) (disch := first | omega | simp) [*]; done) | (simp (maxSteps := 10000000) (disch := first | omega | simp) [*]; omega) | (simp_all []; done) | (simp_all []; omega))
    · obtain ⟨rn, hrn⟩ : ∃ rn : Nat, r = rn := ⟨r.toNat, by omega⟩
      subst hrn
      have h24 : ¬ ((rn : Int) < 1) := by omega
      have h25 : ¬ (7 < (rn : Int)) := by omega
      have h26 : ¬ ((order.length : Int) < rn) := by omega
      by_cases h3 : start < 0 ∨ 1073741824 < start
      · have e : refAssign m order pn rn start = ([], 2) := by unfold refAssign; rw [if_neg h1, if_neg h2, if_pos h3]
        rw [e]
        by_cases h31 : start < 0
        · repeat' first
              | (with_reducible first | refine thN ?_ | refine thR ?_ | refine thE ?_ | refine inN ?_ | refine inR ?_ | refine inH ?_ | refine fF ?_ | refine fS ?_ | refine fR ?_ | refine fQ ?_ | refine fC ?_ | refine fB ?_ | refine fL ?_ | refine fE ?_ | refine fT ?_ | refine awBlock ?_ | refine awExit ?_ | refine awRet ?_ | refine awSkip ?_ | refine inM (by decide) ?_)
              | ((with_reducible refine awReg fun K hok hK => ?_); clear hok; (try simp (maxSteps := 10000000) (disch := first | omega | simp) [h13, h14, h24, h25, h26, h31]); (repeat' first
                  | (with_reducible refine hK _ (by simp) ?_)
                  | ((with_reducible refine gdT (fun h => ?_) (fun h => ?_)) <;> (simp (maxSteps := 10000000) (disch := first | omega | simp) [h, h13, h14, h24, h25, h26, h31]; (try simp at h); (try (exfalso; omega))))
                  | ((with_reducible refine gdF (fun h => ?_) (fun h => ?_)) <;> (simp (maxSteps := 10000000) (disch := first | omega | simp) [h, h13, h14, h24, h25, h26, h31]; (try simp at h); (try (exfalso; omega))))
                  | ((with_reducible refine callS' fun K2 hK2 => ?_); (try simp (maxSteps := 10000000) (disch := first | omega | simp) [h13, h14, h24, h25, h26, h31]); (first | (refine hK2 _ _ (hro) rfl fun hk9 => ?_; clear hk9)); clear hK2 K2; (try simp (maxSteps := 10000000) (disch := first | omega | simp) [h13, h14, h24, h25, h26, h31]))
                  | ((with_reducible refine callF' fun K2 hK2 => ?_); (try simp (maxSteps := 10000000) (disch := first | omega | simp) [h13, h14, h24, h25, h26, h31]); (first | refine hK2 _ _ _ (hro) fun _ => ?_); clear hK2 K2; (try simp (maxSteps := 10000000) (disch := first | omega | simp) [h13, h14, h24, h25, h26, h31]))
                  | ((with_reducible refine sideS' fun K2 hK2 => ?_); (try simp (maxSteps := 10000000) (disch := first | omega | simp) [h13, h14, h24, h25, h26, h31]); (first | refine hK2 _ _ (hro) rfl ?_); clear hK2 K2; (try simp (maxSteps := 10000000) (disch := first | omega | simp) [h13, h14, h24, h25, h26, h31]))
                  | ((with_reducible refine sideF' fun K2 hK2 => ?_); (try simp (maxSteps := 10000000) (disch := first | omega | simp) [h13, h14, h24, h25, h26, h31]); (first | refine hK2 _ _ _ (hro) (by simp) ?_); clear hK2 K2; (try simp (maxSteps := 10000000) (disch := first | omega | simp) [h13, h14, h24, h25, h26, h31]))
                  | ((with_reducible refine callM' rfl fun K2 hK2 => ?_); (try simp (maxSteps := 10000000) (disch := first | omega | simp) [h13, h14, h24, h25, h26, h31]); (first | refine hK2 _ _ _ _ _ _ _ (hro) rfl fun _ _ => ?_); clear hK2 K2; (try simp (maxSteps := 10000000) (disch := first | omega | simp) [h13, h14, h24, h25, h26, h31]))
                  | ((with_reducible refine callT' rfl fun K2 hK2 => ?_); (try simp (maxSteps := 10000000) (disch := first | omega | simp) [h13, h14, h24, h25, h26, h31]); (first | refine hK2 _ _ _ _ _ (hro) fun _ => ?_); clear hK2 K2; (try simp (maxSteps := 10000000) (disch := first | omega | simp) [h13, h14, h24, h25, h26, h31]))
                  | ((with_reducible refine sideSt' fun K2 hK2 => ?_); (try simp (maxSteps := 10000000) (disch := first | omega | simp) [h13, h14, h24, h25, h26, h31]); refine hK2 _ ?_; clear hK2 K2; (try simp (maxSteps := 10000000) (disch := first | omega | simp) [h13, h14, h24, h25, h26, h31]))
                  | ((with_reducible refine gdU ?_); (try simp (maxSteps := 10000000) (disch := first | omega | simp) [h13, h14, h24, h25, h26, h31]))
                  | ((with_reducible refine sideQ' ?_ ?_ fun K2 hK2 => ?_); exact rfl; exact rfl; (try simp (maxSteps := 10000000) (disch := first | omega | simp) [h13, h14, h24, h25, h26, h31]); with_reducible refine hK2 _ _ ?_; clear hK2 K2; (try simp (maxSteps := 10000000) (disch := first | omega | simp) [h13, h14, h24, h25, h26, h31]))
                  | ((with_reducible refine side' ?_ fun K2 hK2 => ?_); exact rfl; (try simp (maxSteps := 10000000) (disch := first | omega | simp) [h13, h14, h24, h25, h26, h31]); refine hK2 _ _ (by simp) ?_; clear hK2 K2; (try simp (maxSteps := 10000000) (disch := first | omega | simp) [h13, h14, h24, h25, h26, h31]))) <;> clear hK K)
              | ((with_reducible refine awCond fun A B hA hB => ?_); simp (maxSteps := 10000000) (disch := first | omega | simp) [h13, h14, h24, h25, h26, h31]; (first | refine ⟨fun h => hA ?_, fun h => hB ?_⟩ | refine hA ?_ | refine hB ?_) <;> (clear hA hB A B; (try (exfalso; omega))))
          all_goals (refine aEnR (aRes [] fun K hK => ?_); simp (maxSteps := 10000000) (disch := first | omega | simp) []; refine hK _ ?_ (by simp); clear hK; first | done | (simp (maxSteps := 10000000) (disch := first | omega | simp) [*]; done) | (simp (maxSteps := 10000000) (disch := first | omega | simp) [*]; omega) | (simp_all []; done) | (simp_all []; omega))
        · have h32 : 1073741824 < start := by omega
          repeat' first
              | (with_reducible first | refine thN ?_ | refine thR ?_ | refine thE ?_ | refine inN ?_ | refine inR ?_ | refine inH ?_ | refine fF ?_ | refine fS ?_ | refine fR ?_ | refine fQ ?_ | refine fC ?_ | refine fB ?_ | refine fL ?_ | refine fE ?_ | refine fT ?_ | refine awBlock ?_ | refine awExit ?_ | refine awRet ?_ | refine awSkip ?_ | refine inM (by decide) ?_)
              | ((with_reducible refine awReg fun K hok hK => ?_); clear hok; (try simp (maxSteps := 10000000) (disch := first | omega | simp) [h13, h14, h24, h25, h26, h31, h32]); (repeat' first
                  | (with_reducible refine hK _ (by simp) ?_)
                  | ((with_reducible refine gdT (fun h => ?_) (fun h => ?_)) <;> (simp (maxSteps := 10000000) (disch := first | omega | simp) [h, h13, h14, h24, h25, h26, h31, h32]; (try simp at h); (try (exfalso; omega))))
                  | ((with_reducible refine gdF (fun h => ?_) (fun h => ?_)) <;> (simp (maxSteps := 10000000) (disch := first | omega | simp) [h, h13, h14, h24, h25, h26, h31, h32]; (try simp at h); (try (exfalso; omega))))
                  | ((with_reducible refine callS' fun K2 hK2 => ?_); (try simp (maxSteps := 10000000) (disch := first | omega | simp) [h13, h14, h24, h25, h26, h31, h32]); (first | (refine hK2 _ _ (hro) rfl fun hk9 => ?_; clear hk9)); clear hK2 K2; (try simp (maxSteps := 10000000) (disch := first | omega | simp) [h13, h14, h24, h25, h26, h31, h32]))
                  | ((with_reducible refine callF' fun K2 hK2 => ?_); (try simp (maxSteps := 10000000) (disch := first | omega | simp) [h13, h14, h24, h25, h26, h31, h32]); (first | refine hK2 _ _ _ (hro) fun _ => ?_); clear hK2 K2; (try simp (maxSteps := 10000000) (disch := first | omega | simp) [h13, h14, h24, h25, h26, h31, h32]))
                  | ((with_reducible refine sideS' fun K2 hK2 => ?_); (try simp (maxSteps := 10000000) (disch := first | omega | simp) [h13, h14, h24, h25, h26, h31, h32]); (first | refine hK2 _ _ (hro) rfl ?_); clear hK2 K2; (try simp (maxSteps := 10000000) (disch := first | omega | simp) [h13, h14, h24, h25, h26, h31, h32]))
                  | ((with_reducible refine sideF' fun K2 hK2 => ?_); (try simp (maxSteps := 10000000) (disch := first | omega | simp) [h13, h14, h24, h25, h26, h31, h32]); (first | refine hK2 _ _ _ (hro) (by simp) ?_); clear hK2 K2; (try simp (maxSteps := 10000000) (disch := first | omega | simp) [h13, h14, h24, h25, h26, h31, h32]))
                  | ((with_reducible refine callM' rfl fun K2 hK2 => ?_); (try simp (maxSteps := 10000000) (disch := first | omega | simp) [h13, h14, h24, h25, h26, h31, h32]); (first | refine hK2 _ _ _ _ _ _ _ (hro) rfl fun _ _ => ?_); clear hK2 K2; (try simp (maxSteps := 10000000) (disch := first | omega | simp) [h13, h14, h24, h25, h26, h31, h32]))
                  | ((with_reducible refine callT' rfl fun K2 hK2 => ?_); (try simp (maxSteps := 10000000) (disch := first | omega | simp) [h13, h14, h24, h25, h26, h31, h32]); (first | refine hK2 _ _ _ _ _ (hro) fun _ => ?_); clear hK2 K2; (try simp (maxSteps := 10000000) (disch := first | omega | simp) [h13, h14, h24, h25, h26, h31, h32]))
                  | ((with_reducible refine sideSt' fun K2 hK2 => ?_); (try simp (maxSteps := 10000000) (disch := first | omega | simp) [h13, h14, h24, h25, h26, h31, h32]); refine hK2 _ ?_; clear hK2 K2; (try simp (maxSteps := 10000000) (disch := first | omega | simp) [h13, h14, h24, h25, h26, h31, h32]))
                  | ((with_reducible refine gdU ?_); (try simp (maxSteps := 10000000) (disch := first | omega | simp) [h13, h14, h24, h25, h26, h31, h32]))
                  | ((with_reducible refine sideQ' ?_ ?_ fun K2 hK2 => ?_); exact rfl; exact rfl; (try simp (maxSteps := 10000000) (disch := first | omega | simp) [h13, h14, h24, h25, h26, h31, h32]); with_reducible refine hK2 _ _ ?_; clear hK2 K2; (try simp (maxSteps := 10000000) (disch := first | omega | simp) [h13, h14, h24, h25, h26, h31, h32]))
                  | ((with_reducible refine side' ?_ fun K2 hK2 => ?_); exact rfl; (try simp (maxSteps := 10000000) (disch := first | omega | simp) [h13, h14, h24, h25, h26, h31, h32]); refine hK2 _ _ (by simp) ?_; clear hK2 K2; (try simp (maxSteps := 10000000) (disch := first | omega | simp) [h13, h14, h24, h25, h26, h31, h32]))) <;> clear hK K)
              | ((with_reducible refine awCond fun A B hA hB => ?_); simp (maxSteps := 10000000) (disch := first | omega | simp) [h13, h14, h24, h25, h26, h31, h32]; (first | refine ⟨fun h => hA ?_, fun h => hB ?_⟩ | refine hA ?_ | refine hB ?_) <;> (clear hA hB A B; (try (exfalso; omega))))
          all_goals (refine aEnR (aRes [] fun K hK => ?_); simp (maxSteps := 10000000) (disch := first | omega | simp) []; refine hK _ ?_ (by simp); clear hK; first | done | (simp (maxSteps := 10000000) (disch := first | omega | simp) [*]; done) | (simp (maxSteps := 10000000) (disch := first | omega | simp) [*]; omega) | (simp_all []; done) | (simp_all []; omega))
      · obtain ⟨sn, hsn⟩ : ∃ sn : Nat, start = sn := ⟨start.toNat, by omega⟩
        subst hsn
        have h33 : ¬ ((sn : Int) < 0) := by omega
        have h34 : ¬ (1073741824 < (sn : Int)) := by omega
        have e : refAssign m order pn rn sn = (rowsR m order sn rn pn, 0) := by unfold refAssign; rw [if_neg h1, if_neg h2, if_neg h3]; simp
        rw [e]
        clear e h1 h2 h3
        repeat' first
            | (with_reducible first | refine thN ?_ | refine thR ?_ | refine thE ?_ | refine inN ?_ | refine inR ?_ | refine inH ?_ | refine fF ?_ | refine fS ?_ | refine fR ?_ | refine fQ ?_ | refine fC ?_ | refine fB ?_ | refine fL ?_ | refine fE ?_ | refine fT ?_ | refine awBlock ?_ | refine awExit ?_ | refine awRet ?_ | refine awSkip ?_ | refine inM (by decide) ?_)
            | ((with_reducible refine awReg fun K hok hK => ?_); clear hok; (try simp (maxSteps := 10000000) (disch := first | omega | simp) [h13, h14, h24, h25, h26, h33, h34]); (repeat' first
                | (with_reducible refine hK _ (by simp) ?_)
                | ((with_reducible refine gdT (fun h => ?_) (fun h => ?_)) <;> (simp (maxSteps := 10000000) (disch := first | omega | simp) [h, h13, h14, h24, h25, h26, h33, h34]; (try simp at h); (try (exfalso; omega))))
                | ((with_reducible refine gdF (fun h => ?_) (fun h => ?_)) <;> (simp (maxSteps := 10000000) (disch := first | omega | simp) [h, h13, h14, h24, h25, h26, h33, h34]; (try simp at h); (try (exfalso; omega))))
                | ((with_reducible refine callS' fun K2 hK2 => ?_); (try simp (maxSteps := 10000000) (disch := first | omega | simp) [h13, h14, h24, h25, h26, h33, h34]); (first | (refine hK2 _ _ (hro) rfl fun hk9 => ?_; clear hk9)); clear hK2 K2; (try simp (maxSteps := 10000000) (disch := first | omega | simp) [h13, h14, h24, h25, h26, h33, h34]))
                | ((with_reducible refine callF' fun K2 hK2 => ?_); (try simp (maxSteps := 10000000) (disch := first | omega | simp) [h13, h14, h24, h25, h26, h33, h34]); (first | refine hK2 _ _ _ (hro) fun _ => ?_); clear hK2 K2; (try simp (maxSteps := 10000000) (disch := first | omega | simp) [h13, h14, h24, h25, h26, h33, h34]))
                | ((with_reducible refine sideS' fun K2 hK2 => ?_); (try simp (maxSteps := 10000000) (disch := first | omega | simp) [h13, h14, h24, h25, h26, h33, h34]); (first | refine hK2 _ _ (hro) rfl ?_); clear hK2 K2; (try simp (maxSteps := 10000000) (disch := first | omega | simp) [h13, h14, h24, h25, h26, h33, h34]))
                | ((with_reducible refine sideF' fun K2 hK2 => ?_); (try simp (maxSteps := 10000000) (disch := first | omega | simp) [h13, h14, h24, h25, h26, h33, h34]); (first | refine hK2 _ _ _ (hro) (by simp) ?_); clear hK2 K2; (try simp (maxSteps := 10000000) (disch := first | omega | simp) [h13, h14, h24, h25, h26, h33, h34]))
                | ((with_reducible refine callM' rfl fun K2 hK2 => ?_); (try simp (maxSteps := 10000000) (disch := first | omega | simp) [h13, h14, h24, h25, h26, h33, h34]); (first | refine hK2 _ _ _ _ _ _ _ (hro) rfl fun _ _ => ?_); clear hK2 K2; (try simp (maxSteps := 10000000) (disch := first | omega | simp) [h13, h14, h24, h25, h26, h33, h34]))
                | ((with_reducible refine callT' rfl fun K2 hK2 => ?_); (try simp (maxSteps := 10000000) (disch := first | omega | simp) [h13, h14, h24, h25, h26, h33, h34]); (first | refine hK2 _ _ _ _ _ (hro) fun _ => ?_); clear hK2 K2; (try simp (maxSteps := 10000000) (disch := first | omega | simp) [h13, h14, h24, h25, h26, h33, h34]))
                | ((with_reducible refine sideSt' fun K2 hK2 => ?_); (try simp (maxSteps := 10000000) (disch := first | omega | simp) [h13, h14, h24, h25, h26, h33, h34]); refine hK2 _ ?_; clear hK2 K2; (try simp (maxSteps := 10000000) (disch := first | omega | simp) [h13, h14, h24, h25, h26, h33, h34]))
                | ((with_reducible refine gdU ?_); (try simp (maxSteps := 10000000) (disch := first | omega | simp) [h13, h14, h24, h25, h26, h33, h34]))
                | ((with_reducible refine sideQ' ?_ ?_ fun K2 hK2 => ?_); exact rfl; exact rfl; (try simp (maxSteps := 10000000) (disch := first | omega | simp) [h13, h14, h24, h25, h26, h33, h34]); with_reducible refine hK2 _ _ ?_; clear hK2 K2; (try simp (maxSteps := 10000000) (disch := first | omega | simp) [h13, h14, h24, h25, h26, h33, h34]))
                | ((with_reducible refine side' ?_ fun K2 hK2 => ?_); exact rfl; (try simp (maxSteps := 10000000) (disch := first | omega | simp) [h13, h14, h24, h25, h26, h33, h34]); refine hK2 _ _ (by simp) ?_; clear hK2 K2; (try simp (maxSteps := 10000000) (disch := first | omega | simp) [h13, h14, h24, h25, h26, h33, h34]))) <;> clear hK K)
            | ((with_reducible refine awCond fun A B hA hB => ?_); simp (maxSteps := 10000000) (disch := first | omega | simp) [h13, h14, h24, h25, h26, h33, h34]; (first | refine ⟨fun h => hA ?_, fun h => hB ?_⟩ | refine hA ?_ | refine hB ?_) <;> (clear hA hB A B; (try (exfalso; omega))))
        refine awFor pn (fun p (out : List (List Int)) => out ++ ((List.range pn).drop p).map (fun p => oneR m order (sn + p) rn) = rowsR m order sn rn pn ∧ out.length = p)
          (fun p out => [(12, .p (I p)), (11, .p (.uq (out.map Li))), (10, .p (.sl (order.map I))), (4, .p (.own (encM m).cells)), (3, .p (I sn)), (2, .p (I rn)), (1, .p (I pn))]) []
          ((Wk.frz0 (r := 10) rfl).trans (Wk.ofA (by simp))) ⟨by simp [rowsR], by simp⟩ fun p out hp hs => ?_
        obtain ⟨hs, hol2⟩ := hs
        by_cases hlt : p < pn
        · rw [drop_cons (show p < (List.range pn).length by simpa using hlt)] at hs
          simp only [List.getElem_range, List.map_cons] at hs
          have hone := refOne_ok m order (sn + p) rn hol (by omega) hpos (by omega)
          repeat' first
              | (with_reducible first | refine thN ?_ | refine thR ?_ | refine thE ?_ | refine inN ?_ | refine inR ?_ | refine inH ?_ | refine fF ?_ | refine fS ?_ | refine fR ?_ | refine fQ ?_ | refine fC ?_ | refine fB ?_ | refine fL ?_ | refine fE ?_ | refine fT ?_ | refine awBlock ?_ | refine awExit ?_ | refine awRet ?_ | refine awSkip ?_ | refine inM (by decide) ?_)
              | ((with_reducible refine awReg fun K hok hK => ?_); clear hok; (try simp (maxSteps := 10000000) (disch := first | omega | simp) [hlt]); (repeat' first
                  | (with_reducible refine hK _ (by simp) ?_)
                  | ((with_reducible refine gdT (fun h => ?_) (fun h => ?_)) <;> (simp (maxSteps := 10000000) (disch := first | omega | simp) [h, hlt]; (try simp at h); (try (exfalso; omega))))
                  | ((with_reducible refine gdF (fun h => ?_) (fun h => ?_)) <;> (simp (maxSteps := 10000000) (disch := first | omega | simp) [h, hlt]; (try simp at h); (try (exfalso; omega))))
                  | ((with_reducible refine callS' fun K2 hK2 => ?_); (try simp (maxSteps := 10000000) (disch := first | omega | simp) [hlt]); (first | (refine hK2 _ _ (hone) rfl fun hk9 => ?_; clear hk9)); clear hK2 K2; (try simp (maxSteps := 10000000) (disch := first | omega | simp) [hlt]))
                  | ((with_reducible refine callF' fun K2 hK2 => ?_); (try simp (maxSteps := 10000000) (disch := first | omega | simp) [hlt]); (first | refine hK2 _ _ _ (hone) fun _ => ?_); clear hK2 K2; (try simp (maxSteps := 10000000) (disch := first | omega | simp) [hlt]))
                  | ((with_reducible refine sideS' fun K2 hK2 => ?_); (try simp (maxSteps := 10000000) (disch := first | omega | simp) [hlt]); (first | refine hK2 _ _ (hone) rfl ?_); clear hK2 K2; (try simp (maxSteps := 10000000) (disch := first | omega | simp) [hlt]))
                  | ((with_reducible refine sideF' fun K2 hK2 => ?_); (try simp (maxSteps := 10000000) (disch := first | omega | simp) [hlt]); (first | refine hK2 _ _ _ (hone) (by simp) ?_); clear hK2 K2; (try simp (maxSteps := 10000000) (disch := first | omega | simp) [hlt]))
                  | ((with_reducible refine callM' rfl fun K2 hK2 => ?_); (try simp (maxSteps := 10000000) (disch := first | omega | simp) [hlt]); (first | refine hK2 _ _ _ _ _ _ _ (hone) rfl fun _ _ => ?_); clear hK2 K2; (try simp (maxSteps := 10000000) (disch := first | omega | simp) [hlt]))
                  | ((with_reducible refine callT' rfl fun K2 hK2 => ?_); (try simp (maxSteps := 10000000) (disch := first | omega | simp) [hlt]); (first | refine hK2 _ _ _ _ _ (hone) fun _ => ?_); clear hK2 K2; (try simp (maxSteps := 10000000) (disch := first | omega | simp) [hlt]))
                  | ((with_reducible refine sideSt' fun K2 hK2 => ?_); (try simp (maxSteps := 10000000) (disch := first | omega | simp) [hlt]); refine hK2 _ ?_; clear hK2 K2; (try simp (maxSteps := 10000000) (disch := first | omega | simp) [hlt]))
                  | ((with_reducible refine gdU ?_); (try simp (maxSteps := 10000000) (disch := first | omega | simp) [hlt]))
                  | ((with_reducible refine sideQ' ?_ ?_ fun K2 hK2 => ?_); exact rfl; exact rfl; (try simp (maxSteps := 10000000) (disch := first | omega | simp) [hlt]); with_reducible refine hK2 _ _ ?_; clear hK2 K2; (try simp (maxSteps := 10000000) (disch := first | omega | simp) [hlt]))
                  | ((with_reducible refine side' ?_ fun K2 hK2 => ?_); exact rfl; (try simp (maxSteps := 10000000) (disch := first | omega | simp) [hlt]); refine hK2 _ _ (by simp) ?_; clear hK2 K2; (try simp (maxSteps := 10000000) (disch := first | omega | simp) [hlt]))) <;> clear hK K)
              | ((with_reducible refine awCond fun A B hA hB => ?_); simp (maxSteps := 10000000) (disch := first | omega | simp) [hlt]; (first | refine ⟨fun h => hA ?_, fun h => hB ?_⟩ | refine hA ?_ | refine hB ?_) <;> (clear hA hB A B; (try (exfalso; omega))))
          (refine ⟨?_, out ++ [oneR m order (sn + p) rn], ?_, Wk.ofA ?_⟩; assumption; rotate_left; focus (simp []; done))
          exact ⟨by simpa using hs, by simp [hol2]⟩
        · have e : rowsR m order sn rn pn = out := by rw [drop_nil (by simp; omega)] at hs; simpa using hs.symm
          rw [e]
          clear hs e
          repeat' first
              | (with_reducible first | refine thN ?_ | refine thR ?_ | refine thE ?_ | refine inN ?_ | refine inR ?_ | refine inH ?_ | refine fF ?_ | refine fS ?_ | refine fR ?_ | refine fQ ?_ | refine fC ?_ | refine fB ?_ | refine fL ?_ | refine fE ?_ | refine fT ?_ | refine awBlock ?_ | refine awExit ?_ | refine awRet ?_ | refine awSkip ?_ | refine inM (by decide) ?_)
              | ((with_reducible refine awReg fun K hok hK => ?_); clear hok; (try simp (maxSteps := 10000000) (disch := first | omega | simp) [hlt]); (repeat' first
                  | (with_reducible refine hK _ (by simp) ?_)
                  | ((with_reducible refine gdT (fun h => ?_) (fun h => ?_)) <;> (simp (maxSteps := 10000000) (disch := first | omega | simp) [h, hlt]; (try simp at h); (try (exfalso; omega))))
                  | ((with_reducible refine gdF (fun h => ?_) (fun h => ?_)) <;> (simp (maxSteps := 10000000) (disch := first | omega | simp) [h, hlt]; (try simp at h); (try (exfalso; omega))))
                  | ((with_reducible refine sideSt' fun K2 hK2 => ?_); (try simp (maxSteps := 10000000) (disch := first | omega | simp) [hlt]); refine hK2 _ ?_; clear hK2 K2; (try simp (maxSteps := 10000000) (disch := first | omega | simp) [hlt]))
                  | ((with_reducible refine gdU ?_); (try simp (maxSteps := 10000000) (disch := first | omega | simp) [hlt]))
                  | ((with_reducible refine sideQ' ?_ ?_ fun K2 hK2 => ?_); exact rfl; exact rfl; (try simp (maxSteps := 10000000) (disch := first | omega | simp) [hlt]); with_reducible refine hK2 _ _ ?_; clear hK2 K2; (try simp (maxSteps := 10000000) (disch := first | omega | simp) [hlt]))
                  | ((with_reducible refine side' ?_ fun K2 hK2 => ?_); exact rfl; (try simp (maxSteps := 10000000) (disch := first | omega | simp) [hlt]); refine hK2 _ _ (by simp) ?_; clear hK2 K2; (try simp (maxSteps := 10000000) (disch := first | omega | simp) [hlt]))) <;> clear hK K)
              | ((with_reducible refine awCond fun A B hA hB => ?_); simp (maxSteps := 10000000) (disch := first | omega | simp) [hlt]; (first | refine ⟨fun h => hA ?_, fun h => hB ?_⟩ | refine hA ?_ | refine hB ?_) <;> (clear hA hB A B; (try (exfalso; omega))))
          (refine aEnR (aRes [] fun K hK => ?_); simp (maxSteps := 10000000) (disch := first | omega | simp) []; refine hK _ ?_ (by simp); clear hK; first | done | (simp (maxSteps := 10000000) (disch := first | omega | simp) [*]; done) | (simp (maxSteps := 10000000) (disch := first | omega | simp) [*]; omega) | (simp_all []; done) | (simp_all []; omega))
end
end Go.Am
