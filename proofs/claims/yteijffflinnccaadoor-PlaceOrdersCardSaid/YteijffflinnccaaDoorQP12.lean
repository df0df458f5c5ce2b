/- Part of the proof of a law of placing. -/
import Derived.Test.YteijffflinnccaaDoorQED
import Derived.Test.YteijffflinnccaaDoorQP6j
import Derived.Test.YteijffflinnccaaDoorQP7
import Derived.Test.YteijffflinnccaaDoorQP8
set_option linter.all false
set_option maxRecDepth 100000
set_option maxHeartbeats 0
namespace Go.Am
open Go
noncomputable section
def c17 : SC := (.seq (.reg [⟨some 0, .assign (.const (.slice none 0 0)), none, []⟩] []) (.seq (.reg [⟨some 1, .build 34 #[(0, .const (.int .i64 1)), (2, .const (.string ⟨#[97]⟩))], none, []⟩,
  ⟨some 2, .build 34 #[(0, .const (.int .i64 2)), (2, .const (.string ⟨#[97]⟩))], none, []⟩,
  ⟨some 3, .build 34 #[(0, .const (.int .i64 3)), (2, .const (.string ⟨#[98]⟩))], none, []⟩,
  ⟨some 4, .build 34 #[(0, .const (.int .i64 4)), (2, .const (.string ⟨#[98]⟩))], none, []⟩,
  ⟨some 5, .build 34 #[(0, .const (.int .i64 5)), (2, .const (.string ⟨#[99]⟩))], none, []⟩,
  ⟨some 6, .buildSlice 25 5 #[(0, .tmp 1), (1, .tmp 2), (2, .tmp 3), (3, .tmp 4), (4, .tmp 5)], none, []⟩,
  ⟨some 0, .assign (.tmp 6), none, []⟩] [0, 6]) .ret))
theorem s17 : TextK Proofs.Tryd.prog 0 17 7 [ResultVar.tmp 0] c17 := .mk' Proofs.Tryd.f17 _ (by kernel_rfl) rfl rfl rfl (by kernel_rfl) rfl (by kernel_rfl)
def c5 : SC := (.seq (.reg [⟨some 0, .assign (.const (.bool false)), none, []⟩] []) (.seq (.reg [⟨some 6, .call { callee := .value (.func 17), args := #[], argTypes := #[] }, none, []⟩,
  ⟨some 7, .build 30 #[(0, .tmp 6)], none, []⟩,
  ⟨some 1, .alloc 30, none, []⟩,
  ⟨none, .store 30 (.tmp 1) (.tmp 7), none, []⟩] [1]) (.seq (.reg [⟨some 9, .load 30 (.tmp 1), none, []⟩,
  ⟨some 10, .call { callee := .value (.func 15), args := #[.tmp 9, .const (.int .i64 2), .const (.int .i64 3), .const (.int .i64 0)], argTypes := #[30, 3, 3, 3] }, none, []⟩,
  ⟨some 8, .move (.tmp 10), none, []⟩,
  ⟨some 11, .extract (.tmp 8) 0, none, []⟩,
  ⟨some 12, .extract (.tmp 8) 1, none, []⟩,
  ⟨some 2, .assign (.tmp 11), none, []⟩,
  ⟨some 3, .assign (.tmp 12), none, []⟩] [1, 2, 3, 8, 10, 11, 12]) (.seq (.reg [⟨some 14, .load 30 (.tmp 1), none, []⟩,
  ⟨some 15, .call { callee := .value (.func 15), args := #[.tmp 14, .const (.int .i64 1), .const (.int .i64 6), .const (.int .i64 0)], argTypes := #[30, 3, 3, 3] }, none, []⟩,
  ⟨some 13, .move (.tmp 15), none, []⟩,
  ⟨some 16, .extract (.tmp 13) 0, none, []⟩,
  ⟨some 17, .extract (.tmp 13) 1, none, []⟩,
  ⟨some 4, .assign (.tmp 16), none, []⟩,
  ⟨some 5, .assign (.tmp 17), none, []⟩] [1, 2, 3, 5, 8, 10, 11, 12, 13, 15, 17]) (.seq (.reg [⟨some 18, .load 30 (.tmp 1), none, []⟩,
  ⟨some 19, .call { callee := .value (.func 10), args := #[.tmp 18], argTypes := #[30] }, none, []⟩,
  ⟨some 20, .buildSlice 23 5 #[(0, .const (.int .i64 1)), (1, .const (.int .i64 3)), (2, .const (.int .i64 5)), (3, .const (.int .i64 2)), (4, .const (.int .i64 4))], none, []⟩,
  ⟨some 21, .call { callee := .value (.func 9), args := #[.tmp 19, .tmp 20], argTypes := #[23, 23] }, none, []⟩,
  ⟨some 22, .move (.tmp 21), none, []⟩,
  ⟨some 23, .move (.tmp 3), (some (22, true)), []⟩,
  ⟨some 24, .binOp .eql 40 (.tmp 23) (.const .nilIface) 40, (some (22, true)), []⟩,
  ⟨some 25, .pick (.tmp 22) (.tmp 24) (.const (.bool false)), none, []⟩,
  ⟨some 26, .move (.tmp 25), none, []⟩,
  ⟨some 27, .move (.tmp 2), (some (26, true)), []⟩,
  ⟨some 28, .call { callee := .builtin .len, args := #[.tmp 27], argTypes := #[44] }, (some (26, true)), []⟩,
  ⟨some 29, .binOp .eql 3 (.tmp 28) (.const (.int .i64 2)) 3, (some (26, true)), []⟩,
  ⟨some 30, .pick (.tmp 26) (.tmp 29) (.const (.bool false)), none, []⟩,
  ⟨some 31, .move (.tmp 30), none, []⟩,
  ⟨some 32, .move (.tmp 2), (some (31, true)), []⟩,
  ⟨some 33, .indexAddr 44 (.tmp 32) (.const (.int .i64 0)), (some (31, true)), []⟩,
  ⟨some 34, .load 23 (.tmp 33), (some (31, true)), []⟩,
  ⟨some 35, .buildSlice 23 3 #[(0, .const (.int .i64 1)), (1, .const (.int .i64 3)), (2, .const (.int .i64 5))], (some (31, true)), []⟩,
  ⟨some 36, .call { callee := .value (.func 9), args := #[.tmp 34, .tmp 35], argTypes := #[23, 23] }, (some (31, true)), []⟩,
  ⟨some 37, .pick (.tmp 31) (.tmp 36) (.const (.bool false)), none, []⟩,
  ⟨some 38, .move (.tmp 37), none, []⟩,
  ⟨some 39, .move (.tmp 2), (some (38, true)), []⟩,
  ⟨some 40, .indexAddr 44 (.tmp 39) (.const (.int .i64 1)), (some (38, true)), []⟩,
  ⟨some 41, .load 23 (.tmp 40), (some (38, true)), []⟩,
  ⟨some 42, .buildSlice 23 3 #[(0, .const (.int .i64 3)), (1, .const (.int .i64 5)), (2, .const (.int .i64 2))], (some (38, true)), []⟩,
  ⟨some 43, .call { callee := .value (.func 9), args := #[.tmp 41, .tmp 42], argTypes := #[23, 23] }, (some (38, true)), []⟩,
  ⟨some 44, .pick (.tmp 38) (.tmp 43) (.const (.bool false)), none, []⟩,
  ⟨some 45, .move (.tmp 44), none, []⟩,
  ⟨some 46, .move (.tmp 5), (some (45, true)), []⟩,
  ⟨some 47, .call { callee := .value (.func 18), args := #[.tmp 46, .const (.int .i64 18)], argTypes := #[40, 37] }, (some (45, true)), []⟩,
  ⟨some 48, .pick (.tmp 45) (.tmp 47) (.const (.bool false)), none, []⟩,
  ⟨some 49, .move (.tmp 48), none, []⟩,
  ⟨some 50, .fieldAddr 30 (.tmp 1) 0, (some (49, true)), []⟩,
  ⟨some 51, .load 25 (.tmp 50), (some (49, true)), []⟩,
  ⟨some 52, .indexAddr 25 (.tmp 51) (.const (.int .i64 0)), (some (49, true)), []⟩,
  ⟨some 53, .load 34 (.tmp 52), (some (49, true)), []⟩,
  ⟨some 54, .call { callee := .value (.func 7), args := #[.tmp 53], argTypes := #[34] }, (some (49, true)), []⟩,
  ⟨some 55, .pick (.tmp 49) (.tmp 54) (.const (.bool false)), none, []⟩,
  ⟨some 56, .move (.tmp 55), none, []⟩,
  ⟨some 57, .load 30 (.tmp 1), (some (56, true)), []⟩,
  ⟨some 58, .buildSlice 23 2 #[(0, .const (.int .i64 5)), (1, .const (.int .i64 1))], (some (56, true)), []⟩,
  ⟨some 59, .call { callee := .value (.func 13), args := #[.tmp 57, .tmp 58], argTypes := #[30, 23] }, (some (56, true)), []⟩,
  ⟨some 60, .binOp .eql 40 (.tmp 59) (.const .nilIface) 40, (some (56, true)), []⟩,
  ⟨some 61, .pick (.tmp 56) (.tmp 60) (.const (.bool false)), none, []⟩,
  ⟨some 62, .move (.tmp 61), none, []⟩,
  ⟨some 63, .load 30 (.tmp 1), (some (62, true)), []⟩,
  ⟨some 64, .buildSlice 23 2 #[(0, .const (.int .i64 1)), (1, .const (.int .i64 1))], (some (62, true)), []⟩,
  ⟨some 65, .call { callee := .value (.func 13), args := #[.tmp 63, .tmp 64], argTypes := #[30, 23] }, (some (62, true)), []⟩,
  ⟨some 66, .call { callee := .value (.func 18), args := #[.tmp 65, .const (.int .i64 18)], argTypes := #[40, 37] }, (some (62, true)), []⟩,
  ⟨some 67, .pick (.tmp 62) (.tmp 66) (.const (.bool false)), none, []⟩,
  ⟨some 0, .assign (.tmp 67), none, []⟩] [0, 21, 22, 24, 25, 26, 29, 30, 31, 36, 37, 38, 43, 44, 45, 47, 48, 49, 54, 55, 56, 60, 61, 62, 66, 67]) .ret)))))
theorem s5 : TextK Proofs.Tryd.prog 0 5 68 [ResultVar.tmp 0] c5 := .mk' Proofs.Tryd.f5 _ (by kernel_rfl) rfl rfl rfl (by kernel_rfl) rfl (by kernel_rfl)
def fiveL : List Broker := [⟨1, 0, bs [97], false, false⟩, ⟨2, 0, bs [97], false, false⟩, ⟨3, 0, bs [98], false, false⟩, ⟨4, 0, bs [98], false, false⟩, ⟨5, 0, bs [99], false, false⟩]
def m5 : Image := ⟨fiveL, [], [], [], 0⟩
theorem five_ok : ACall pg 17 [] (.sl (fiveL.map encB)) := by
  refine s17.call mo (by simp) fun hxs => ?_
  clear hxs
  unfold c17
  repeat' first
      | (with_reducible first | refine thN ?_ | refine thR ?_ | refine thE ?_ | refine inN ?_ | refine inR ?_ | refine inH ?_ | refine fF ?_ | refine fS ?_ | refine fR ?_ | refine fQ ?_ | refine fC ?_ | refine fB ?_ | refine fL ?_ | refine fE ?_ | refine fT ?_ | refine awBlock ?_ | refine awExit ?_ | refine awRet ?_ | refine awSkip ?_ | refine inM (by decide) ?_)
      | ((with_reducible refine awReg fun K hok hK => ?_); clear hok; (try simp (maxSteps := 10000000) (disch := first | omega | simp) []); (repeat' first
          | (with_reducible refine hK _ (by simp) ?_)
          | ((with_reducible refine gdT (fun h => ?_) (fun h => ?_)) <;> (simp (maxSteps := 10000000) (disch := first | omega | simp) [h]; (try simp at h); (try (exfalso; omega))))
          | ((with_reducible refine gdF (fun h => ?_) (fun h => ?_)) <;> (simp (maxSteps := 10000000) (disch := first | omega | simp) [h]; (try simp at h); (try (exfalso; omega))))
          | ((with_reducible refine gdU ?_); (try simp (maxSteps := 10000000) (disch := first | omega | simp) []))) <;> clear hK K)
      | ((with_reducible refine awCond fun A B hA hB => ?_); simp (maxSteps := 10000000) (disch := first | omega | simp) []; (first | refine ⟨fun h => hA ?_, fun h => hB ?_⟩ | refine hA ?_ | refine hB ?_) <;> (clear hA hB A B; (try (exfalso; omega))))
  (refine aEnR (aRes [true] fun K hK => ?_); simp (maxSteps := 10000000) (disch := first | omega | simp) [fiveL, bs]; refine hK _ ?_ (by simp); clear hK; first | done | (simp (maxSteps := 10000000) (disch := first | omega | simp) [fiveL, bs, *]; done) | (simp (maxSteps := 10000000) (disch := first | omega | simp) [fiveL, bs, *]; omega) | (simp_all [fiveL, bs]; done) | (simp_all [fiveL, bs]; omega))
theorem m5_order : m5.order = [1, 3, 5, 2, 4] := by kernel_rfl
theorem m5_rows : rowsP m5 [1, 3, 5, 2, 4] 0 3 2 = [[1, 3, 5], [3, 5, 2]] := by kernel_rfl
theorem m5_assign : m5.assign 2 3 0 = ([[1, 3, 5], [3, 5, 2]], none) := by
  unfold Image.assign
  rw [m5_order]
  rw [if_neg (by decide), if_neg (by decide), if_neg (by decide)]
  exact congrArg (fun x => (x, none)) m5_rows
theorem m5_assign6 : m5.assign 1 6 0 = ([], some (bs [114, 101, 112, 108, 105, 99, 97, 115], 6, 18)) := by
  unfold Image.assign
  rw [m5_order]
  rw [if_neg (by decide), if_pos (by decide)]
theorem m5_hor : ∀ id ∈ m5.order, 0 < id ∧ (m5.broker id).isSome = true := by
  rw [m5_order]
  intro id h
  simp only [List.mem_cons, List.mem_nil_iff, or_false] at h
  rcases h with rfl | rfl | rfl | rfl | rfl <;> exact ⟨by decide, by kernel_rfl⟩
theorem worksP_ok : ACall pg 5 [] (B true) := by
  refine s5.call mo (by simp) fun hxs => ?_
  clear hxs
  unfold c5
  have hnd : m5.order.Nodup := by rw [m5_order]; decide
  have em : encM m5 = .agg [.sl (fiveL.map encB), .sl [], .sl [], .sl [], I 0] := rfl
  have h1 : ACall pg 15 [encM m5, I 2, I 3, I 0] (.tup [.uq ([[1, 3, 5], [3, 5, 2]].map Li), .c .nilIface]) := by
    have := assign_ok m5 2 3 0 (by decide) m5_hor hnd
    rw [m5_assign] at this; exact this
  have h2 : ACall pg 15 [encM m5, I 1, I 6, I 0] (.tup [.uq [], errF (bs [114, 101, 112, 108, 105, 99, 97, 115]) 6 18]) := by
    have := assign_ok m5 1 6 0 (by decide) m5_hor hnd
    rw [m5_assign6] at this; exact this
  have h3 := order_ok m5 (by decide)
  rw [m5_order] at h3
  have hie (a : List Int) : ACall pg 9 [Li a, Li a] (B true) := by
    have := ints_ok a a
    rwa [show (a == a) = true from by simp] at this
  have h4 := hie [1, 3, 5, 2, 4]
  have h5 := hie [1, 3, 5]
  have h6 := hie [3, 5, 2]
  have h7 : ACall pg 13 [encM m5, Li [5, 1]] (.c .nilIface) := by
    have := check_ok m5 [5, 1] (by decide) (by decide)
    rw [m5_order, show ckP [1, 3, 5, 2, 4] [5, 1] = none from by decide] at this; exact this
  have h8 : ACall pg 13 [encM m5, Li [1, 1]] (errF (bs [114, 101, 112, 108, 105, 99, 97]) 1 18) := by
    have := check_ok m5 [1, 1] (by decide) (by decide)
    rw [m5_order, show ckP [1, 3, 5, 2, 4] [1, 1] = some (bs [114, 101, 112, 108, 105, 99, 97], 1, 18) from by kernel_rfl] at this; exact this
  have h9 : ACall pg 7 [encB ⟨1, 0, bs [97], false, false⟩] (B true) := placeReady_ok ⟨1, 0, bs [97], false, false⟩
  rw [em] at h1 h2 h3 h7 h8
  have f0 : fiveL[0]? = some ⟨1, 0, bs [97], false, false⟩ := rfl
  have f1 : fiveL.length = 5 := rfl
  have f2 (h : 0 < fiveL.length) : fiveL[0] = ⟨1, 0, bs [97], false, false⟩ := rfl
  repeat' first
      | (with_reducible first | refine thN ?_ | refine thR ?_ | refine thE ?_ | refine inN ?_ | refine inR ?_ | refine inH ?_ | refine fF ?_ | refine fS ?_ | refine fR ?_ | refine fQ ?_ | refine fC ?_ | refine fB ?_ | refine fL ?_ | refine fE ?_ | refine fT ?_ | refine awBlock ?_ | refine awExit ?_ | refine awRet ?_ | refine awSkip ?_ | refine inM (by decide) ?_)
      | ((with_reducible refine awReg fun K hok hK => ?_); clear hok; (try simp (maxSteps := 10000000) (disch := first | omega | simp) [isConst, f0, f1, f2]); (repeat' first
          | (with_reducible refine hK _ (by simp) ?_)
          | ((with_reducible refine gdT (fun h => ?_) (fun h => ?_)) <;> (simp (maxSteps := 10000000) (disch := first | omega | simp) [h, isConst, f0, f1, f2]; (try simp at h); (try (exfalso; omega))))
          | ((with_reducible refine gdF (fun h => ?_) (fun h => ?_)) <;> (simp (maxSteps := 10000000) (disch := first | omega | simp) [h, isConst, f0, f1, f2]; (try simp at h); (try (exfalso; omega))))
          | ((with_reducible refine callS' fun K2 hK2 => ?_); (try simp (maxSteps := 10000000) (disch := first | omega | simp) [isConst, f0, f1, f2]); (first | (refine hK2 _ _ (five_ok) rfl fun hk9 => ?_; clear hk9) | (refine hK2 _ _ (h1) rfl fun hk9 => ?_; clear hk9) | (refine hK2 _ _ (h2) rfl fun hk9 => ?_; clear hk9) | (refine hK2 _ _ (h3) rfl fun hk9 => ?_; clear hk9) | (refine hK2 _ _ (h4) rfl fun hk9 => ?_; clear hk9) | (refine hK2 _ _ (h5) rfl fun hk9 => ?_; clear hk9) | (refine hK2 _ _ (h6) rfl fun hk9 => ?_; clear hk9) | (refine hK2 _ _ (h7) rfl fun hk9 => ?_; clear hk9) | (refine hK2 _ _ (h8) rfl fun hk9 => ?_; clear hk9) | (refine hK2 _ _ (h9) rfl fun hk9 => ?_; clear hk9) | (refine hK2 _ _ (isF_ok _ _ _ _) rfl fun hk9 => ?_; clear hk9)); clear hK2 K2; (try simp (maxSteps := 10000000) (disch := first | omega | simp) [isConst, f0, f1, f2]))
          | ((with_reducible refine callF' fun K2 hK2 => ?_); (try simp (maxSteps := 10000000) (disch := first | omega | simp) [isConst, f0, f1, f2]); (first | refine hK2 _ _ _ (five_ok) fun _ => ?_ | refine hK2 _ _ _ (h1) fun _ => ?_ | refine hK2 _ _ _ (h2) fun _ => ?_ | refine hK2 _ _ _ (h3) fun _ => ?_ | refine hK2 _ _ _ (h4) fun _ => ?_ | refine hK2 _ _ _ (h5) fun _ => ?_ | refine hK2 _ _ _ (h6) fun _ => ?_ | refine hK2 _ _ _ (h7) fun _ => ?_ | refine hK2 _ _ _ (h8) fun _ => ?_ | refine hK2 _ _ _ (h9) fun _ => ?_ | refine hK2 _ _ _ (isF_ok _ _ _ _) fun _ => ?_); clear hK2 K2; (try simp (maxSteps := 10000000) (disch := first | omega | simp) [isConst, f0, f1, f2]))
          | ((with_reducible refine callM' rfl fun K2 hK2 => ?_); (try simp (maxSteps := 10000000) (disch := first | omega | simp) [isConst, f0, f1, f2]); (first | refine hK2 _ _ _ _ _ _ _ (h1) rfl fun _ _ => ?_ | refine hK2 _ _ _ _ _ _ _ (h2) rfl fun _ _ => ?_ | refine hK2 _ _ _ _ _ _ _ (h3) rfl fun _ _ => ?_ | refine hK2 _ _ _ _ _ _ _ (h4) rfl fun _ _ => ?_ | refine hK2 _ _ _ _ _ _ _ (h5) rfl fun _ _ => ?_ | refine hK2 _ _ _ _ _ _ _ (h6) rfl fun _ _ => ?_ | refine hK2 _ _ _ _ _ _ _ (h7) rfl fun _ _ => ?_ | refine hK2 _ _ _ _ _ _ _ (h8) rfl fun _ _ => ?_ | refine hK2 _ _ _ _ _ _ _ (h9) rfl fun _ _ => ?_); clear hK2 K2; (try simp (maxSteps := 10000000) (disch := first | omega | simp) [isConst, f0, f1, f2]))
          | ((with_reducible refine callT' rfl fun K2 hK2 => ?_); (try simp (maxSteps := 10000000) (disch := first | omega | simp) [isConst, f0, f1, f2]); (first | refine hK2 _ _ _ _ _ (h1) fun _ => ?_ | refine hK2 _ _ _ _ _ (h2) fun _ => ?_ | refine hK2 _ _ _ _ _ (h3) fun _ => ?_ | refine hK2 _ _ _ _ _ (h4) fun _ => ?_ | refine hK2 _ _ _ _ _ (h5) fun _ => ?_ | refine hK2 _ _ _ _ _ (h6) fun _ => ?_ | refine hK2 _ _ _ _ _ (h7) fun _ => ?_ | refine hK2 _ _ _ _ _ (h8) fun _ => ?_ | refine hK2 _ _ _ _ _ (h9) fun _ => ?_); clear hK2 K2; (try simp (maxSteps := 10000000) (disch := first | omega | simp) [isConst, f0, f1, f2]))
          | ((with_reducible refine gdU ?_); (try simp (maxSteps := 10000000) (disch := first | omega | simp) [isConst, f0, f1, f2]))) <;> clear hK K)
      | ((with_reducible refine awCond fun A B hA hB => ?_); simp (maxSteps := 10000000) (disch := first | omega | simp) [isConst, f0, f1, f2]; (first | refine ⟨fun h => hA ?_, fun h => hB ?_⟩ | refine hA ?_ | refine hB ?_) <;> (clear hA hB A B; (try (exfalso; omega))))
  all_goals (refine aEnR (aRes [] fun K hK => ?_); simp (maxSteps := 10000000) (disch := first | omega | simp) []; refine hK _ ?_ (by simp); simp (maxSteps := 10000000) (disch := first | omega | simp) [])
end
end Go.Am
