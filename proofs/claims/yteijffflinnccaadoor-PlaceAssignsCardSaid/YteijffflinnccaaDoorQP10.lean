/- Part of the proof of a law of placing. -/
import Derived.Test.YteijffflinnccaaDoorQP9
set_option linter.all false
set_option maxRecDepth 100000
set_option maxHeartbeats 0
namespace Go.Am
open Go
noncomputable section
def c11 : SC := (.seq (.reg [⟨some 1, .box 30 (.tmp 0), none, []⟩,
  ⟨some 2, .assign (.const (.slice none 0 0)), none, []⟩] [1, 64]) (.seq (.reg [⟨some 3, .assign (.const (.slice none 0 0)), none, []⟩] [1, 3, 64]) (.seq (.reg [⟨some 4, .assign (.const (.slice none 0 0)), none, []⟩] [1, 3, 4, 64, 68]) (.seq (.reg [⟨some 5, .assign (.const (.slice none 0 0)), none, []⟩] [1, 3, 4, 5, 64, 68, 83]) (.seq (.reg [⟨some 6, .assign (.const (.int .i64 0)), none, []⟩] [1, 3, 4, 5, 6, 17, 64, 68, 83]) (.seq (.block 0 (.seq (.loop (.seq (.reg [⟨some 11, .move (.tmp 6), none, []⟩,
  ⟨some 12, .fieldAddr 30 (.tmp 1) 0, none, []⟩,
  ⟨some 13, .load 25 (.tmp 12), none, []⟩,
  ⟨some 14, .call { callee := .builtin .len, args := #[.tmp 13], argTypes := #[25] }, none, []⟩,
  ⟨some 15, .binOp .lss 3 (.tmp 11) (.tmp 14) 3, none, []⟩] [1, 3, 4, 5, 6, 15, 17, 64, 68, 83]) (.seq (.cond (.tmp 15) .skip (.exit 0)) (.seq (.block 1 (.seq (.reg [⟨some 18, .fieldAddr 30 (.tmp 1) 0, none, []⟩,
  ⟨some 19, .load 25 (.tmp 18), none, []⟩,
  ⟨some 20, .move (.tmp 6), none, []⟩,
  ⟨some 21, .indexAddr 25 (.tmp 19) (.tmp 20), none, []⟩,
  ⟨some 22, .load 34 (.tmp 21), none, []⟩,
  ⟨some 7, .alloc 34, none, []⟩,
  ⟨none, .store 34 (.tmp 7) (.tmp 22), none, []⟩] [1, 3, 4, 5, 6, 7, 17, 64, 68, 83]) (.seq (.reg [⟨some 23, .load 34 (.tmp 7), none, []⟩,
  ⟨some 24, .call { callee := .value (.func 8), args := #[.tmp 23], argTypes := #[34] }, none, []⟩,
  ⟨some 25, .unOp .not 4 (.tmp 24), none, []⟩] [1, 3, 4, 5, 6, 7, 17, 25, 64, 68, 83]) (.seq (.cond (.tmp 25) (.exit 1) .skip) (.seq (.reg [⟨some 26, .load 30 (.tmp 1), none, []⟩,
  ⟨some 27, .load 34 (.tmp 7), none, []⟩,
  ⟨some 28, .call { callee := .value (.func 20), args := #[.tmp 26, .tmp 27], argTypes := #[30, 34] }, none, []⟩,
  ⟨some 8, .assign (.tmp 28), none, []⟩] [1, 3, 4, 5, 6, 7, 8, 17, 28, 64, 68, 83]) (.seq (.reg [⟨some 9, .assign (.const (.int .i64 0)), none, []⟩] [1, 3, 4, 5, 6, 7, 8, 9, 17, 28, 59, 64, 68, 83]) (.seq (.block 2 (.seq (.loop (.seq (.reg [⟨some 29, .move (.tmp 9), none, [30, 31]⟩,
  ⟨some 30, .move (.tmp 3), none, [29]⟩,
  ⟨some 31, .call { callee := .builtin .len, args := #[.tmp 30], argTypes := #[23] }, none, [29]⟩,
  ⟨some 32, .binOp .lss 3 (.tmp 29) (.tmp 31) 3, none, []⟩,
  ⟨some 33, .move (.tmp 32), none, []⟩,
  ⟨some 34, .move (.tmp 4), (some (33, true)), [35, 38]⟩,
  ⟨some 35, .move (.tmp 9), (some (33, true)), [34, 38]⟩,
  ⟨some 36, .indexAddr 23 (.tmp 34) (.tmp 35), (some (33, true)), [38]⟩,
  ⟨some 37, .load 3 (.tmp 36), (some (33, true)), [38]⟩,
  ⟨some 38, .move (.tmp 8), (some (33, true)), [34, 35, 36, 37]⟩,
  ⟨some 39, .binOp .lss 3 (.tmp 37) (.tmp 38) 3, (some (33, true)), []⟩,
  ⟨some 40, .move (.tmp 39), (some (33, true)), []⟩,
  ⟨some 41, .move (.tmp 4), (some (40, false)), [42, 45]⟩,
  ⟨some 42, .move (.tmp 9), (some (40, false)), [41, 45]⟩,
  ⟨some 43, .indexAddr 23 (.tmp 41) (.tmp 42), (some (40, false)), [45]⟩,
  ⟨some 44, .load 3 (.tmp 43), (some (40, false)), [45]⟩,
  ⟨some 45, .move (.tmp 8), (some (40, false)), [41, 42, 43, 44]⟩,
  ⟨some 46, .binOp .eql 3 (.tmp 44) (.tmp 45) 3, (some (40, false)), []⟩,
  ⟨some 47, .move (.tmp 46), (some (40, false)), []⟩,
  ⟨some 48, .move (.tmp 5), (some (47, true)), [49, 52, 53]⟩,
  ⟨some 49, .move (.tmp 9), (some (47, true)), [48, 52, 53]⟩,
  ⟨some 50, .indexAddr 56 (.tmp 48) (.tmp 49), (some (47, true)), [52, 53]⟩,
  ⟨some 51, .load 9 (.tmp 50), (some (47, true)), [52, 53]⟩,
  ⟨some 52, .fieldAddr 34 (.tmp 7) 2, (some (47, true)), [48, 49, 50, 51]⟩,
  ⟨some 53, .load 9 (.tmp 52), (some (47, true)), [48, 49, 50, 51]⟩,
  ⟨some 54, .binOp .lss 9 (.tmp 51) (.tmp 53) 9, (some (47, true)), []⟩,
  ⟨some 55, .pick (.tmp 47) (.tmp 54) (.const (.bool false)), (some (40, false)), []⟩,
  ⟨some 56, .pick (.tmp 40) (.const (.bool true)) (.tmp 55), (some (33, true)), []⟩,
  ⟨some 57, .pick (.tmp 33) (.tmp 56) (.const (.bool false)), none, []⟩] [1, 3, 4, 5, 6, 7, 8, 9, 17, 28, 32, 33, 39, 40, 46, 47, 54, 55, 56, 57, 59, 64, 68, 83]) (.seq (.cond (.tmp 57) .skip (.exit 2)) (.seq (.block 3 (.seq (.reg [⟨some 58, .move (.tmp 9), none, []⟩,
  ⟨some 59, .binOp .add 3 (.tmp 58) (.const (.int .i64 1)) 3, none, []⟩,
  ⟨some 9, .assign (.tmp 59), none, []⟩] [1, 3, 4, 5, 6, 7, 8, 9, 17, 28, 59, 64, 68, 83]) .skip)) .skip)))) .skip)) (.seq (.reg [⟨some 60, .move (.tmp 3), none, []⟩,
  ⟨some 61, .move (.tmp 9), none, []⟩,
  ⟨some 62, .fieldAddr 34 (.tmp 7) 0, none, []⟩,
  ⟨some 63, .load 3 (.tmp 62), none, []⟩,
  ⟨some 64, .call { callee := .value (.func 21), args := #[.tmp 60, .tmp 61, .tmp 63], argTypes := #[23, 3, 3] }, none, []⟩,
  ⟨some 3, .assign (.tmp 64), none, []⟩] [1, 3, 4, 5, 6, 7, 8, 9, 17, 28, 59, 64, 68, 83]) (.seq (.reg [⟨some 65, .move (.tmp 4), none, []⟩,
  ⟨some 66, .move (.tmp 9), none, []⟩,
  ⟨some 67, .move (.tmp 8), none, []⟩,
  ⟨some 68, .call { callee := .value (.func 21), args := #[.tmp 65, .tmp 66, .tmp 67], argTypes := #[23, 3, 3] }, none, []⟩,
  ⟨some 4, .assign (.tmp 68), none, []⟩] [1, 3, 4, 5, 6, 7, 9, 17, 59, 64, 68, 83]) (.seq (.reg [⟨some 10, .assign (.const (.slice none 0 0)), none, []⟩] [1, 3, 4, 5, 6, 7, 9, 10, 17, 59, 64, 68, 73, 78, 83]) (.seq (.reg [⟨some 69, .move (.tmp 10), none, []⟩,
  ⟨some 70, .move (.tmp 5), none, []⟩,
  ⟨some 71, .move (.tmp 9), none, []⟩,
  ⟨some 72, .slice 56 (.tmp 70) none (some (.tmp 71)) none, none, []⟩,
  ⟨some 73, .call { callee := .builtin .append, args := #[.tmp 69, .tmp 72], argTypes := #[56, 56] }, none, []⟩,
  ⟨some 10, .assign (.tmp 73), none, []⟩] [1, 3, 4, 5, 6, 7, 9, 10, 17, 59, 64, 68, 73, 78, 83]) (.seq (.reg [⟨some 74, .move (.tmp 10), none, []⟩,
  ⟨some 75, .fieldAddr 34 (.tmp 7) 2, none, []⟩,
  ⟨some 76, .load 9 (.tmp 75), none, []⟩,
  ⟨some 77, .buildSlice 56 1 #[(0, .tmp 76)], none, []⟩,
  ⟨some 78, .call { callee := .builtin .append, args := #[.tmp 74, .tmp 77], argTypes := #[56, 56] }, none, []⟩,
  ⟨some 10, .assign (.tmp 78), none, []⟩] [1, 3, 4, 5, 6, 9, 10, 17, 59, 64, 68, 73, 78, 83]) (.seq (.reg [⟨some 79, .move (.tmp 10), none, []⟩,
  ⟨some 80, .move (.tmp 5), none, []⟩,
  ⟨some 81, .move (.tmp 9), none, []⟩,
  ⟨some 82, .slice 56 (.tmp 80) (some (.tmp 81)) none none, none, []⟩,
  ⟨some 83, .call { callee := .builtin .append, args := #[.tmp 79, .tmp 82], argTypes := #[56, 56] }, none, []⟩,
  ⟨some 5, .assign (.tmp 83), none, []⟩] [1, 3, 4, 5, 6, 17, 64, 68, 83]) .skip))))))))))))) (.seq (.reg [⟨some 16, .move (.tmp 6), none, []⟩,
  ⟨some 17, .binOp .add 3 (.tmp 16) (.const (.int .i64 1)) 3, none, []⟩,
  ⟨some 6, .assign (.tmp 17), none, []⟩] [1, 3, 4, 5, 6, 17, 64, 68, 83]) .skip))))) .skip)) (.seq (.reg [⟨some 84, .move (.tmp 3), none, []⟩,
  ⟨some 2, .assign (.tmp 84), none, []⟩] [2, 3, 64, 84]) .ret)))))))
theorem s11 : TextK Proofs.Tryd.prog 0 11 85 [ResultVar.tmp 2] c11 := .mk' Proofs.Tryd.f11 _ (by kernel_rfl) rfl rfl rfl (by kernel_rfl) rfl (by kernel_rfl)
@[simp] theorem pvL_mapI {α : Type} (f : α → Int) (l : List α) : pvL (l.map fun e => I (f e)) = l.map fun e => I (f e) := by rw [pvL_eq]; simp
@[simp] theorem pvL_mapS {α : Type} (f : α → ByteArray) (l : List α) : pvL (l.map fun e => St (f e)) = l.map fun e => St (f e) := by rw [pvL_eq]; simp
theorem insertE_ok (l : List Ent) (k : Nat) (e : Ent) (f : Ent → Int) (hk : k ≤ l.length) (hl : l.length ≤ 1000) : ACall pg 21 [.sl (l.map fun e => I (f e)), I k, I (f e)] (.uq ((insL l k e).map fun e => I (f e))) := by
  have h := insert_ok (l.map f) k (f e) (by simpa) (by simpa)
  rw [← insL_map f l k e, List.map_map] at h
  have e2 : Li (l.map f) = .sl (l.map fun e => I (f e)) := by simp [Function.comp_def]
  rw [e2] at h
  exact h
theorem refOrder_ok (m : Image) (hb : m.brokers.length ≤ 100) : ACall pg 11 [encM m] (.uq ((refOrder m).map I)) := by
  refine s11.call mo (by simp) fun hxs => ?_
  clear hxs
  unfold c11
  repeat' first
      | (with_reducible first | refine thN ?_ | refine thR ?_ | refine thE ?_ | refine inN ?_ | refine inR ?_ | refine inH ?_ | refine fF ?_ | refine fS ?_ | refine fR ?_ | refine fQ ?_ | refine fC ?_ | refine fB ?_ | refine fL ?_ | refine fE ?_ | refine fT ?_ | refine awBlock ?_ | refine awExit ?_ | refine awRet ?_ | refine awSkip ?_ | refine inM (by decide) ?_)
      | ((with_reducible refine awReg fun K hok hK => ?_); clear hok; (try simp (maxSteps := 10000000) (disch := first | omega | simp) []); (repeat' first
          | (with_reducible refine hK _ (by simp) ?_)
          | ((with_reducible refine gdT (fun h => ?_) (fun h => ?_)) <;> (simp (maxSteps := 10000000) (disch := first | omega | simp) [h]; (try simp at h); (try (exfalso; omega))))
          | ((with_reducible refine gdF (fun h => ?_) (fun h => ?_)) <;> (simp (maxSteps := 10000000) (disch := first | omega | simp) [h]; (try simp at h); (try (exfalso; omega))))
          | ((with_reducible refine sideSt' fun K2 hK2 => ?_); (try simp (maxSteps := 10000000) (disch := first | omega | simp) []); refine hK2 _ ?_; clear hK2 K2; (try simp (maxSteps := 10000000) (disch := first | omega | simp) []))
          | ((with_reducible refine gdU ?_); (try simp (maxSteps := 10000000) (disch := first | omega | simp) []))
          | ((with_reducible refine sideQ' ?_ ?_ fun K2 hK2 => ?_); exact rfl; exact rfl; (try simp (maxSteps := 10000000) (disch := first | omega | simp) []); with_reducible refine hK2 _ _ ?_; clear hK2 K2; (try simp (maxSteps := 10000000) (disch := first | omega | simp) []))
          | ((with_reducible refine side' ?_ fun K2 hK2 => ?_); exact rfl; (try simp (maxSteps := 10000000) (disch := first | omega | simp) []); refine hK2 _ _ (by simp) ?_; clear hK2 K2; (try simp (maxSteps := 10000000) (disch := first | omega | simp) []))) <;> clear hK K)
      | ((with_reducible refine awCond fun A B hA hB => ?_); simp (maxSteps := 10000000) (disch := first | omega | simp) []; (first | refine ⟨fun h => hA ?_, fun h => hB ?_⟩ | refine hA ?_ | refine hB ?_) <;> (clear hA hB A B; (try (exfalso; omega))))
  refine awFor m.brokers.length (fun i (l : List Ent) => (m.brokers.drop i).foldl (ordStep m) l = refEnts m ∧ l.length ≤ i)
    (fun i l => [(6, .p (I i)), (5, .p (.uq (l.map fun e => St e.name))), (4, .p (.uq (l.map fun e => I e.rank))), (3, .p (.uq (l.map fun e => I e.id))), (1, .p (.own (encM m).cells))]) [] (Wk.ofA (by simp)) ⟨rfl, by simp⟩ fun i l hi hs => ?_
  obtain ⟨hs, hl⟩ := hs
  by_cases hlt : i < m.brokers.length
  · rw [drop_cons hlt, List.foldl_cons] at hs
    have hr := refReady_ok m.brokers[i]
    have hk := rank_ok m m.brokers[i] (by omega)
    unfold ordStep at hs
    cases h1 : readyB m.brokers[i] with
    | false =>
      rw [h1] at hs hr
      simp only [Bool.false_eq_true, if_false] at hs
      repeat' first
          | (with_reducible first | refine thN ?_ | refine thR ?_ | refine thE ?_ | refine inN ?_ | refine inR ?_ | refine inH ?_ | refine fF ?_ | refine fS ?_ | refine fR ?_ | refine fQ ?_ | refine fC ?_ | refine fB ?_ | refine fL ?_ | refine fE ?_ | refine fT ?_ | refine awBlock ?_ | refine awExit ?_ | refine awRet ?_ | refine awSkip ?_ | refine inM (by decide) ?_)
          | ((with_reducible refine awReg fun K hok hK => ?_); clear hok; (try simp (maxSteps := 10000000) (disch := first | omega | simp) [hlt]); (repeat' first
              | (with_reducible refine hK _ (by simp) ?_)
              | ((with_reducible refine gdT (fun h => ?_) (fun h => ?_)) <;> (simp (maxSteps := 10000000) (disch := first | omega | simp) [h, hlt]; (try simp at h); (try (exfalso; omega))))
              | ((with_reducible refine gdF (fun h => ?_) (fun h => ?_)) <;> (simp (maxSteps := 10000000) (disch := first | omega | simp) [h, hlt]; (try simp at h); (try (exfalso; omega))))
              | ((with_reducible refine callS' fun K2 hK2 => ?_); (try simp (maxSteps := 10000000) (disch := first | omega | simp) [hlt]); (first | (refine hK2 _ _ (hr) rfl fun hk9 => ?_; clear hk9)); clear hK2 K2; (try simp (maxSteps := 10000000) (disch := first | omega | simp) [hlt]))
              | ((with_reducible refine callF' fun K2 hK2 => ?_); (try simp (maxSteps := 10000000) (disch := first | omega | simp) [hlt]); (first | refine hK2 _ _ _ (hr) fun _ => ?_); clear hK2 K2; (try simp (maxSteps := 10000000) (disch := first | omega | simp) [hlt]))
              | ((with_reducible refine sideS' fun K2 hK2 => ?_); (try simp (maxSteps := 10000000) (disch := first | omega | simp) [hlt]); (first | refine hK2 _ _ (hr) rfl ?_); clear hK2 K2; (try simp (maxSteps := 10000000) (disch := first | omega | simp) [hlt]))
              | ((with_reducible refine sideF' fun K2 hK2 => ?_); (try simp (maxSteps := 10000000) (disch := first | omega | simp) [hlt]); (first | refine hK2 _ _ _ (hr) (by simp) ?_); clear hK2 K2; (try simp (maxSteps := 10000000) (disch := first | omega | simp) [hlt]))
              | ((with_reducible refine callM' rfl fun K2 hK2 => ?_); (try simp (maxSteps := 10000000) (disch := first | omega | simp) [hlt]); (first | refine hK2 _ _ _ _ _ _ _ (hr) rfl fun _ _ => ?_); clear hK2 K2; (try simp (maxSteps := 10000000) (disch := first | omega | simp) [hlt]))
              | ((with_reducible refine callT' rfl fun K2 hK2 => ?_); (try simp (maxSteps := 10000000) (disch := first | omega | simp) [hlt]); (first | refine hK2 _ _ _ _ _ (hr) fun _ => ?_); clear hK2 K2; (try simp (maxSteps := 10000000) (disch := first | omega | simp) [hlt]))
              | ((with_reducible refine sideSt' fun K2 hK2 => ?_); (try simp (maxSteps := 10000000) (disch := first | omega | simp) [hlt]); refine hK2 _ ?_; clear hK2 K2; (try simp (maxSteps := 10000000) (disch := first | omega | simp) [hlt]))
              | ((with_reducible refine gdU ?_); (try simp (maxSteps := 10000000) (disch := first | omega | simp) [hlt]))
              | ((with_reducible refine sideQ' ?_ ?_ fun K2 hK2 => ?_); exact rfl; exact rfl; (try simp (maxSteps := 10000000) (disch := first | omega | simp) [hlt]); with_reducible refine hK2 _ _ ?_; clear hK2 K2; (try simp (maxSteps := 10000000) (disch := first | omega | simp) [hlt]))
              | ((with_reducible refine side' ?_ fun K2 hK2 => ?_); exact rfl; (try simp (maxSteps := 10000000) (disch := first | omega | simp) [hlt]); refine hK2 _ _ (by simp) ?_; clear hK2 K2; (try simp (maxSteps := 10000000) (disch := first | omega | simp) [hlt]))) <;> clear hK K)
          | ((with_reducible refine awCond fun A B hA hB => ?_); simp (maxSteps := 10000000) (disch := first | omega | simp) [hlt]; (first | refine ⟨fun h => hA ?_, fun h => hB ?_⟩ | refine hA ?_ | refine hB ?_) <;> (clear hA hB A B; (try (exfalso; omega))))
      (refine ⟨?_, l, ?_, Wk.ofA ?_⟩; assumption; rotate_left; focus (simp []; done))
      exact ⟨hs, by omega⟩
    | true =>
      rw [h1] at hs hr
      simp only [if_true] at hs
      repeat' first
          | (with_reducible first | refine thN ?_ | refine thR ?_ | refine thE ?_ | refine inN ?_ | refine inR ?_ | refine inH ?_ | refine fF ?_ | refine fS ?_ | refine fR ?_ | refine fQ ?_ | refine fC ?_ | refine fB ?_ | refine fL ?_ | refine fE ?_ | refine fT ?_ | refine awBlock ?_ | refine awExit ?_ | refine awRet ?_ | refine awSkip ?_ | refine inM (by decide) ?_)
          | ((with_reducible refine awReg fun K hok hK => ?_); clear hok; (try simp (maxSteps := 10000000) (disch := first | omega | simp) [hlt]); (repeat' first
              | (with_reducible refine hK _ (by simp) ?_)
              | ((with_reducible refine gdT (fun h => ?_) (fun h => ?_)) <;> (simp (maxSteps := 10000000) (disch := first | omega | simp) [h, hlt]; (try simp at h); (try (exfalso; omega))))
              | ((with_reducible refine gdF (fun h => ?_) (fun h => ?_)) <;> (simp (maxSteps := 10000000) (disch := first | omega | simp) [h, hlt]; (try simp at h); (try (exfalso; omega))))
              | ((with_reducible refine callS' fun K2 hK2 => ?_); (try simp (maxSteps := 10000000) (disch := first | omega | simp) [hlt]); (first | (refine hK2 _ _ (hr) rfl fun hk9 => ?_; clear hk9) | (refine hK2 _ _ (hk) rfl fun hk9 => ?_; clear hk9)); clear hK2 K2; (try simp (maxSteps := 10000000) (disch := first | omega | simp) [hlt]))
              | ((with_reducible refine callF' fun K2 hK2 => ?_); (try simp (maxSteps := 10000000) (disch := first | omega | simp) [hlt]); (first | refine hK2 _ _ _ (hr) fun _ => ?_ | refine hK2 _ _ _ (hk) fun _ => ?_); clear hK2 K2; (try simp (maxSteps := 10000000) (disch := first | omega | simp) [hlt]))
              | ((with_reducible refine sideS' fun K2 hK2 => ?_); (try simp (maxSteps := 10000000) (disch := first | omega | simp) [hlt]); (first | refine hK2 _ _ (hr) rfl ?_ | refine hK2 _ _ (hk) rfl ?_); clear hK2 K2; (try simp (maxSteps := 10000000) (disch := first | omega | simp) [hlt]))
              | ((with_reducible refine sideF' fun K2 hK2 => ?_); (try simp (maxSteps := 10000000) (disch := first | omega | simp) [hlt]); (first | refine hK2 _ _ _ (hr) (by simp) ?_ | refine hK2 _ _ _ (hk) (by simp) ?_); clear hK2 K2; (try simp (maxSteps := 10000000) (disch := first | omega | simp) [hlt]))
              | ((with_reducible refine callM' rfl fun K2 hK2 => ?_); (try simp (maxSteps := 10000000) (disch := first | omega | simp) [hlt]); (first | refine hK2 _ _ _ _ _ _ _ (hr) rfl fun _ _ => ?_ | refine hK2 _ _ _ _ _ _ _ (hk) rfl fun _ _ => ?_); clear hK2 K2; (try simp (maxSteps := 10000000) (disch := first | omega | simp) [hlt]))
              | ((with_reducible refine callT' rfl fun K2 hK2 => ?_); (try simp (maxSteps := 10000000) (disch := first | omega | simp) [hlt]); (first | refine hK2 _ _ _ _ _ (hr) fun _ => ?_ | refine hK2 _ _ _ _ _ (hk) fun _ => ?_); clear hK2 K2; (try simp (maxSteps := 10000000) (disch := first | omega | simp) [hlt]))
              | ((with_reducible refine sideSt' fun K2 hK2 => ?_); (try simp (maxSteps := 10000000) (disch := first | omega | simp) [hlt]); refine hK2 _ ?_; clear hK2 K2; (try simp (maxSteps := 10000000) (disch := first | omega | simp) [hlt]))
              | ((with_reducible refine gdU ?_); (try simp (maxSteps := 10000000) (disch := first | omega | simp) [hlt]))
              | ((with_reducible refine sideQ' ?_ ?_ fun K2 hK2 => ?_); exact rfl; exact rfl; (try simp (maxSteps := 10000000) (disch := first | omega | simp) [hlt]); with_reducible refine hK2 _ _ ?_; clear hK2 K2; (try simp (maxSteps := 10000000) (disch := first | omega | simp) [hlt]))
              | ((with_reducible refine side' ?_ fun K2 hK2 => ?_); exact rfl; (try simp (maxSteps := 10000000) (disch := first | omega | simp) [hlt]); refine hK2 _ _ (by simp) ?_; clear hK2 K2; (try simp (maxSteps := 10000000) (disch := first | omega | simp) [hlt]))) <;> clear hK K)
          | ((with_reducible refine awCond fun A B hA hB => ?_); simp (maxSteps := 10000000) (disch := first | omega | simp) [hlt]; (first | refine ⟨fun h => hA ?_, fun h => hB ?_⟩ | refine hA ?_ | refine hB ?_) <;> (clear hA hB A B; (try (exfalso; omega))))
      refine awWhile (fun (k : Nat) => l.length - k) (fun k => k ≤ posE (rankR m m.brokers[i]) m.brokers[i].rack l)
        (fun k => [(9, .p (I k)), (8, .p (I (rankR m m.brokers[i]))), (7, .p (.own (encB m.brokers[i]).cells)), (6, .p (I i)), (5, .p (.uq (l.map fun e => St e.name))), (4, .p (.uq (l.map fun e => I e.rank))), (3, .p (.uq (l.map fun e => I e.id))), (1, .p (.own (encM m).cells))]) 0 (Wk.ofA (by simp)) (by omega) fun k hk => ?_
      have hpl := posE_le (rankR m m.brokers[i]) m.brokers[i].rack l
      by_cases hkl : k < l.length
      · by_cases c1 : l[k].rank < rankR m m.brokers[i]
        · repeat' first
              | (with_reducible first | refine thN ?_ | refine thR ?_ | refine thE ?_ | refine inN ?_ | refine inR ?_ | refine inH ?_ | refine fF ?_ | refine fS ?_ | refine fR ?_ | refine fQ ?_ | refine fC ?_ | refine fB ?_ | refine fL ?_ | refine fE ?_ | refine fT ?_ | refine awBlock ?_ | refine awExit ?_ | refine awRet ?_ | refine awSkip ?_ | refine inM (by decide) ?_)
              | ((with_reducible refine awReg fun K hok hK => ?_); clear hok; (try simp (maxSteps := 10000000) (disch := first | omega | simp) [hkl, c1]); (repeat' first
                  | (with_reducible refine hK _ (by simp) ?_)
                  | ((with_reducible refine gdT (fun h => ?_) (fun h => ?_)) <;> (simp (maxSteps := 10000000) (disch := first | omega | simp) [h, hkl, c1]; (try simp at h); (try (exfalso; omega))))
                  | ((with_reducible refine gdF (fun h => ?_) (fun h => ?_)) <;> (simp (maxSteps := 10000000) (disch := first | omega | simp) [h, hkl, c1]; (try simp at h); (try (exfalso; omega))))
                  | ((with_reducible refine sideSt' fun K2 hK2 => ?_); (try simp (maxSteps := 10000000) (disch := first | omega | simp) [hkl, c1]); refine hK2 _ ?_; clear hK2 K2; (try simp (maxSteps := 10000000) (disch := first | omega | simp) [hkl, c1]))
                  | ((with_reducible refine gdU ?_); (try simp (maxSteps := 10000000) (disch := first | omega | simp) [hkl, c1]))
                  | ((with_reducible refine sideQ' ?_ ?_ fun K2 hK2 => ?_); exact rfl; exact rfl; (try simp (maxSteps := 10000000) (disch := first | omega | simp) [hkl, c1]); with_reducible refine hK2 _ _ ?_; clear hK2 K2; (try simp (maxSteps := 10000000) (disch := first | omega | simp) [hkl, c1]))
                  | ((with_reducible refine side' ?_ fun K2 hK2 => ?_); exact rfl; (try simp (maxSteps := 10000000) (disch := first | omega | simp) [hkl, c1]); refine hK2 _ _ (by simp) ?_; clear hK2 K2; (try simp (maxSteps := 10000000) (disch := first | omega | simp) [hkl, c1]))) <;> clear hK K)
              | ((with_reducible refine awCond fun A B hA hB => ?_); simp (maxSteps := 10000000) (disch := first | omega | simp) [hkl, c1]; (first | refine ⟨fun h => hA ?_, fun h => hB ?_⟩ | refine hA ?_ | refine hB ?_) <;> (clear hA hB A B; (try (exfalso; omega))))
          refine ⟨k + 1, by omega, posE_step _ _ _ _ hkl hk (by unfold befE; simp [*]), Wk.ofA (by simp)⟩
        · by_cases c2 : l[k].rank = rankR m m.brokers[i]
          · cases c3 : Op.bytesLess l[k].name.toList m.brokers[i].rack.toList with
            | true =>
              repeat' first
                  | (with_reducible first | refine thN ?_ | refine thR ?_ | refine thE ?_ | refine inN ?_ | refine inR ?_ | refine inH ?_ | refine fF ?_ | refine fS ?_ | refine fR ?_ | refine fQ ?_ | refine fC ?_ | refine fB ?_ | refine fL ?_ | refine fE ?_ | refine fT ?_ | refine awBlock ?_ | refine awExit ?_ | refine awRet ?_ | refine awSkip ?_ | refine inM (by decide) ?_)
                  | ((with_reducible refine awReg fun K hok hK => ?_); clear hok; (try simp (maxSteps := 10000000) (disch := first | omega | simp) [hkl, c1, c2, c3]); (repeat' first
                      | (with_reducible refine hK _ (by simp) ?_)
                      | ((with_reducible refine gdT (fun h => ?_) (fun h => ?_)) <;> (simp (maxSteps := 10000000) (disch := first | omega | simp) [h, hkl, c1, c2, c3]; (try simp at h); (try (exfalso; omega))))
                      | ((with_reducible refine gdF (fun h => ?_) (fun h => ?_)) <;> (simp (maxSteps := 10000000) (disch := first | omega | simp) [h, hkl, c1, c2, c3]; (try simp at h); (try (exfalso; omega))))
                      | ((with_reducible refine sideSt' fun K2 hK2 => ?_); (try simp (maxSteps := 10000000) (disch := first | omega | simp) [hkl, c1, c2, c3]); refine hK2 _ ?_; clear hK2 K2; (try simp (maxSteps := 10000000) (disch := first | omega | simp) [hkl, c1, c2, c3]))
                      | ((with_reducible refine gdU ?_); (try simp (maxSteps := 10000000) (disch := first | omega | simp) [hkl, c1, c2, c3]))
                      | ((with_reducible refine sideQ' ?_ ?_ fun K2 hK2 => ?_); exact rfl; exact rfl; (try simp (maxSteps := 10000000) (disch := first | omega | simp) [hkl, c1, c2, c3]); with_reducible refine hK2 _ _ ?_; clear hK2 K2; (try simp (maxSteps := 10000000) (disch := first | omega | simp) [hkl, c1, c2, c3]))
                      | ((with_reducible refine side' ?_ fun K2 hK2 => ?_); exact rfl; (try simp (maxSteps := 10000000) (disch := first | omega | simp) [hkl, c1, c2, c3]); refine hK2 _ _ (by simp) ?_; clear hK2 K2; (try simp (maxSteps := 10000000) (disch := first | omega | simp) [hkl, c1, c2, c3]))) <;> clear hK K)
                  | ((with_reducible refine awCond fun A B hA hB => ?_); simp (maxSteps := 10000000) (disch := first | omega | simp) [hkl, c1, c2, c3]; (first | refine ⟨fun h => hA ?_, fun h => hB ?_⟩ | refine hA ?_ | refine hB ?_) <;> (clear hA hB A B; (try (exfalso; omega))))
              refine ⟨k + 1, by omega, posE_step _ _ _ _ hkl hk (by unfold befE; simp [*]), Wk.ofA (by simp)⟩
            | false =>
              have hn : k = posE (rankR m m.brokers[i]) m.brokers[i].rack l := posE_stop _ _ _ _ hk fun h0 => by first | omega | (unfold befE; simp [*]; omega) | (unfold befE; simp [*])
              have e1 := insertE_ok l k ⟨m.brokers[i].id, rankR m m.brokers[i], m.brokers[i].rack⟩ Ent.id (by omega) (by omega)
              have e2 := insertE_ok l k ⟨m.brokers[i].id, rankR m m.brokers[i], m.brokers[i].rack⟩ Ent.rank (by omega) (by omega)
              have e3 : insE l ⟨m.brokers[i].id, rankR m m.brokers[i], m.brokers[i].rack⟩ = insL l k ⟨m.brokers[i].id, rankR m m.brokers[i], m.brokers[i].rack⟩ := by unfold insE; rw [← hn]
              rw [e3] at hs
              have hlen := insL_len l k ⟨m.brokers[i].id, rankR m m.brokers[i], m.brokers[i].rack⟩
              repeat' first
                  | (with_reducible first | refine thN ?_ | refine thR ?_ | refine thE ?_ | refine inN ?_ | refine inR ?_ | refine inH ?_ | refine fF ?_ | refine fS ?_ | refine fR ?_ | refine fQ ?_ | refine fC ?_ | refine fB ?_ | refine fL ?_ | refine fE ?_ | refine fT ?_ | refine awBlock ?_ | refine awExit ?_ | refine awRet ?_ | refine awSkip ?_ | refine inM (by decide) ?_)
                  | ((with_reducible refine awReg fun K hok hK => ?_); clear hok; (try simp (maxSteps := 10000000) (disch := first | omega | simp) [hkl, c1, c2, c3]); (repeat' first
                      | (with_reducible refine hK _ (by simp) ?_)
                      | ((with_reducible refine gdT (fun h => ?_) (fun h => ?_)) <;> (simp (maxSteps := 10000000) (disch := first | omega | simp) [h, hkl, c1, c2, c3]; (try simp at h); (try (exfalso; omega))))
                      | ((with_reducible refine gdF (fun h => ?_) (fun h => ?_)) <;> (simp (maxSteps := 10000000) (disch := first | omega | simp) [h, hkl, c1, c2, c3]; (try simp at h); (try (exfalso; omega))))
                      | ((with_reducible refine callS' fun K2 hK2 => ?_); (try simp (maxSteps := 10000000) (disch := first | omega | simp) [hkl, c1, c2, c3]); (first | (refine hK2 _ _ (e1) rfl fun hk9 => ?_; clear hk9) | (refine hK2 _ _ (e2) rfl fun hk9 => ?_; clear hk9)); clear hK2 K2; (try simp (maxSteps := 10000000) (disch := first | omega | simp) [hkl, c1, c2, c3]))
                      | ((with_reducible refine callF' fun K2 hK2 => ?_); (try simp (maxSteps := 10000000) (disch := first | omega | simp) [hkl, c1, c2, c3]); (first | refine hK2 _ _ _ (e1) fun _ => ?_ | refine hK2 _ _ _ (e2) fun _ => ?_); clear hK2 K2; (try simp (maxSteps := 10000000) (disch := first | omega | simp) [hkl, c1, c2, c3]))
                      | ((with_reducible refine sideS' fun K2 hK2 => ?_); (try simp (maxSteps := 10000000) (disch := first | omega | simp) [hkl, c1, c2, c3]); (first | refine hK2 _ _ (e1) rfl ?_ | refine hK2 _ _ (e2) rfl ?_); clear hK2 K2; (try simp (maxSteps := 10000000) (disch := first | omega | simp) [hkl, c1, c2, c3]))
                      | ((with_reducible refine sideF' fun K2 hK2 => ?_); (try simp (maxSteps := 10000000) (disch := first | omega | simp) [hkl, c1, c2, c3]); (first | refine hK2 _ _ _ (e1) (by simp) ?_ | refine hK2 _ _ _ (e2) (by simp) ?_); clear hK2 K2; (try simp (maxSteps := 10000000) (disch := first | omega | simp) [hkl, c1, c2, c3]))
                      | ((with_reducible refine callM' rfl fun K2 hK2 => ?_); (try simp (maxSteps := 10000000) (disch := first | omega | simp) [hkl, c1, c2, c3]); (first | refine hK2 _ _ _ _ _ _ _ (e1) rfl fun _ _ => ?_ | refine hK2 _ _ _ _ _ _ _ (e2) rfl fun _ _ => ?_); clear hK2 K2; (try simp (maxSteps := 10000000) (disch := first | omega | simp) [hkl, c1, c2, c3]))
                      | ((with_reducible refine callT' rfl fun K2 hK2 => ?_); (try simp (maxSteps := 10000000) (disch := first | omega | simp) [hkl, c1, c2, c3]); (first | refine hK2 _ _ _ _ _ (e1) fun _ => ?_ | refine hK2 _ _ _ _ _ (e2) fun _ => ?_); clear hK2 K2; (try simp (maxSteps := 10000000) (disch := first | omega | simp) [hkl, c1, c2, c3]))
                      | ((with_reducible refine sideSt' fun K2 hK2 => ?_); (try simp (maxSteps := 10000000) (disch := first | omega | simp) [hkl, c1, c2, c3]); refine hK2 _ ?_; clear hK2 K2; (try simp (maxSteps := 10000000) (disch := first | omega | simp) [hkl, c1, c2, c3]))
                      | ((with_reducible refine gdU ?_); (try simp (maxSteps := 10000000) (disch := first | omega | simp) [hkl, c1, c2, c3]))
                      | ((with_reducible refine sideQ' ?_ ?_ fun K2 hK2 => ?_); exact rfl; exact rfl; (try simp (maxSteps := 10000000) (disch := first | omega | simp) [hkl, c1, c2, c3]); with_reducible refine hK2 _ _ ?_; clear hK2 K2; (try simp (maxSteps := 10000000) (disch := first | omega | simp) [hkl, c1, c2, c3]))
                      | ((with_reducible refine side' ?_ fun K2 hK2 => ?_); exact rfl; (try simp (maxSteps := 10000000) (disch := first | omega | simp) [hkl, c1, c2, c3]); refine hK2 _ _ (by simp) ?_; clear hK2 K2; (try simp (maxSteps := 10000000) (disch := first | omega | simp) [hkl, c1, c2, c3]))) <;> clear hK K)
                  | ((with_reducible refine awCond fun A B hA hB => ?_); simp (maxSteps := 10000000) (disch := first | omega | simp) [hkl, c1, c2, c3]; (first | refine ⟨fun h => hA ?_, fun h => hB ?_⟩ | refine hA ?_ | refine hB ?_) <;> (clear hA hB A B; (try (exfalso; omega))))
              (refine ⟨?_, insL l k ⟨m.brokers[i].id, rankR m m.brokers[i], m.brokers[i].rack⟩, ?_, Wk.ofA ?_⟩; assumption; rotate_left; focus (simp [insL]; done))
              exact ⟨hs, by omega⟩
          · have hn : k = posE (rankR m m.brokers[i]) m.brokers[i].rack l := posE_stop _ _ _ _ hk fun h0 => by first | omega | (unfold befE; simp [*]; omega) | (unfold befE; simp [*])
            have e1 := insertE_ok l k ⟨m.brokers[i].id, rankR m m.brokers[i], m.brokers[i].rack⟩ Ent.id (by omega) (by omega)
            have e2 := insertE_ok l k ⟨m.brokers[i].id, rankR m m.brokers[i], m.brokers[i].rack⟩ Ent.rank (by omega) (by omega)
            have e3 : insE l ⟨m.brokers[i].id, rankR m m.brokers[i], m.brokers[i].rack⟩ = insL l k ⟨m.brokers[i].id, rankR m m.brokers[i], m.brokers[i].rack⟩ := by unfold insE; rw [← hn]
            rw [e3] at hs
            have hlen := insL_len l k ⟨m.brokers[i].id, rankR m m.brokers[i], m.brokers[i].rack⟩
            repeat' first
                | (with_reducible first | refine thN ?_ | refine thR ?_ | refine thE ?_ | refine inN ?_ | refine inR ?_ | refine inH ?_ | refine fF ?_ | refine fS ?_ | refine fR ?_ | refine fQ ?_ | refine fC ?_ | refine fB ?_ | refine fL ?_ | refine fE ?_ | refine fT ?_ | refine awBlock ?_ | refine awExit ?_ | refine awRet ?_ | refine awSkip ?_ | refine inM (by decide) ?_)
                | ((with_reducible refine awReg fun K hok hK => ?_); clear hok; (try simp (maxSteps := 10000000) (disch := first | omega | simp) [hkl, c1, c2]); (repeat' first
                    | (with_reducible refine hK _ (by simp) ?_)
                    | ((with_reducible refine gdT (fun h => ?_) (fun h => ?_)) <;> (simp (maxSteps := 10000000) (disch := first | omega | simp) [h, hkl, c1, c2]; (try simp at h); (try (exfalso; omega))))
                    | ((with_reducible refine gdF (fun h => ?_) (fun h => ?_)) <;> (simp (maxSteps := 10000000) (disch := first | omega | simp) [h, hkl, c1, c2]; (try simp at h); (try (exfalso; omega))))
                    | ((with_reducible refine callS' fun K2 hK2 => ?_); (try simp (maxSteps := 10000000) (disch := first | omega | simp) [hkl, c1, c2]); (first | (refine hK2 _ _ (e1) rfl fun hk9 => ?_; clear hk9) | (refine hK2 _ _ (e2) rfl fun hk9 => ?_; clear hk9)); clear hK2 K2; (try simp (maxSteps := 10000000) (disch := first | omega | simp) [hkl, c1, c2]))
                    | ((with_reducible refine callF' fun K2 hK2 => ?_); (try simp (maxSteps := 10000000) (disch := first | omega | simp) [hkl, c1, c2]); (first | refine hK2 _ _ _ (e1) fun _ => ?_ | refine hK2 _ _ _ (e2) fun _ => ?_); clear hK2 K2; (try simp (maxSteps := 10000000) (disch := first | omega | simp) [hkl, c1, c2]))
                    | ((with_reducible refine sideS' fun K2 hK2 => ?_); (try simp (maxSteps := 10000000) (disch := first | omega | simp) [hkl, c1, c2]); (first | refine hK2 _ _ (e1) rfl ?_ | refine hK2 _ _ (e2) rfl ?_); clear hK2 K2; (try simp (maxSteps := 10000000) (disch := first | omega | simp) [hkl, c1, c2]))
                    | ((with_reducible refine sideF' fun K2 hK2 => ?_); (try simp (maxSteps := 10000000) (disch := first | omega | simp) [hkl, c1, c2]); (first | refine hK2 _ _ _ (e1) (by simp) ?_ | refine hK2 _ _ _ (e2) (by simp) ?_); clear hK2 K2; (try simp (maxSteps := 10000000) (disch := first | omega | simp) [hkl, c1, c2]))
                    | ((with_reducible refine callM' rfl fun K2 hK2 => ?_); (try simp (maxSteps := 10000000) (disch := first | omega | simp) [hkl, c1, c2]); (first | refine hK2 _ _ _ _ _ _ _ (e1) rfl fun _ _ => ?_ | refine hK2 _ _ _ _ _ _ _ (e2) rfl fun _ _ => ?_); clear hK2 K2; (try simp (maxSteps := 10000000) (disch := first | omega | simp) [hkl, c1, c2]))
                    | ((with_reducible refine callT' rfl fun K2 hK2 => ?_); (try simp (maxSteps := 10000000) (disch := first | omega | simp) [hkl, c1, c2]); (first | refine hK2 _ _ _ _ _ (e1) fun _ => ?_ | refine hK2 _ _ _ _ _ (e2) fun _ => ?_); clear hK2 K2; (try simp (maxSteps := 10000000) (disch := first | omega | simp) [hkl, c1, c2]))
                    | ((with_reducible refine sideSt' fun K2 hK2 => ?_); (try simp (maxSteps := 10000000) (disch := first | omega | simp) [hkl, c1, c2]); refine hK2 _ ?_; clear hK2 K2; (try simp (maxSteps := 10000000) (disch := first | omega | simp) [hkl, c1, c2]))
                    | ((with_reducible refine gdU ?_); (try simp (maxSteps := 10000000) (disch := first | omega | simp) [hkl, c1, c2]))
                    | ((with_reducible refine sideQ' ?_ ?_ fun K2 hK2 => ?_); exact rfl; exact rfl; (try simp (maxSteps := 10000000) (disch := first | omega | simp) [hkl, c1, c2]); with_reducible refine hK2 _ _ ?_; clear hK2 K2; (try simp (maxSteps := 10000000) (disch := first | omega | simp) [hkl, c1, c2]))
                    | ((with_reducible refine side' ?_ fun K2 hK2 => ?_); exact rfl; (try simp (maxSteps := 10000000) (disch := first | omega | simp) [hkl, c1, c2]); refine hK2 _ _ (by simp) ?_; clear hK2 K2; (try simp (maxSteps := 10000000) (disch := first | omega | simp) [hkl, c1, c2]))) <;> clear hK K)
                | ((with_reducible refine awCond fun A B hA hB => ?_); simp (maxSteps := 10000000) (disch := first | omega | simp) [hkl, c1, c2]; (first | refine ⟨fun h => hA ?_, fun h => hB ?_⟩ | refine hA ?_ | refine hB ?_) <;> (clear hA hB A B; (try (exfalso; omega))))
            (refine ⟨?_, insL l k ⟨m.brokers[i].id, rankR m m.brokers[i], m.brokers[i].rack⟩, ?_, Wk.ofA ?_⟩; assumption; rotate_left; focus (simp [insL]; done))
            exact ⟨hs, by omega⟩
      · have hn : k = posE (rankR m m.brokers[i]) m.brokers[i].rack l := posE_stop _ _ _ _ hk fun h0 => by first | omega | (unfold befE; simp [*]; omega) | (unfold befE; simp [*])
        have e1 := insertE_ok l k ⟨m.brokers[i].id, rankR m m.brokers[i], m.brokers[i].rack⟩ Ent.id (by omega) (by omega)
        have e2 := insertE_ok l k ⟨m.brokers[i].id, rankR m m.brokers[i], m.brokers[i].rack⟩ Ent.rank (by omega) (by omega)
        have e3 : insE l ⟨m.brokers[i].id, rankR m m.brokers[i], m.brokers[i].rack⟩ = insL l k ⟨m.brokers[i].id, rankR m m.brokers[i], m.brokers[i].rack⟩ := by unfold insE; rw [← hn]
        rw [e3] at hs
        have hlen := insL_len l k ⟨m.brokers[i].id, rankR m m.brokers[i], m.brokers[i].rack⟩
        repeat' first
            | (with_reducible first | refine thN ?_ | refine thR ?_ | refine thE ?_ | refine inN ?_ | refine inR ?_ | refine inH ?_ | refine fF ?_ | refine fS ?_ | refine fR ?_ | refine fQ ?_ | refine fC ?_ | refine fB ?_ | refine fL ?_ | refine fE ?_ | refine fT ?_ | refine awBlock ?_ | refine awExit ?_ | refine awRet ?_ | refine awSkip ?_ | refine inM (by decide) ?_)
            | ((with_reducible refine awReg fun K hok hK => ?_); clear hok; (try simp (maxSteps := 10000000) (disch := first | omega | simp) [hkl]); (repeat' first
                | (with_reducible refine hK _ (by simp) ?_)
                | ((with_reducible refine gdT (fun h => ?_) (fun h => ?_)) <;> (simp (maxSteps := 10000000) (disch := first | omega | simp) [h, hkl]; (try simp at h); (try (exfalso; omega))))
                | ((with_reducible refine gdF (fun h => ?_) (fun h => ?_)) <;> (simp (maxSteps := 10000000) (disch := first | omega | simp) [h, hkl]; (try simp at h); (try (exfalso; omega))))
                | ((with_reducible refine callS' fun K2 hK2 => ?_); (try simp (maxSteps := 10000000) (disch := first | omega | simp) [hkl]); (first | (refine hK2 _ _ (e1) rfl fun hk9 => ?_; clear hk9) | (refine hK2 _ _ (e2) rfl fun hk9 => ?_; clear hk9)); clear hK2 K2; (try simp (maxSteps := 10000000) (disch := first | omega | simp) [hkl]))
                | ((with_reducible refine callF' fun K2 hK2 => ?_); (try simp (maxSteps := 10000000) (disch := first | omega | simp) [hkl]); (first | refine hK2 _ _ _ (e1) fun _ => ?_ | refine hK2 _ _ _ (e2) fun _ => ?_); clear hK2 K2; (try simp (maxSteps := 10000000) (disch := first | omega | simp) [hkl]))
                | ((with_reducible refine sideS' fun K2 hK2 => ?_); (try simp (maxSteps := 10000000) (disch := first | omega | simp) [hkl]); (first | refine hK2 _ _ (e1) rfl ?_ | refine hK2 _ _ (e2) rfl ?_); clear hK2 K2; (try simp (maxSteps := 10000000) (disch := first | omega | simp) [hkl]))
                | ((with_reducible refine sideF' fun K2 hK2 => ?_); (try simp (maxSteps := 10000000) (disch := first | omega | simp) [hkl]); (first | refine hK2 _ _ _ (e1) (by simp) ?_ | refine hK2 _ _ _ (e2) (by simp) ?_); clear hK2 K2; (try simp (maxSteps := 10000000) (disch := first | omega | simp) [hkl]))
                | ((with_reducible refine callM' rfl fun K2 hK2 => ?_); (try simp (maxSteps := 10000000) (disch := first | omega | simp) [hkl]); (first | refine hK2 _ _ _ _ _ _ _ (e1) rfl fun _ _ => ?_ | refine hK2 _ _ _ _ _ _ _ (e2) rfl fun _ _ => ?_); clear hK2 K2; (try simp (maxSteps := 10000000) (disch := first | omega | simp) [hkl]))
                | ((with_reducible refine callT' rfl fun K2 hK2 => ?_); (try simp (maxSteps := 10000000) (disch := first | omega | simp) [hkl]); (first | refine hK2 _ _ _ _ _ (e1) fun _ => ?_ | refine hK2 _ _ _ _ _ (e2) fun _ => ?_); clear hK2 K2; (try simp (maxSteps := 10000000) (disch := first | omega | simp) [hkl]))
                | ((with_reducible refine sideSt' fun K2 hK2 => ?_); (try simp (maxSteps := 10000000) (disch := first | omega | simp) [hkl]); refine hK2 _ ?_; clear hK2 K2; (try simp (maxSteps := 10000000) (disch := first | omega | simp) [hkl]))
                | ((with_reducible refine gdU ?_); (try simp (maxSteps := 10000000) (disch := first | omega | simp) [hkl]))
                | ((with_reducible refine sideQ' ?_ ?_ fun K2 hK2 => ?_); exact rfl; exact rfl; (try simp (maxSteps := 10000000) (disch := first | omega | simp) [hkl]); with_reducible refine hK2 _ _ ?_; clear hK2 K2; (try simp (maxSteps := 10000000) (disch := first | omega | simp) [hkl]))
                | ((with_reducible refine side' ?_ fun K2 hK2 => ?_); exact rfl; (try simp (maxSteps := 10000000) (disch := first | omega | simp) [hkl]); refine hK2 _ _ (by simp) ?_; clear hK2 K2; (try simp (maxSteps := 10000000) (disch := first | omega | simp) [hkl]))) <;> clear hK K)
            | ((with_reducible refine awCond fun A B hA hB => ?_); simp (maxSteps := 10000000) (disch := first | omega | simp) [hkl]; (first | refine ⟨fun h => hA ?_, fun h => hB ?_⟩ | refine hA ?_ | refine hB ?_) <;> (clear hA hB A B; (try (exfalso; omega))))
        (refine ⟨?_, insL l k ⟨m.brokers[i].id, rankR m m.brokers[i], m.brokers[i].rack⟩, ?_, Wk.ofA ?_⟩; assumption; rotate_left; focus (simp [insL]; done))
        exact ⟨hs, by omega⟩
  · have e : refOrder m = l.map Ent.id := by rw [drop_nil (by omega), List.foldl_nil] at hs; rw [hs]; rfl
    clear hs
    repeat' first
        | (with_reducible first | refine thN ?_ | refine thR ?_ | refine thE ?_ | refine inN ?_ | refine inR ?_ | refine inH ?_ | refine fF ?_ | refine fS ?_ | refine fR ?_ | refine fQ ?_ | refine fC ?_ | refine fB ?_ | refine fL ?_ | refine fE ?_ | refine fT ?_ | refine awBlock ?_ | refine awExit ?_ | refine awRet ?_ | refine awSkip ?_ | refine inM (by decide) ?_)
        | ((with_reducible refine awReg fun K hok hK => ?_); clear hok; (try simp (maxSteps := 10000000) (disch := first | omega | simp) [hlt]); (repeat' first
            | (with_reducible refine hK _ (by simp) ?_)
            | ((with_reducible refine gdT (fun h => ?_) (fun h => ?_)) <;> (simp (maxSteps := 10000000) (disch := first | omega | simp) [h, hlt]; (try simp at h); (try (exfalso; omega))))
            | ((with_reducible refine gdF (fun h => ?_) (fun h => ?_)) <;> (simp (maxSteps := 10000000) (disch := first | omega | simp) [h, hlt]; (try simp at h); (try (exfalso; omega))))
            | ((with_reducible refine sideSt' fun K2 hK2 => ?_); (try simp (maxSteps := 10000000) (disch := first | omega | simp) [hlt]); refine hK2 _ ?_; clear hK2 K2; (try simp (maxSteps := 10000000) (disch := first | omega | simp) [hlt]))
            | ((with_reducible refine gdU ?_); (try simp (maxSteps := 10000000) (disch := first | omega | simp) [hlt]))
            | ((with_reducible refine sideQ' ?_ ?_ fun K2 hK2 => ?_); exact rfl; exact rfl; (try simp (maxSteps := 10000000) (disch := first | omega | simp) [hlt]); with_reducible refine hK2 _ _ ?_; clear hK2 K2; (try simp (maxSteps := 10000000) (disch := first | omega | simp) [hlt]))
            | ((with_reducible refine side' ?_ fun K2 hK2 => ?_); exact rfl; (try simp (maxSteps := 10000000) (disch := first | omega | simp) [hlt]); refine hK2 _ _ (by simp) ?_; clear hK2 K2; (try simp (maxSteps := 10000000) (disch := first | omega | simp) [hlt]))) <;> clear hK K)
        | ((with_reducible refine awCond fun A B hA hB => ?_); simp (maxSteps := 10000000) (disch := first | omega | simp) [hlt]; (first | refine ⟨fun h => hA ?_, fun h => hB ?_⟩ | refine hA ?_ | refine hB ?_) <;> (clear hA hB A B; (try (exfalso; omega))))
    (refine aEnR (aRes [] fun K hK => ?_); simp (maxSteps := 10000000) (disch := first | omega | simp) [e]; refine hK _ ?_ (by simp); clear hK; first | done | (simp (maxSteps := 10000000) (disch := first | omega | simp) [e, *]; done) | (simp (maxSteps := 10000000) (disch := first | omega | simp) [e, *]; omega) | (simp_all [e]; done) | (simp_all [e]; omega))
end
end Go.Am
