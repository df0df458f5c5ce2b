/- Part of the proof of ElectLeaves. -/
import Derived.Test.YteijffflinnccaaZE11p
import Derived.Test.YteijffflinnccaaZE4s
import Derived.Test.YteijffflinnccaaZE9
set_option linter.all false
set_option maxRecDepth 100000
set_option maxHeartbeats 0
namespace Go.Am
open Go
noncomputable section
def c5 : SC := (.seq (.reg [⟨some 10, .assign (.const (.bool false)), none, []⟩] [0, 1, 2, 3, 4, 28, 41, 55, 56, 57, 58, 69, 70, 75, 76, 77, 81, 82, 83, 87, 88, 89, 93, 94, 95, 99, 100, 101, 102, 103]) (.seq (.reg [⟨some 20, .move (.tmp 0), none, []⟩,
  ⟨some 21, .call { callee := .value (.func 14), args := #[.tmp 20], argTypes := #[22] }, none, []⟩,
  ⟨some 22, .unOp .not 4 (.tmp 21), none, []⟩,
  ⟨some 23, .move (.tmp 22), none, []⟩,
  ⟨some 24, .move (.tmp 4), (some (23, false)), []⟩,
  ⟨some 25, .call { callee := .builtin .len, args := #[.tmp 24], argTypes := #[41] }, (some (23, false)), []⟩,
  ⟨some 26, .binOp .gtr 3 (.tmp 25) (.const (.int .i64 60)) 3, (some (23, false)), []⟩,
  ⟨some 27, .pick (.tmp 23) (.const (.bool true)) (.tmp 26), none, []⟩] [0, 1, 2, 3, 4, 22, 23, 26, 27, 28, 41, 55, 56, 57, 58, 69, 70, 75, 76, 77, 81, 82, 83, 87, 88, 89, 93, 94, 95, 99, 100, 101, 102, 103]) (.seq (.cond (.tmp 27) (.seq (.reg [⟨some 28, .call { callee := .value (.func 15), args := #[], argTypes := #[] }, none, []⟩,
  ⟨some 10, .assign (.tmp 28), none, []⟩] [10, 28, 41, 55, 56, 57, 58, 69, 70, 75, 76, 77, 81, 82, 83, 87, 88, 89, 93, 94, 95, 99, 100, 101, 102, 103]) .ret) .skip) (.seq (.reg [⟨some 29, .move (.tmp 0), none, []⟩,
  ⟨some 30, .call { callee := .value (.func 16), args := #[.tmp 29], argTypes := #[22] }, none, []⟩,
  ⟨some 11, .alloc 30, none, []⟩,
  ⟨none, .store 30 (.tmp 11) (.tmp 30), none, []⟩] [1, 2, 3, 4, 11, 28, 41, 55, 56, 57, 58, 69, 70, 75, 76, 77, 81, 82, 83, 87, 88, 89, 93, 94, 95, 99, 100, 101, 102, 103]) (.seq (.reg [⟨some 32, .load 30 (.tmp 11), none, []⟩,
  ⟨some 33, .move (.tmp 1), none, []⟩,
  ⟨some 34, .call { callee := .value (.func 24), args := #[.tmp 32, .tmp 33], argTypes := #[30, 3] }, none, []⟩,
  ⟨some 31, .move (.tmp 34), none, []⟩,
  ⟨some 35, .extract (.tmp 31) 0, none, []⟩,
  ⟨some 36, .extract (.tmp 31) 1, none, []⟩,
  ⟨some 37, .extract (.tmp 31) 2, none, []⟩,
  ⟨some 38, .extract (.tmp 31) 3, none, []⟩,
  ⟨some 14, .alloc 48, none, []⟩,
  ⟨some 12, .assign (.tmp 35), none, []⟩,
  ⟨some 13, .assign (.tmp 36), none, []⟩,
  ⟨none, .store 48 (.tmp 14) (.tmp 37), none, []⟩,
  ⟨some 15, .assign (.tmp 38), none, []⟩] [2, 3, 4, 11, 12, 13, 14, 15, 28, 31, 34, 35, 36, 38, 41, 55, 56, 57, 58, 69, 70, 75, 76, 77, 81, 82, 83, 87, 88, 89, 93, 94, 95, 99, 100, 101, 102, 103]) (.seq (.reg [⟨some 39, .move (.tmp 15), none, []⟩,
  ⟨some 40, .unOp .not 4 (.tmp 39), none, []⟩] [2, 3, 4, 11, 12, 13, 14, 28, 31, 34, 35, 36, 40, 41, 55, 56, 57, 58, 69, 70, 75, 76, 77, 81, 82, 83, 87, 88, 89, 93, 94, 95, 99, 100, 101, 102, 103]) (.seq (.cond (.tmp 40) (.seq (.reg [⟨some 41, .call { callee := .value (.func 15), args := #[], argTypes := #[] }, none, []⟩,
  ⟨some 10, .assign (.tmp 41), none, []⟩] [10, 28, 41, 55, 56, 57, 58, 69, 70, 75, 76, 77, 81, 82, 83, 87, 88, 89, 93, 94, 95, 99, 100, 101, 102, 103]) .ret) .skip) (.seq (.reg [⟨some 43, .load 30 (.tmp 11), none, []⟩,
  ⟨some 44, .load 48 (.tmp 14), none, []⟩,
  ⟨some 45, .move (.tmp 2), none, []⟩,
  ⟨some 46, .move (.tmp 3), none, []⟩,
  ⟨some 47, .move (.tmp 4), none, []⟩,
  ⟨some 48, .call { callee := .value (.func 25), args := #[.tmp 43, .tmp 44, .tmp 45, .tmp 46, .tmp 47], argTypes := #[30, 48, 3, 3, 41] }, none, []⟩,
  ⟨some 42, .move (.tmp 48), none, []⟩,
  ⟨some 49, .extract (.tmp 42) 0, none, []⟩,
  ⟨some 50, .extract (.tmp 42) 1, none, []⟩,
  ⟨some 16, .alloc 48, none, []⟩,
  ⟨none, .store 48 (.tmp 16) (.tmp 49), none, []⟩,
  ⟨some 17, .assign (.tmp 50), none, []⟩] [2, 3, 11, 12, 13, 14, 16, 17, 28, 31, 34, 35, 36, 41, 42, 48, 50, 55, 56, 57, 58, 69, 70, 75, 76, 77, 81, 82, 83, 87, 88, 89, 93, 94, 95, 99, 100, 101, 102, 103]) (.seq (.reg [⟨some 51, .move (.tmp 17), none, []⟩,
  ⟨some 52, .binOp .neq 55 (.tmp 51) (.const .nilIface) 55, none, []⟩] [2, 3, 11, 12, 13, 14, 16, 28, 31, 34, 35, 36, 41, 52, 55, 56, 57, 58, 69, 70, 75, 76, 77, 81, 82, 83, 87, 88, 89, 93, 94, 95, 99, 100, 101, 102, 103]) (.seq (.cond (.tmp 52) (.seq (.reg [⟨some 53, .load 48 (.tmp 14), none, []⟩,
  ⟨some 54, .load 48 (.tmp 16), none, []⟩,
  ⟨some 55, .call { callee := .value (.func 26), args := #[.tmp 53, .tmp 54], argTypes := #[48, 48] }, none, []⟩,
  ⟨some 56, .move (.tmp 55), none, []⟩,
  ⟨some 57, .call { callee := .value (.func 15), args := #[], argTypes := #[] }, (some (56, true)), []⟩,
  ⟨some 58, .pick (.tmp 56) (.tmp 57) (.const (.bool false)), none, []⟩,
  ⟨some 10, .assign (.tmp 58), none, []⟩] [10, 28, 41, 55, 56, 57, 58, 69, 70, 75, 76, 77, 81, 82, 83, 87, 88, 89, 93, 94, 95, 99, 100, 101, 102, 103]) .ret) .skip) (.seq (.reg [⟨some 60, .load 30 (.tmp 11), none, [61, 62, 63, 64, 18]⟩,
  ⟨some 61, .move (.tmp 12), none, [60, 62, 63, 18]⟩,
  ⟨some 62, .move (.tmp 13), none, [60, 61, 63, 18]⟩,
  ⟨some 63, .load 48 (.tmp 16), none, [60, 61, 62, 18]⟩,
  ⟨some 64, .call { callee := .value (.func 27), args := #[.tmp 61, .tmp 62, .tmp 63], argTypes := #[3, 3, 48] }, none, [60, 18]⟩,
  ⟨some 65, .call { callee := .value (.func 20), args := #[.tmp 60, .tmp 64], argTypes := #[30, 43] }, none, [18]⟩,
  ⟨some 59, .move (.tmp 65), none, [18]⟩,
  ⟨some 66, .extract (.tmp 59) 0, none, [67, 18]⟩,
  ⟨some 67, .extract (.tmp 59) 1, none, [66, 18, 18]⟩,
  ⟨some 18, .alloc 30, none, [60, 61, 62, 63, 64, 65, 59, 66, 67]⟩,
  ⟨none, .store 30 (.tmp 18) (.tmp 66), none, [67]⟩,
  ⟨some 19, .assign (.tmp 67), none, []⟩] [2, 3, 14, 16, 19, 28, 41, 55, 56, 57, 58, 59, 65, 67]) (.seq (.reg [⟨some 68, .move (.tmp 19), none, []⟩,
  ⟨some 69, .binOp .eql 35 (.tmp 68) (.const (.int .i64 0)) 35, none, []⟩,
  ⟨some 70, .move (.tmp 69), none, []⟩,
  ⟨some 71, .fieldAddr 48 (.tmp 16) 3, (some (70, true)), []⟩,
  ⟨some 72, .load 3 (.tmp 71), (some (70, true)), []⟩,
  ⟨some 73, .fieldAddr 48 (.tmp 14) 3, (some (70, true)), []⟩,
  ⟨some 74, .load 3 (.tmp 73), (some (70, true)), []⟩,
  ⟨some 75, .binOp .eql 3 (.tmp 72) (.tmp 74) 3, (some (70, true)), []⟩,
  ⟨some 76, .pick (.tmp 70) (.tmp 75) (.const (.bool false)), none, []⟩,
  ⟨some 77, .move (.tmp 76), none, []⟩,
  ⟨some 78, .fieldAddr 48 (.tmp 16) 2, (some (77, true)), []⟩,
  ⟨some 79, .load 3 (.tmp 78), (some (77, true)), []⟩,
  ⟨some 80, .move (.tmp 2), (some (77, true)), []⟩,
  ⟨some 81, .binOp .eql 3 (.tmp 79) (.tmp 80) 3, (some (77, true)), []⟩,
  ⟨some 82, .pick (.tmp 77) (.tmp 81) (.const (.bool false)), none, []⟩,
  ⟨some 83, .move (.tmp 82), none, []⟩,
  ⟨some 84, .fieldAddr 48 (.tmp 14) 2, (some (83, true)), []⟩,
  ⟨some 85, .load 3 (.tmp 84), (some (83, true)), []⟩,
  ⟨some 86, .move (.tmp 2), (some (83, true)), []⟩,
  ⟨some 87, .binOp .eql 3 (.tmp 85) (.tmp 86) 3, (some (83, true)), []⟩,
  ⟨some 88, .pick (.tmp 83) (.tmp 87) (.const (.bool false)), none, []⟩,
  ⟨some 89, .move (.tmp 88), none, []⟩,
  ⟨some 90, .move (.tmp 3), (some (89, true)), []⟩,
  ⟨some 91, .fieldAddr 48 (.tmp 14) 3, (some (89, true)), []⟩,
  ⟨some 92, .load 3 (.tmp 91), (some (89, true)), []⟩,
  ⟨some 93, .binOp .eql 3 (.tmp 90) (.tmp 92) 3, (some (89, true)), []⟩,
  ⟨some 94, .pick (.tmp 89) (.tmp 93) (.const (.bool false)), none, []⟩,
  ⟨some 95, .move (.tmp 94), none, []⟩,
  ⟨some 96, .fieldAddr 48 (.tmp 16) 1, (some (95, true)), []⟩,
  ⟨some 97, .load 41 (.tmp 96), (some (95, true)), []⟩,
  ⟨some 98, .move (.tmp 2), (some (95, true)), []⟩,
  ⟨some 99, .call { callee := .value (.func 23), args := #[.tmp 97, .tmp 98], argTypes := #[41, 3] }, (some (95, true)), []⟩,
  ⟨some 100, .pick (.tmp 95) (.tmp 99) (.const (.bool false)), none, []⟩,
  ⟨some 101, .move (.tmp 100), none, []⟩,
  ⟨some 102, .call { callee := .value (.func 15), args := #[], argTypes := #[] }, (some (101, true)), []⟩,
  ⟨some 103, .pick (.tmp 101) (.tmp 102) (.const (.bool false)), none, []⟩,
  ⟨some 10, .assign (.tmp 103), none, []⟩] [10, 28, 41, 55, 56, 57, 58, 69, 70, 75, 76, 77, 81, 82, 83, 87, 88, 89, 93, 94, 95, 99, 100, 101, 102, 103]) .ret))))))))))))
theorem s5 : TextK Proofs.Try.prog 0 5 104 [ResultVar.tmp 10] c5 := .mk' Proofs.Try.f5 _ (by kernel_rfl) rfl rfl rfl (by kernel_rfl) rfl (by kernel_rfl)
theorem syncs_walk (l : List Record) (n id ep : Int) (isr : List Int) : ACall pg 5 [.sl (l.map encR), I n, I id, I ep, Li isr] (B true) := by
  refine s5.call mo (by simp) fun hxs => ?_
  clear hxs
  unfold c5
  by_cases hl : l.length ≤ 80
  · by_cases hil : isr.length ≤ 60
    · have hinv := made_inv l (by omega)
      have hpre := hinv.pre (by omega)
      have hmk := made_ok l (by omega)
      generalize hm : made l = m at *
      have hbk : m.Brk := ⟨hinv.bs, fun b hb => by have := hinv.br b hb; omega, by have := hinv.bl; omega⟩
      have hpk := pickPart_ok m n hpre
      cases hsel : m.sel n with
      | none =>
        rw [hsel, encSel_none] at hpk
        repeat' first
            | (with_reducible first | refine thN ?_ | refine thR ?_ | refine thE ?_ | refine inN ?_ | refine inR ?_ | refine inH ?_ | refine fF ?_ | refine fS ?_ | refine fR ?_ | refine fQ ?_ | refine fC ?_ | refine fB ?_ | refine fL ?_ | refine fE ?_ | refine fT ?_ | refine awBlock ?_ | refine awExit ?_ | refine awRet ?_ | refine awSkip ?_ | refine inM (by decide) ?_)
            | ((with_reducible refine awReg fun K hok hK => ?_); clear hok; (try simp (maxSteps := 10000000) (disch := first | omega | simp) [hl, hil, isConst]); (repeat' first
                | (with_reducible refine hK _ (by simp) ?_)
                | ((with_reducible refine gdT (fun h => ?_) (fun h => ?_)) <;> (simp (maxSteps := 10000000) (disch := first | omega | simp) [h, hl, hil, isConst]; (try simp at h); (try (exfalso; omega))))
                | ((with_reducible refine gdF (fun h => ?_) (fun h => ?_)) <;> (simp (maxSteps := 10000000) (disch := first | omega | simp) [h, hl, hil, isConst]; (try simp at h); (try (exfalso; omega))))
                | ((with_reducible refine callS' fun K2 hK2 => ?_); (try simp (maxSteps := 10000000) (disch := first | omega | simp) [hl, hil, isConst]); (first | (refine hK2 _ _ (light_ok l) rfl fun hk9 => ?_; clear hk9) | (refine hK2 _ _ (works_ok) rfl fun hk9 => ?_; clear hk9) | (refine hK2 _ _ (hmk) rfl fun hk9 => ?_; clear hk9) | (refine hK2 _ _ (hpk) rfl fun hk9 => ?_; clear hk9)); clear hK2 K2; (try simp (maxSteps := 10000000) (disch := first | omega | simp) [hl, hil, isConst]))
                | ((with_reducible refine callF' fun K2 hK2 => ?_); (try simp (maxSteps := 10000000) (disch := first | omega | simp) [hl, hil, isConst]); (first | refine hK2 _ _ _ (light_ok l) fun _ => ?_ | refine hK2 _ _ _ (works_ok) fun _ => ?_ | refine hK2 _ _ _ (hmk) fun _ => ?_ | refine hK2 _ _ _ (hpk) fun _ => ?_); clear hK2 K2; (try simp (maxSteps := 10000000) (disch := first | omega | simp) [hl, hil, isConst]))
                | ((with_reducible refine sideS' fun K2 hK2 => ?_); (try simp (maxSteps := 10000000) (disch := first | omega | simp) [hl, hil, isConst]); (first | refine hK2 _ _ (light_ok l) rfl ?_ | refine hK2 _ _ (works_ok) rfl ?_ | refine hK2 _ _ (hmk) rfl ?_ | refine hK2 _ _ (hpk) rfl ?_); clear hK2 K2; (try simp (maxSteps := 10000000) (disch := first | omega | simp) [hl, hil, isConst]))
                | ((with_reducible refine sideF' fun K2 hK2 => ?_); (try simp (maxSteps := 10000000) (disch := first | omega | simp) [hl, hil, isConst]); (first | refine hK2 _ _ _ (light_ok l) (by simp) ?_ | refine hK2 _ _ _ (works_ok) (by simp) ?_ | refine hK2 _ _ _ (hmk) (by simp) ?_ | refine hK2 _ _ _ (hpk) (by simp) ?_); clear hK2 K2; (try simp (maxSteps := 10000000) (disch := first | omega | simp) [hl, hil, isConst]))
                | ((with_reducible refine callT' rfl fun K2 hK2 => ?_); (try simp (maxSteps := 10000000) (disch := first | omega | simp) [hl, hil, isConst]); (first | refine hK2 _ _ _ _ _ (hmk) fun _ => ?_ | refine hK2 _ _ _ _ _ (hpk) fun _ => ?_); clear hK2 K2; (try simp (maxSteps := 10000000) (disch := first | omega | simp) [hl, hil, isConst]))
                | ((with_reducible refine callM' rfl fun K2 hK2 => ?_); (try simp (maxSteps := 10000000) (disch := first | omega | simp) [hl, hil, isConst]); (first | refine hK2 _ _ _ _ _ _ _ (hmk) rfl fun _ _ => ?_ | refine hK2 _ _ _ _ _ _ _ (hpk) rfl fun _ _ => ?_); clear hK2 K2; (try simp (maxSteps := 10000000) (disch := first | omega | simp) [hl, hil, isConst]))
                | ((with_reducible refine sideSt' fun K2 hK2 => ?_); (try simp (maxSteps := 10000000) (disch := first | omega | simp) [hl, hil, isConst]); refine hK2 _ ?_; clear hK2 K2; (try simp (maxSteps := 10000000) (disch := first | omega | simp) [hl, hil, isConst]))
                | ((with_reducible refine gdU ?_); (try simp (maxSteps := 10000000) (disch := first | omega | simp) [hl, hil, isConst]))
                | ((with_reducible refine sideQ' ?_ ?_ fun K2 hK2 => ?_); exact rfl; exact rfl; (try simp (maxSteps := 10000000) (disch := first | omega | simp) [hl, hil, isConst]); with_reducible refine hK2 _ _ ?_; clear hK2 K2; (try simp (maxSteps := 10000000) (disch := first | omega | simp) [hl, hil, isConst]))
                | ((with_reducible refine side' ?_ fun K2 hK2 => ?_); exact rfl; (try simp (maxSteps := 10000000) (disch := first | omega | simp) [hl, hil, isConst]); refine hK2 _ _ (by simp) ?_; clear hK2 K2; (try simp (maxSteps := 10000000) (disch := first | omega | simp) [hl, hil, isConst]))) <;> clear hK K)
            | ((with_reducible refine awCond fun A B hA hB => ?_); simp (maxSteps := 10000000) (disch := first | omega | simp) [hl, hil, isConst]; (first | refine ⟨fun h => hA ?_, fun h => hB ?_⟩ | refine hA ?_ | refine hB ?_) <;> (clear hA hB A B; (try (exfalso; omega))))
        all_goals (refine aEnR (aRes [] fun K hK => ?_); simp (maxSteps := 10000000) (disch := first | omega | simp) []; refine hK _ ?_ (by simp); clear hK; first | done | (simp (maxSteps := 10000000) (disch := first | omega | simp) [*]; done) | (simp (maxSteps := 10000000) (disch := first | omega | simp) [*]; omega) | (simp_all []; done) | (simp_all []; omega))
      | some r =>
        obtain ⟨t, k, p⟩ := r
        rw [hsel, encSel_some] at hpk
        obtain ⟨T, hT, rfl, hk⟩ := sel_spec hsel
        have hpm : p ∈ T.parts := List.mem_of_getElem? hk
        have hpr := hinv.pr T hT p hpm
        have hsy := sync_ok m p id ep isr hbk (small_of hpr.2) (by omega) (big_of hpr.2)
        cases he : (m.sync p id ep isr).2 with
        | some e =>
          have e1 := sync_err he
          rw [he, e1, errO_some] at hsy
          have hsp := samePart_ok' p p
          rw [show p.same p = true from by simp [Part.same]] at hsp
          repeat' first
              | (with_reducible first | refine thN ?_ | refine thR ?_ | refine thE ?_ | refine inN ?_ | refine inR ?_ | refine inH ?_ | refine fF ?_ | refine fS ?_ | refine fR ?_ | refine fQ ?_ | refine fC ?_ | refine fB ?_ | refine fL ?_ | refine fE ?_ | refine fT ?_ | refine awBlock ?_ | refine awExit ?_ | refine awRet ?_ | refine awSkip ?_ | refine inM (by decide) ?_)
              | ((with_reducible refine awReg fun K hok hK => ?_); clear hok; (try simp (maxSteps := 10000000) (disch := first | omega | simp) [hl, hil, isConst]); (repeat' first
                  | (with_reducible refine hK _ (by simp) ?_)
                  | ((with_reducible refine gdT (fun h => ?_) (fun h => ?_)) <;> (simp (maxSteps := 10000000) (disch := first | omega | simp) [h, hl, hil, isConst]; (try simp at h); (try (exfalso; omega))))
                  | ((with_reducible refine gdF (fun h => ?_) (fun h => ?_)) <;> (simp (maxSteps := 10000000) (disch := first | omega | simp) [h, hl, hil, isConst]; (try simp at h); (try (exfalso; omega))))
                  | ((with_reducible refine callS' fun K2 hK2 => ?_); (try simp (maxSteps := 10000000) (disch := first | omega | simp) [hl, hil, isConst]); (first | (refine hK2 _ _ (light_ok l) rfl fun hk9 => ?_; clear hk9) | (refine hK2 _ _ (works_ok) rfl fun hk9 => ?_; clear hk9) | (refine hK2 _ _ (hmk) rfl fun hk9 => ?_; clear hk9) | (refine hK2 _ _ (hpk) rfl fun hk9 => ?_; clear hk9) | (refine hK2 _ _ (hsy) rfl fun hk9 => ?_; clear hk9) | (refine hK2 _ _ (hsp) rfl fun hk9 => ?_; clear hk9)); clear hK2 K2; (try simp (maxSteps := 10000000) (disch := first | omega | simp) [hl, hil, isConst]))
                  | ((with_reducible refine callF' fun K2 hK2 => ?_); (try simp (maxSteps := 10000000) (disch := first | omega | simp) [hl, hil, isConst]); (first | refine hK2 _ _ _ (light_ok l) fun _ => ?_ | refine hK2 _ _ _ (works_ok) fun _ => ?_ | refine hK2 _ _ _ (hmk) fun _ => ?_ | refine hK2 _ _ _ (hpk) fun _ => ?_ | refine hK2 _ _ _ (hsy) fun _ => ?_ | refine hK2 _ _ _ (hsp) fun _ => ?_); clear hK2 K2; (try simp (maxSteps := 10000000) (disch := first | omega | simp) [hl, hil, isConst]))
                  | ((with_reducible refine sideS' fun K2 hK2 => ?_); (try simp (maxSteps := 10000000) (disch := first | omega | simp) [hl, hil, isConst]); (first | refine hK2 _ _ (light_ok l) rfl ?_ | refine hK2 _ _ (works_ok) rfl ?_ | refine hK2 _ _ (hmk) rfl ?_ | refine hK2 _ _ (hpk) rfl ?_ | refine hK2 _ _ (hsy) rfl ?_ | refine hK2 _ _ (hsp) rfl ?_); clear hK2 K2; (try simp (maxSteps := 10000000) (disch := first | omega | simp) [hl, hil, isConst]))
                  | ((with_reducible refine sideF' fun K2 hK2 => ?_); (try simp (maxSteps := 10000000) (disch := first | omega | simp) [hl, hil, isConst]); (first | refine hK2 _ _ _ (light_ok l) (by simp) ?_ | refine hK2 _ _ _ (works_ok) (by simp) ?_ | refine hK2 _ _ _ (hmk) (by simp) ?_ | refine hK2 _ _ _ (hpk) (by simp) ?_ | refine hK2 _ _ _ (hsy) (by simp) ?_ | refine hK2 _ _ _ (hsp) (by simp) ?_); clear hK2 K2; (try simp (maxSteps := 10000000) (disch := first | omega | simp) [hl, hil, isConst]))
                  | ((with_reducible refine callT' rfl fun K2 hK2 => ?_); (try simp (maxSteps := 10000000) (disch := first | omega | simp) [hl, hil, isConst]); (first | refine hK2 _ _ _ _ _ (hmk) fun _ => ?_ | refine hK2 _ _ _ _ _ (hpk) fun _ => ?_ | refine hK2 _ _ _ _ _ (hsy) fun _ => ?_ | refine hK2 _ _ _ _ _ (hsp) fun _ => ?_); clear hK2 K2; (try simp (maxSteps := 10000000) (disch := first | omega | simp) [hl, hil, isConst]))
                  | ((with_reducible refine callM' rfl fun K2 hK2 => ?_); (try simp (maxSteps := 10000000) (disch := first | omega | simp) [hl, hil, isConst]); (first | refine hK2 _ _ _ _ _ _ _ (hmk) rfl fun _ _ => ?_ | refine hK2 _ _ _ _ _ _ _ (hpk) rfl fun _ _ => ?_ | refine hK2 _ _ _ _ _ _ _ (hsy) rfl fun _ _ => ?_ | refine hK2 _ _ _ _ _ _ _ (hsp) rfl fun _ _ => ?_); clear hK2 K2; (try simp (maxSteps := 10000000) (disch := first | omega | simp) [hl, hil, isConst]))
                  | ((with_reducible refine sideSt' fun K2 hK2 => ?_); (try simp (maxSteps := 10000000) (disch := first | omega | simp) [hl, hil, isConst]); refine hK2 _ ?_; clear hK2 K2; (try simp (maxSteps := 10000000) (disch := first | omega | simp) [hl, hil, isConst]))
                  | ((with_reducible refine gdU ?_); (try simp (maxSteps := 10000000) (disch := first | omega | simp) [hl, hil, isConst]))
                  | ((with_reducible refine sideQ' ?_ ?_ fun K2 hK2 => ?_); exact rfl; exact rfl; (try simp (maxSteps := 10000000) (disch := first | omega | simp) [hl, hil, isConst]); with_reducible refine hK2 _ _ ?_; clear hK2 K2; (try simp (maxSteps := 10000000) (disch := first | omega | simp) [hl, hil, isConst]))
                  | ((with_reducible refine side' ?_ fun K2 hK2 => ?_); exact rfl; (try simp (maxSteps := 10000000) (disch := first | omega | simp) [hl, hil, isConst]); refine hK2 _ _ (by simp) ?_; clear hK2 K2; (try simp (maxSteps := 10000000) (disch := first | omega | simp) [hl, hil, isConst]))) <;> clear hK K)
              | ((with_reducible refine awCond fun A B hA hB => ?_); simp (maxSteps := 10000000) (disch := first | omega | simp) [hl, hil, isConst]; (first | refine ⟨fun h => hA ?_, fun h => hB ?_⟩ | refine hA ?_ | refine hB ?_) <;> (clear hA hB A B; (try (exfalso; omega))))
          all_goals (refine aEnR (aRes [] fun K hK => ?_); simp (maxSteps := 10000000) (disch := first | omega | simp) []; refine hK _ ?_ (by simp); clear hK; first | done | (simp (maxSteps := 10000000) (disch := first | omega | simp) [*]; done) | (simp (maxSteps := 10000000) (disch := first | omega | simp) [*]; omega) | (simp_all []; done) | (simp_all []; omega))
        | none =>
          have hnx := sync_next (by omega) hpr.1 hpr.2 he
          have hap0 := sync_apply hinv (by omega) hT hk he
          obtain ⟨e1, h1, h2, h3, h4, h5, h6, h7, h8⟩ := sync_none he
          subst h1 h3
          rw [e1] at hnx hap0 hsy
          rw [he, errO_none] at hsy
          have hch := change_ok T.id k { p with isr := isr } (small_of hnx.rows)
          have hap := apply_ok m (change T.id k { p with isr := isr }) hpre
          rw [hap0] at hap
          have hha := has_ok isr p.leader
          rw [show isr.contains p.leader = true from by simpa using h4] at hha
          repeat' first
              | (with_reducible first | refine thN ?_ | refine thR ?_ | refine thE ?_ | refine inN ?_ | refine inR ?_ | refine inH ?_ | refine fF ?_ | refine fS ?_ | refine fR ?_ | refine fQ ?_ | refine fC ?_ | refine fB ?_ | refine fL ?_ | refine fE ?_ | refine fT ?_ | refine awBlock ?_ | refine awExit ?_ | refine awRet ?_ | refine awSkip ?_ | refine inM (by decide) ?_)
              | ((with_reducible refine awReg fun K hok hK => ?_); clear hok; (try simp (maxSteps := 10000000) (disch := first | omega | simp) [hl, hil, isConst]); (repeat' first
                  | (with_reducible refine hK _ (by simp) ?_)
                  | ((with_reducible refine gdT (fun h => ?_) (fun h => ?_)) <;> (simp (maxSteps := 10000000) (disch := first | omega | simp) [h, hl, hil, isConst]; (try simp at h); (try (exfalso; omega))))
                  | ((with_reducible refine gdF (fun h => ?_) (fun h => ?_)) <;> (simp (maxSteps := 10000000) (disch := first | omega | simp) [h, hl, hil, isConst]; (try simp at h); (try (exfalso; omega))))
                  | ((with_reducible refine callS' fun K2 hK2 => ?_); (try simp (maxSteps := 10000000) (disch := first | omega | simp) [hl, hil, isConst]); (first | (refine hK2 _ _ (light_ok l) rfl fun hk9 => ?_; clear hk9) | (refine hK2 _ _ (works_ok) rfl fun hk9 => ?_; clear hk9) | (refine hK2 _ _ (hmk) rfl fun hk9 => ?_; clear hk9) | (refine hK2 _ _ (hpk) rfl fun hk9 => ?_; clear hk9) | (refine hK2 _ _ (hsy) rfl fun hk9 => ?_; clear hk9) | (refine hK2 _ _ (hch) rfl fun hk9 => ?_; clear hk9) | (refine hK2 _ _ (hap) rfl fun hk9 => ?_; clear hk9) | (refine hK2 _ _ (hha) rfl fun hk9 => ?_; clear hk9)); clear hK2 K2; (try simp (maxSteps := 10000000) (disch := first | omega | simp) [hl, hil, isConst]))
                  | ((with_reducible refine callF' fun K2 hK2 => ?_); (try simp (maxSteps := 10000000) (disch := first | omega | simp) [hl, hil, isConst]); (first | refine hK2 _ _ _ (light_ok l) fun _ => ?_ | refine hK2 _ _ _ (works_ok) fun _ => ?_ | refine hK2 _ _ _ (hmk) fun _ => ?_ | refine hK2 _ _ _ (hpk) fun _ => ?_ | refine hK2 _ _ _ (hsy) fun _ => ?_ | refine hK2 _ _ _ (hch) fun _ => ?_ | refine hK2 _ _ _ (hap) fun _ => ?_ | refine hK2 _ _ _ (hha) fun _ => ?_); clear hK2 K2; (try simp (maxSteps := 10000000) (disch := first | omega | simp) [hl, hil, isConst]))
                  | ((with_reducible refine sideS' fun K2 hK2 => ?_); (try simp (maxSteps := 10000000) (disch := first | omega | simp) [hl, hil, isConst]); (first | refine hK2 _ _ (light_ok l) rfl ?_ | refine hK2 _ _ (works_ok) rfl ?_ | refine hK2 _ _ (hmk) rfl ?_ | refine hK2 _ _ (hpk) rfl ?_ | refine hK2 _ _ (hsy) rfl ?_ | refine hK2 _ _ (hch) rfl ?_ | refine hK2 _ _ (hap) rfl ?_ | refine hK2 _ _ (hha) rfl ?_); clear hK2 K2; (try simp (maxSteps := 10000000) (disch := first | omega | simp) [hl, hil, isConst]))
                  | ((with_reducible refine sideF' fun K2 hK2 => ?_); (try simp (maxSteps := 10000000) (disch := first | omega | simp) [hl, hil, isConst]); (first | refine hK2 _ _ _ (light_ok l) (by simp) ?_ | refine hK2 _ _ _ (works_ok) (by simp) ?_ | refine hK2 _ _ _ (hmk) (by simp) ?_ | refine hK2 _ _ _ (hpk) (by simp) ?_ | refine hK2 _ _ _ (hsy) (by simp) ?_ | refine hK2 _ _ _ (hch) (by simp) ?_ | refine hK2 _ _ _ (hap) (by simp) ?_ | refine hK2 _ _ _ (hha) (by simp) ?_); clear hK2 K2; (try simp (maxSteps := 10000000) (disch := first | omega | simp) [hl, hil, isConst]))
                  | ((with_reducible refine callT' rfl fun K2 hK2 => ?_); (try simp (maxSteps := 10000000) (disch := first | omega | simp) [hl, hil, isConst]); (first | refine hK2 _ _ _ _ _ (hmk) fun _ => ?_ | refine hK2 _ _ _ _ _ (hpk) fun _ => ?_ | refine hK2 _ _ _ _ _ (hsy) fun _ => ?_ | refine hK2 _ _ _ _ _ (hch) fun _ => ?_ | refine hK2 _ _ _ _ _ (hap) fun _ => ?_ | refine hK2 _ _ _ _ _ (hha) fun _ => ?_); clear hK2 K2; (try simp (maxSteps := 10000000) (disch := first | omega | simp) [hl, hil, isConst]))
                  | ((with_reducible refine callM' rfl fun K2 hK2 => ?_); (try simp (maxSteps := 10000000) (disch := first | omega | simp) [hl, hil, isConst]); (first | refine hK2 _ _ _ _ _ _ _ (hmk) rfl fun _ _ => ?_ | refine hK2 _ _ _ _ _ _ _ (hpk) rfl fun _ _ => ?_ | refine hK2 _ _ _ _ _ _ _ (hsy) rfl fun _ _ => ?_ | refine hK2 _ _ _ _ _ _ _ (hch) rfl fun _ _ => ?_ | refine hK2 _ _ _ _ _ _ _ (hap) rfl fun _ _ => ?_ | refine hK2 _ _ _ _ _ _ _ (hha) rfl fun _ _ => ?_); clear hK2 K2; (try simp (maxSteps := 10000000) (disch := first | omega | simp) [hl, hil, isConst]))
                  | ((with_reducible refine sideSt' fun K2 hK2 => ?_); (try simp (maxSteps := 10000000) (disch := first | omega | simp) [hl, hil, isConst]); refine hK2 _ ?_; clear hK2 K2; (try simp (maxSteps := 10000000) (disch := first | omega | simp) [hl, hil, isConst]))
                  | ((with_reducible refine gdU ?_); (try simp (maxSteps := 10000000) (disch := first | omega | simp) [hl, hil, isConst]))
                  | ((with_reducible refine sideQ' ?_ ?_ fun K2 hK2 => ?_); exact rfl; exact rfl; (try simp (maxSteps := 10000000) (disch := first | omega | simp) [hl, hil, isConst]); with_reducible refine hK2 _ _ ?_; clear hK2 K2; (try simp (maxSteps := 10000000) (disch := first | omega | simp) [hl, hil, isConst]))
                  | ((with_reducible refine side' ?_ fun K2 hK2 => ?_); exact rfl; (try simp (maxSteps := 10000000) (disch := first | omega | simp) [hl, hil, isConst]); refine hK2 _ _ (by simp) ?_; clear hK2 K2; (try simp (maxSteps := 10000000) (disch := first | omega | simp) [hl, hil, isConst]))) <;> clear hK K)
              | ((with_reducible refine awCond fun A B hA hB => ?_); simp (maxSteps := 10000000) (disch := first | omega | simp) [hl, hil, isConst]; (first | refine ⟨fun h => hA ?_, fun h => hB ?_⟩ | refine hA ?_ | refine hB ?_) <;> (clear hA hB A B; (try (exfalso; omega))))
          all_goals (refine aEnR (aRes [] fun K hK => ?_); simp (maxSteps := 10000000) (disch := first | omega | simp) []; refine hK _ ?_ (by simp); clear hK; first | done | (simp (maxSteps := 10000000) (disch := first | omega | simp) [*]; done) | (simp (maxSteps := 10000000) (disch := first | omega | simp) [*]; omega) | (simp_all []; done) | (simp_all []; omega))
    · repeat' first
          | (with_reducible first | refine thN ?_ | refine thR ?_ | refine thE ?_ | refine inN ?_ | refine inR ?_ | refine inH ?_ | refine fF ?_ | refine fS ?_ | refine fR ?_ | refine fQ ?_ | refine fC ?_ | refine fB ?_ | refine fL ?_ | refine fE ?_ | refine fT ?_ | refine awBlock ?_ | refine awExit ?_ | refine awRet ?_ | refine awSkip ?_ | refine inM (by decide) ?_)
          | ((with_reducible refine awReg fun K hok hK => ?_); clear hok; (try simp (maxSteps := 10000000) (disch := first | omega | simp) [hl, hil, isConst]); (repeat' first
              | (with_reducible refine hK _ (by simp) ?_)
              | ((with_reducible refine gdT (fun h => ?_) (fun h => ?_)) <;> (simp (maxSteps := 10000000) (disch := first | omega | simp) [h, hl, hil, isConst]; (try simp at h); (try (exfalso; omega))))
              | ((with_reducible refine gdF (fun h => ?_) (fun h => ?_)) <;> (simp (maxSteps := 10000000) (disch := first | omega | simp) [h, hl, hil, isConst]; (try simp at h); (try (exfalso; omega))))
              | ((with_reducible refine callS' fun K2 hK2 => ?_); (try simp (maxSteps := 10000000) (disch := first | omega | simp) [hl, hil, isConst]); (first | (refine hK2 _ _ (light_ok l) rfl fun hk9 => ?_; clear hk9) | (refine hK2 _ _ (works_ok) rfl fun hk9 => ?_; clear hk9)); clear hK2 K2; (try simp (maxSteps := 10000000) (disch := first | omega | simp) [hl, hil, isConst]))
              | ((with_reducible refine callF' fun K2 hK2 => ?_); (try simp (maxSteps := 10000000) (disch := first | omega | simp) [hl, hil, isConst]); (first | refine hK2 _ _ _ (light_ok l) fun _ => ?_ | refine hK2 _ _ _ (works_ok) fun _ => ?_); clear hK2 K2; (try simp (maxSteps := 10000000) (disch := first | omega | simp) [hl, hil, isConst]))
              | ((with_reducible refine sideS' fun K2 hK2 => ?_); (try simp (maxSteps := 10000000) (disch := first | omega | simp) [hl, hil, isConst]); (first | refine hK2 _ _ (light_ok l) rfl ?_ | refine hK2 _ _ (works_ok) rfl ?_); clear hK2 K2; (try simp (maxSteps := 10000000) (disch := first | omega | simp) [hl, hil, isConst]))
              | ((with_reducible refine sideF' fun K2 hK2 => ?_); (try simp (maxSteps := 10000000) (disch := first | omega | simp) [hl, hil, isConst]); (first | refine hK2 _ _ _ (light_ok l) (by simp) ?_ | refine hK2 _ _ _ (works_ok) (by simp) ?_); clear hK2 K2; (try simp (maxSteps := 10000000) (disch := first | omega | simp) [hl, hil, isConst]))
              | ((with_reducible refine sideSt' fun K2 hK2 => ?_); (try simp (maxSteps := 10000000) (disch := first | omega | simp) [hl, hil, isConst]); refine hK2 _ ?_; clear hK2 K2; (try simp (maxSteps := 10000000) (disch := first | omega | simp) [hl, hil, isConst]))
              | ((with_reducible refine gdU ?_); (try simp (maxSteps := 10000000) (disch := first | omega | simp) [hl, hil, isConst]))
              | ((with_reducible refine sideQ' ?_ ?_ fun K2 hK2 => ?_); exact rfl; exact rfl; (try simp (maxSteps := 10000000) (disch := first | omega | simp) [hl, hil, isConst]); with_reducible refine hK2 _ _ ?_; clear hK2 K2; (try simp (maxSteps := 10000000) (disch := first | omega | simp) [hl, hil, isConst]))
              | ((with_reducible refine side' ?_ fun K2 hK2 => ?_); exact rfl; (try simp (maxSteps := 10000000) (disch := first | omega | simp) [hl, hil, isConst]); refine hK2 _ _ (by simp) ?_; clear hK2 K2; (try simp (maxSteps := 10000000) (disch := first | omega | simp) [hl, hil, isConst]))) <;> clear hK K)
          | ((with_reducible refine awCond fun A B hA hB => ?_); simp (maxSteps := 10000000) (disch := first | omega | simp) [hl, hil, isConst]; (first | refine ⟨fun h => hA ?_, fun h => hB ?_⟩ | refine hA ?_ | refine hB ?_) <;> (clear hA hB A B; (try (exfalso; omega))))
      all_goals (refine aEnR (aRes [] fun K hK => ?_); simp (maxSteps := 10000000) (disch := first | omega | simp) []; refine hK _ ?_ (by simp); clear hK; first | done | (simp (maxSteps := 10000000) (disch := first | omega | simp) [*]; done) | (simp (maxSteps := 10000000) (disch := first | omega | simp) [*]; omega) | (simp_all []; done) | (simp_all []; omega))
  · repeat' first
        | (with_reducible first | refine thN ?_ | refine thR ?_ | refine thE ?_ | refine inN ?_ | refine inR ?_ | refine inH ?_ | refine fF ?_ | refine fS ?_ | refine fR ?_ | refine fQ ?_ | refine fC ?_ | refine fB ?_ | refine fL ?_ | refine fE ?_ | refine fT ?_ | refine awBlock ?_ | refine awExit ?_ | refine awRet ?_ | refine awSkip ?_ | refine inM (by decide) ?_)
        | ((with_reducible refine awReg fun K hok hK => ?_); clear hok; (try simp (maxSteps := 10000000) (disch := first | omega | simp) [hl]); (repeat' first
            | (with_reducible refine hK _ (by simp) ?_)
            | ((with_reducible refine gdT (fun h => ?_) (fun h => ?_)) <;> (simp (maxSteps := 10000000) (disch := first | omega | simp) [h, hl]; (try simp at h); (try (exfalso; omega))))
            | ((with_reducible refine gdF (fun h => ?_) (fun h => ?_)) <;> (simp (maxSteps := 10000000) (disch := first | omega | simp) [h, hl]; (try simp at h); (try (exfalso; omega))))
            | ((with_reducible refine callS' fun K2 hK2 => ?_); (try simp (maxSteps := 10000000) (disch := first | omega | simp) [hl]); (first | (refine hK2 _ _ (light_ok l) rfl fun hk9 => ?_; clear hk9) | (refine hK2 _ _ (works_ok) rfl fun hk9 => ?_; clear hk9)); clear hK2 K2; (try simp (maxSteps := 10000000) (disch := first | omega | simp) [hl]))
            | ((with_reducible refine callF' fun K2 hK2 => ?_); (try simp (maxSteps := 10000000) (disch := first | omega | simp) [hl]); (first | refine hK2 _ _ _ (light_ok l) fun _ => ?_ | refine hK2 _ _ _ (works_ok) fun _ => ?_); clear hK2 K2; (try simp (maxSteps := 10000000) (disch := first | omega | simp) [hl]))
            | ((with_reducible refine sideS' fun K2 hK2 => ?_); (try simp (maxSteps := 10000000) (disch := first | omega | simp) [hl]); (first | refine hK2 _ _ (light_ok l) rfl ?_ | refine hK2 _ _ (works_ok) rfl ?_); clear hK2 K2; (try simp (maxSteps := 10000000) (disch := first | omega | simp) [hl]))
            | ((with_reducible refine sideF' fun K2 hK2 => ?_); (try simp (maxSteps := 10000000) (disch := first | omega | simp) [hl]); (first | refine hK2 _ _ _ (light_ok l) (by simp) ?_ | refine hK2 _ _ _ (works_ok) (by simp) ?_); clear hK2 K2; (try simp (maxSteps := 10000000) (disch := first | omega | simp) [hl]))
            | ((with_reducible refine sideSt' fun K2 hK2 => ?_); (try simp (maxSteps := 10000000) (disch := first | omega | simp) [hl]); refine hK2 _ ?_; clear hK2 K2; (try simp (maxSteps := 10000000) (disch := first | omega | simp) [hl]))
            | ((with_reducible refine gdU ?_); (try simp (maxSteps := 10000000) (disch := first | omega | simp) [hl]))
            | ((with_reducible refine sideQ' ?_ ?_ fun K2 hK2 => ?_); exact rfl; exact rfl; (try simp (maxSteps := 10000000) (disch := first | omega | simp) [hl]); with_reducible refine hK2 _ _ ?_; clear hK2 K2; (try simp (maxSteps := 10000000) (disch := first | omega | simp) [hl]))
            | ((with_reducible refine side' ?_ fun K2 hK2 => ?_); exact rfl; (try simp (maxSteps := 10000000) (disch := first | omega | simp) [hl]); refine hK2 _ _ (by simp) ?_; clear hK2 K2; (try simp (maxSteps := 10000000) (disch := first | omega | simp) [hl]))) <;> clear hK K)
        | ((with_reducible refine awCond fun A B hA hB => ?_); simp (maxSteps := 10000000) (disch := first | omega | simp) [hl]; (first | refine ⟨fun h => hA ?_, fun h => hB ?_⟩ | refine hA ?_ | refine hB ?_) <;> (clear hA hB A B; (try (exfalso; omega))))
    all_goals (refine aEnR (aRes [] fun K hK => ?_); simp (maxSteps := 10000000) (disch := first | omega | simp) []; refine hK _ ?_ (by simp); clear hK; first | done | (simp (maxSteps := 10000000) (disch := first | omega | simp) [*]; done) | (simp (maxSteps := 10000000) (disch := first | omega | simp) [*]; omega) | (simp_all []; done) | (simp_all []; omega))
end
end Go.Am
