/- Part of the proof of a law of moving. -/
import Derived.Test.YtmnheledelnbfaaGreatQV11a
set_option linter.all false
set_option maxRecDepth 100000
set_option maxHeartbeats 0
namespace Go.Am
open Go
noncomputable section
def c5 : SC := (.seq (.reg [⟨some 6, .assign (.const (.bool false)), none, []⟩] [0, 1, 2, 25, 38, 50, 51, 52, 53, 57, 117]) (.seq (.reg [⟨some 17, .move (.tmp 0), none, []⟩,
  ⟨some 18, .call { callee := .value (.func 6), args := #[.tmp 17], argTypes := #[22] }, none, []⟩,
  ⟨some 19, .unOp .not 4 (.tmp 18), none, []⟩,
  ⟨some 20, .move (.tmp 19), none, []⟩,
  ⟨some 21, .move (.tmp 2), (some (20, false)), []⟩,
  ⟨some 22, .call { callee := .builtin .len, args := #[.tmp 21], argTypes := #[23] }, (some (20, false)), []⟩,
  ⟨some 23, .binOp .gtr 3 (.tmp 22) (.const (.int .i64 60)) 3, (some (20, false)), []⟩,
  ⟨some 24, .pick (.tmp 20) (.const (.bool true)) (.tmp 23), none, []⟩] [0, 1, 2, 19, 20, 23, 24, 25, 38, 50, 51, 52, 53, 57, 117]) (.seq (.cond (.tmp 24) (.seq (.reg [⟨some 25, .call { callee := .value (.func 8), args := #[], argTypes := #[] }, none, []⟩,
  ⟨some 6, .assign (.tmp 25), none, []⟩] [6, 25, 38, 50, 51, 52, 53, 57, 117]) .ret) .skip) (.seq (.reg [⟨some 26, .move (.tmp 0), none, []⟩,
  ⟨some 27, .call { callee := .value (.func 9), args := #[.tmp 26], argTypes := #[22] }, none, []⟩,
  ⟨some 7, .alloc 36, none, []⟩,
  ⟨none, .store 36 (.tmp 7) (.tmp 27), none, []⟩] [1, 2, 7, 25, 38, 50, 51, 52, 53, 57, 117]) (.seq (.reg [⟨some 29, .load 36 (.tmp 7), none, []⟩,
  ⟨some 30, .move (.tmp 1), none, []⟩,
  ⟨some 31, .call { callee := .value (.func 14), args := #[.tmp 29, .tmp 30], argTypes := #[36, 3] }, none, []⟩,
  ⟨some 28, .move (.tmp 31), none, []⟩,
  ⟨some 32, .extract (.tmp 28) 0, none, []⟩,
  ⟨some 33, .extract (.tmp 28) 1, none, []⟩,
  ⟨some 34, .extract (.tmp 28) 2, none, []⟩,
  ⟨some 35, .extract (.tmp 28) 3, none, []⟩,
  ⟨some 8, .alloc 50, none, []⟩,
  ⟨some 10, .alloc 52, none, []⟩,
  ⟨none, .store 50 (.tmp 8) (.tmp 32), none, []⟩,
  ⟨some 9, .assign (.tmp 33), none, []⟩,
  ⟨none, .store 52 (.tmp 10) (.tmp 34), none, []⟩,
  ⟨some 11, .assign (.tmp 35), none, []⟩] [2, 7, 10, 11, 25, 28, 31, 35, 38, 50, 51, 52, 53, 57, 117]) (.seq (.reg [⟨some 36, .move (.tmp 11), none, []⟩,
  ⟨some 37, .unOp .not 4 (.tmp 36), none, []⟩] [2, 7, 10, 25, 37, 38, 50, 51, 52, 53, 57, 117]) (.seq (.cond (.tmp 37) (.seq (.reg [⟨some 38, .call { callee := .value (.func 8), args := #[], argTypes := #[] }, none, []⟩,
  ⟨some 6, .assign (.tmp 38), none, []⟩] [6, 25, 38, 50, 51, 52, 53, 57, 117]) .ret) .skip) (.seq (.reg [⟨some 40, .load 36 (.tmp 7), none, []⟩,
  ⟨some 41, .load 52 (.tmp 10), none, []⟩,
  ⟨some 42, .move (.tmp 2), none, []⟩,
  ⟨some 43, .call { callee := .value (.func 22), args := #[.tmp 40, .tmp 41, .tmp 42], argTypes := #[36, 52, 23] }, none, []⟩,
  ⟨some 39, .move (.tmp 43), none, []⟩,
  ⟨some 44, .extract (.tmp 39) 0, none, []⟩,
  ⟨some 45, .extract (.tmp 39) 1, none, []⟩,
  ⟨some 12, .alloc 52, none, []⟩,
  ⟨none, .store 52 (.tmp 12) (.tmp 44), none, []⟩,
  ⟨some 13, .assign (.tmp 45), none, []⟩] [7, 10, 12, 13, 25, 38, 39, 43, 45, 50, 51, 52, 53, 57, 117]) (.seq (.reg [⟨some 46, .move (.tmp 13), none, []⟩,
  ⟨some 47, .binOp .neq 39 (.tmp 46) (.const .nilIface) 39, none, []⟩] [7, 10, 12, 25, 38, 47, 50, 51, 52, 53, 57, 117]) (.seq (.cond (.tmp 47) (.seq (.reg [⟨some 48, .load 52 (.tmp 10), none, []⟩,
  ⟨some 49, .load 52 (.tmp 12), none, []⟩,
  ⟨some 50, .call { callee := .value (.func 23), args := #[.tmp 48, .tmp 49], argTypes := #[52, 52] }, none, []⟩,
  ⟨some 51, .move (.tmp 50), none, []⟩,
  ⟨some 52, .call { callee := .value (.func 8), args := #[], argTypes := #[] }, (some (51, true)), []⟩,
  ⟨some 53, .pick (.tmp 51) (.tmp 52) (.const (.bool false)), none, []⟩,
  ⟨some 6, .assign (.tmp 53), none, []⟩] [6, 25, 38, 50, 51, 52, 53, 57, 117]) .ret) .skip) (.seq (.reg [⟨some 54, .load 52 (.tmp 12), none, []⟩,
  ⟨some 55, .call { callee := .value (.func 20), args := #[.tmp 54], argTypes := #[52] }, none, []⟩,
  ⟨some 56, .unOp .not 4 (.tmp 55), none, []⟩] [7, 10, 12, 25, 38, 50, 51, 52, 53, 56, 57, 117]) (.seq (.cond (.tmp 56) (.seq (.reg [⟨some 57, .call { callee := .value (.func 8), args := #[], argTypes := #[] }, none, []⟩,
  ⟨some 6, .assign (.tmp 57), none, []⟩] [6, 25, 38, 50, 51, 52, 53, 57, 117]) .ret) .skip) (.seq (.reg [⟨some 59, .load 36 (.tmp 7), none, []⟩,
  ⟨some 60, .load 52 (.tmp 12), none, []⟩,
  ⟨some 61, .call { callee := .value (.func 24), args := #[.tmp 59, .tmp 60], argTypes := #[36, 52] }, none, []⟩,
  ⟨some 58, .move (.tmp 61), none, []⟩,
  ⟨some 62, .extract (.tmp 58) 0, none, []⟩,
  ⟨some 63, .extract (.tmp 58) 1, none, []⟩,
  ⟨some 14, .alloc 52, none, []⟩,
  ⟨none, .store 52 (.tmp 14) (.tmp 62), none, []⟩,
  ⟨some 15, .assign (.tmp 63), none, []⟩] [10, 14, 15, 25, 38, 50, 51, 52, 53, 57, 58, 61, 63, 117]) (.seq (.reg [⟨some 64, .move (.tmp 15), none, []⟩,
  ⟨some 65, .binOp .neq 39 (.tmp 64) (.const .nilIface) 39, none, []⟩,
  ⟨some 66, .move (.tmp 65), none, []⟩,
  ⟨some 67, .load 52 (.tmp 14), (some (66, false)), []⟩,
  ⟨some 68, .call { callee := .value (.func 20), args := #[.tmp 67], argTypes := #[52] }, (some (66, false)), []⟩,
  ⟨some 69, .pick (.tmp 66) (.const (.bool true)) (.tmp 68), none, []⟩,
  ⟨some 70, .move (.tmp 69), none, []⟩,
  ⟨some 71, .fieldAddr 52 (.tmp 14) 0, (some (70, false)), []⟩,
  ⟨some 72, .load 23 (.tmp 71), (some (70, false)), []⟩,
  ⟨some 73, .call { callee := .builtin .len, args := #[.tmp 72], argTypes := #[23] }, (some (70, false)), []⟩,
  ⟨some 74, .fieldAddr 52 (.tmp 10) 0, (some (70, false)), []⟩,
  ⟨some 75, .load 23 (.tmp 74), (some (70, false)), []⟩,
  ⟨some 76, .call { callee := .builtin .len, args := #[.tmp 75], argTypes := #[23] }, (some (70, false)), []⟩,
  ⟨some 77, .binOp .neq 3 (.tmp 73) (.tmp 76) 3, (some (70, false)), []⟩,
  ⟨some 78, .pick (.tmp 70) (.const (.bool true)) (.tmp 77), none, []⟩,
  ⟨some 79, .move (.tmp 78), none, []⟩,
  ⟨some 80, .fieldAddr 52 (.tmp 14) 2, (some (79, false)), []⟩,
  ⟨some 81, .load 3 (.tmp 80), (some (79, false)), []⟩,
  ⟨some 82, .fieldAddr 52 (.tmp 10) 2, (some (79, false)), []⟩,
  ⟨some 83, .load 3 (.tmp 82), (some (79, false)), []⟩,
  ⟨some 84, .binOp .neq 3 (.tmp 81) (.tmp 83) 3, (some (79, false)), []⟩,
  ⟨some 85, .pick (.tmp 79) (.const (.bool true)) (.tmp 84), none, []⟩,
  ⟨some 86, .move (.tmp 85), none, []⟩,
  ⟨some 87, .fieldAddr 52 (.tmp 14) 3, (some (86, false)), []⟩,
  ⟨some 88, .load 3 (.tmp 87), (some (86, false)), []⟩,
  ⟨some 89, .fieldAddr 52 (.tmp 10) 3, (some (86, false)), []⟩,
  ⟨some 90, .load 3 (.tmp 89), (some (86, false)), []⟩,
  ⟨some 91, .binOp .neq 3 (.tmp 88) (.tmp 90) 3, (some (86, false)), []⟩,
  ⟨some 92, .pick (.tmp 86) (.const (.bool true)) (.tmp 91), none, []⟩,
  ⟨some 93, .move (.tmp 92), none, []⟩,
  ⟨some 94, .fieldAddr 52 (.tmp 14) 1, (some (93, false)), []⟩,
  ⟨some 95, .load 23 (.tmp 94), (some (93, false)), []⟩,
  ⟨some 96, .fieldAddr 52 (.tmp 10) 1, (some (93, false)), []⟩,
  ⟨some 97, .load 23 (.tmp 96), (some (93, false)), []⟩,
  ⟨some 98, .call { callee := .value (.func 16), args := #[.tmp 95, .tmp 97], argTypes := #[23, 23] }, (some (93, false)), []⟩,
  ⟨some 99, .unOp .not 4 (.tmp 98), (some (93, false)), []⟩,
  ⟨some 100, .pick (.tmp 93) (.const (.bool true)) (.tmp 99), none, []⟩] [10, 14, 25, 38, 50, 51, 52, 53, 57, 65, 66, 68, 69, 70, 77, 78, 79, 84, 85, 86, 91, 92, 93, 99, 100, 117]) (.seq (.cond (.tmp 100) (.seq (.reg [⟨some 6, .assign (.const (.bool false)), none, []⟩] [6, 25, 38, 50, 51, 52, 53, 57, 117]) .ret) .skip) (.seq (.reg [⟨some 16, .assign (.const (.int .i64 0)), none, []⟩] [10, 14, 16, 25, 38, 50, 51, 52, 53, 57, 107, 117]) (.seq (.block 0 (.seq (.loop (.seq (.reg [⟨some 101, .move (.tmp 16), none, []⟩,
  ⟨some 102, .fieldAddr 52 (.tmp 10) 0, none, []⟩,
  ⟨some 103, .load 23 (.tmp 102), none, []⟩,
  ⟨some 104, .call { callee := .builtin .len, args := #[.tmp 103], argTypes := #[23] }, none, []⟩,
  ⟨some 105, .binOp .lss 3 (.tmp 101) (.tmp 104) 3, none, []⟩] [10, 14, 16, 25, 38, 50, 51, 52, 53, 57, 105, 107, 117]) (.seq (.cond (.tmp 105) .skip (.exit 0)) (.seq (.block 1 (.seq (.reg [⟨some 108, .fieldAddr 52 (.tmp 14) 0, none, [110, 111, 112, 113, 114]⟩,
  ⟨some 109, .load 23 (.tmp 108), none, [110, 111, 112, 113, 114]⟩,
  ⟨some 110, .fieldAddr 52 (.tmp 10) 0, none, [108, 109, 112]⟩,
  ⟨some 111, .load 23 (.tmp 110), none, [108, 109, 112]⟩,
  ⟨some 112, .move (.tmp 16), none, [108, 109, 110, 111]⟩,
  ⟨some 113, .indexAddr 23 (.tmp 111) (.tmp 112), none, [108, 109]⟩,
  ⟨some 114, .load 3 (.tmp 113), none, [108, 109]⟩,
  ⟨some 115, .call { callee := .value (.func 18), args := #[.tmp 109, .tmp 114], argTypes := #[23, 3] }, none, []⟩,
  ⟨some 116, .unOp .not 4 (.tmp 115), none, []⟩] [10, 14, 16, 25, 38, 50, 51, 52, 53, 57, 107, 116, 117]) (.seq (.cond (.tmp 116) (.seq (.reg [⟨some 6, .assign (.const (.bool false)), none, []⟩] [6, 25, 38, 50, 51, 52, 53, 57, 117]) .ret) .skip) .skip))) (.seq (.reg [⟨some 106, .move (.tmp 16), none, []⟩,
  ⟨some 107, .binOp .add 3 (.tmp 106) (.const (.int .i64 1)) 3, none, []⟩,
  ⟨some 16, .assign (.tmp 107), none, []⟩] [10, 14, 16, 25, 38, 50, 51, 52, 53, 57, 107, 117]) .skip))))) .skip)) (.seq (.reg [⟨some 117, .call { callee := .value (.func 8), args := #[], argTypes := #[] }, none, []⟩,
  ⟨some 6, .assign (.tmp 117), none, []⟩] [6, 25, 38, 50, 51, 52, 53, 57, 117]) .ret))))))))))))))))))
theorem s5 : TextK Proofs.Tryz.prog 0 5 118 [ResultVar.tmp 6] c5 := .mk' Proofs.Tryz.f5 _ (by kernel_rfl) rfl rfl rfl (by kernel_rfl) rfl (by kernel_rfl)
theorem back_walk (l : List Record) (n : Int) (t : List Int) : ACall pg 5 [.sl (l.map encR), I n, Li t] (B true) := by
  refine s5.call mo (by simp) fun hxs => ?_
  clear hxs
  unfold c5
  by_cases hl : l.length ≤ 80
  · by_cases ht : 60 < (t.length : Int)
    · repeat' first | (with_reducible first | refine thN ?_ | refine thE ?_ | refine inN ?_ | refine inH ?_ | refine fS ?_ | refine fR ?_ | refine fQ ?_ | refine fE ?_ | refine fT ?_ | refine awBlock ?_ | refine awExit ?_ | refine awRet ?_ | refine awSkip ?_) | ((with_reducible refine awReg fun K hok hK => ?_); clear hok; (try simp (maxSteps := 10000000) (disch := first | omega | simp) [hl, ht]); (repeat' first | (with_reducible refine hK _ (by simp) ?_) | ((first | ((with_reducible refine callS' fun K2 hK2 => ?_); (try simp (maxSteps := 10000000) (disch := first | omega | simp) [hl, ht]); (first | refine hK2 _ _ (mlight_ok l) rfl fun hk9 => ?_ | refine hK2 _ _ mworks_ok rfl fun hk9 => ?_); clear hk9; clear hK2 K2) | ((with_reducible refine callF' fun K2 hK2 => ?_); (try simp (maxSteps := 10000000) (disch := first | omega | simp) [hl, ht]); (first | refine hK2 _ _ _ (mlight_ok l) fun _ => ?_ | refine hK2 _ _ _ mworks_ok fun _ => ?_); clear hK2 K2) | ((with_reducible refine sideQ' ?_ ?_ fun K2 hK2 => ?_); exact rfl; exact rfl; (try simp (maxSteps := 10000000) (disch := first | omega | simp) [hl, ht]); with_reducible refine hK2 _ _ ?_; clear hK2 K2)); (try simp (maxSteps := 10000000) (disch := first | omega | simp) [hl, ht]))) <;> clear hK K) | ((with_reducible refine awCond fun A B hA hB => ?_); simp (maxSteps := 10000000) (disch := first | omega | simp) [hl, ht]; (first | refine ⟨fun h => hA ?_, fun h => hB ?_⟩ | refine hA ?_ | refine hB ?_) <;> (clear hA hB A B; (try (exfalso; omega))))
      all_goals (refine aEnR (aRes [] fun K hK => ?_); simp (maxSteps := 10000000) (disch := first | omega | simp) []; refine hK _ ?_ (by simp); clear hK; first | done | (simp (maxSteps := 10000000) (disch := first | omega | simp) [*]; done) | (simp (maxSteps := 10000000) (disch := first | omega | simp) [*]; omega) | (simp_all []; done) | (simp_all []; omega))
    have hinv := made_inv l (by omega)
    have hmk := made_ok l (by omega)
    have hok := madeOk hinv (by omega)
    generalize made l = m at *
    have hpt := part21_ok m n hok.pre
    cases hsel : m.sel21 n with
    | none =>
      rw [hsel] at hpt
      repeat' first | (with_reducible first | refine thN ?_ | refine thE ?_ | refine inN ?_ | refine inH ?_ | refine fS ?_ | refine fR ?_ | refine fQ ?_ | refine fE ?_ | refine fT ?_ | refine awBlock ?_ | refine awExit ?_ | refine awRet ?_ | refine awSkip ?_) | ((with_reducible refine awReg fun K hok hK => ?_); clear hok; (try simp (maxSteps := 10000000) (disch := first | omega | simp) [hl, ht]); (repeat' first | (with_reducible refine hK _ (by simp) ?_) | ((first | ((with_reducible refine callS' fun K2 hK2 => ?_); (try simp (maxSteps := 10000000) (disch := first | omega | simp) [hl, ht]); (first | refine hK2 _ _ (mlight_ok l) rfl fun hk9 => ?_ | refine hK2 _ _ mworks_ok rfl fun hk9 => ?_ | refine hK2 _ _ hmk rfl fun hk9 => ?_ | refine hK2 _ _ hpt rfl fun hk9 => ?_); clear hk9; clear hK2 K2) | ((with_reducible refine callF' fun K2 hK2 => ?_); (try simp (maxSteps := 10000000) (disch := first | omega | simp) [hl, ht]); (first | refine hK2 _ _ _ (mlight_ok l) fun _ => ?_ | refine hK2 _ _ _ mworks_ok fun _ => ?_ | refine hK2 _ _ _ hmk fun _ => ?_ | refine hK2 _ _ _ hpt fun _ => ?_); clear hK2 K2) | ((with_reducible refine sideQ' ?_ ?_ fun K2 hK2 => ?_); exact rfl; exact rfl; (try simp (maxSteps := 10000000) (disch := first | omega | simp) [hl, ht]); with_reducible refine hK2 _ _ ?_; clear hK2 K2)); (try simp (maxSteps := 10000000) (disch := first | omega | simp) [hl, ht]))) <;> clear hK K) | ((with_reducible refine awCond fun A B hA hB => ?_); simp (maxSteps := 10000000) (disch := first | omega | simp) [hl, ht]; (first | refine ⟨fun h => hA ?_, fun h => hB ?_⟩ | refine hA ?_ | refine hB ?_) <;> (clear hA hB A B; (try (exfalso; omega))))
      all_goals (refine aEnR (aRes [] fun K hK => ?_); simp (maxSteps := 10000000) (disch := first | omega | simp) []; refine hK _ ?_ (by simp); clear hK; first | done | (simp (maxSteps := 10000000) (disch := first | omega | simp) [*]; done) | (simp (maxSteps := 10000000) (disch := first | omega | simp) [*]; omega) | (simp_all []; done) | (simp_all []; omega))
    | some x =>
      obtain ⟨tp, k, p⟩ := x
      rw [hsel] at hpt
      obtain ⟨htm, hkp⟩ := sel21_spec hsel
      obtain ⟨hkl, hpm, _, _⟩ := parts_mid hkp
      have hpr := hinv.pr tp htm p hpm
      have hst := start_at hok (by omega) hpr.2 t (by omega)
      cases hse : m.startE p t with
      | some e =>
        rw [startP_no hse, hse] at hst
        obtain ⟨ty, v, he⟩ := encE_if e
        simp only [errE_some, he] at hst
        have hsp := samePart_ok' p p
        rw [same_refl] at hsp
        clear hsel hse
        repeat' first | (with_reducible first | refine thN ?_ | refine thE ?_ | refine inN ?_ | refine inH ?_ | refine fS ?_ | refine fR ?_ | refine fQ ?_ | refine fE ?_ | refine fT ?_ | refine awBlock ?_ | refine awExit ?_ | refine awRet ?_ | refine awSkip ?_) | ((with_reducible refine awReg fun K hok hK => ?_); clear hok; (try simp (maxSteps := 10000000) (disch := first | omega | simp) [hl, ht, isConst]); (repeat' first | (with_reducible refine hK _ (by simp) ?_) | ((first | ((with_reducible refine callS' fun K2 hK2 => ?_); (try simp (maxSteps := 10000000) (disch := first | omega | simp) [hl, ht, isConst]); (first | refine hK2 _ _ (mlight_ok l) rfl fun hk9 => ?_ | refine hK2 _ _ mworks_ok rfl fun hk9 => ?_ | refine hK2 _ _ hmk rfl fun hk9 => ?_ | refine hK2 _ _ hpt rfl fun hk9 => ?_ | refine hK2 _ _ hst rfl fun hk9 => ?_ | refine hK2 _ _ hsp rfl fun hk9 => ?_); clear hk9; clear hK2 K2) | ((with_reducible refine callF' fun K2 hK2 => ?_); (try simp (maxSteps := 10000000) (disch := first | omega | simp) [hl, ht, isConst]); (first | refine hK2 _ _ _ (mlight_ok l) fun _ => ?_ | refine hK2 _ _ _ mworks_ok fun _ => ?_ | refine hK2 _ _ _ hmk fun _ => ?_ | refine hK2 _ _ _ hpt fun _ => ?_ | refine hK2 _ _ _ hst fun _ => ?_ | refine hK2 _ _ _ hsp fun _ => ?_); clear hK2 K2) | ((with_reducible refine sideQ' ?_ ?_ fun K2 hK2 => ?_); exact rfl; exact rfl; (try simp (maxSteps := 10000000) (disch := first | omega | simp) [hl, ht, isConst]); with_reducible refine hK2 _ _ ?_; clear hK2 K2)); (try simp (maxSteps := 10000000) (disch := first | omega | simp) [hl, ht, isConst]))) <;> clear hK K) | ((with_reducible refine awCond fun A B hA hB => ?_); simp (maxSteps := 10000000) (disch := first | omega | simp) [hl, ht, isConst]; (first | refine ⟨fun h => hA ?_, fun h => hB ?_⟩ | refine hA ?_ | refine hB ?_) <;> (clear hA hB A B; (try (exfalso; omega))))
        all_goals (refine aEnR (aRes [] fun K hK => ?_); simp (maxSteps := 10000000) (disch := first | omega | simp) []; refine hK _ ?_ (by simp); clear hK; first | done | (simp (maxSteps := 10000000) (disch := first | omega | simp) [*]; done) | (simp (maxSteps := 10000000) (disch := first | omega | simp) [*]; omega) | (simp_all []; done) | (simp_all []; omega))
      | none =>
        have hs := start_ok hse
        have e2 : m.startP p t = p.sent t := by unfold Image.startP; rw [hse]; rfl
        have hnx := sent_next hinv (by omega) hpr.1 hpr.2 hs
        rw [hse, e2] at hst
        have hun := under_ok (p.sent t)
        cases hu : (p.sent t).under with
        | false =>
          rw [hu] at hun
          generalize p.sent t = q at *
          repeat' first | (with_reducible first | refine thN ?_ | refine thE ?_ | refine inN ?_ | refine inH ?_ | refine fS ?_ | refine fR ?_ | refine fQ ?_ | refine fE ?_ | refine fT ?_ | refine awBlock ?_ | refine awExit ?_ | refine awRet ?_ | refine awSkip ?_) | ((with_reducible refine awReg fun K hok hK => ?_); clear hok; (try simp (maxSteps := 10000000) (disch := first | omega | simp) [hl, ht, isConst]); (repeat' first | (with_reducible refine hK _ (by simp) ?_) | ((first | ((with_reducible refine callS' fun K2 hK2 => ?_); (try simp (maxSteps := 10000000) (disch := first | omega | simp) [hl, ht, isConst]); (first | refine hK2 _ _ (mlight_ok l) rfl fun hk9 => ?_ | refine hK2 _ _ mworks_ok rfl fun hk9 => ?_ | refine hK2 _ _ hmk rfl fun hk9 => ?_ | refine hK2 _ _ hpt rfl fun hk9 => ?_ | refine hK2 _ _ hst rfl fun hk9 => ?_ | refine hK2 _ _ hun rfl fun hk9 => ?_); clear hk9; clear hK2 K2) | ((with_reducible refine callF' fun K2 hK2 => ?_); (try simp (maxSteps := 10000000) (disch := first | omega | simp) [hl, ht, isConst]); (first | refine hK2 _ _ _ (mlight_ok l) fun _ => ?_ | refine hK2 _ _ _ mworks_ok fun _ => ?_ | refine hK2 _ _ _ hmk fun _ => ?_ | refine hK2 _ _ _ hpt fun _ => ?_ | refine hK2 _ _ _ hst fun _ => ?_ | refine hK2 _ _ _ hun fun _ => ?_); clear hK2 K2) | ((with_reducible refine sideQ' ?_ ?_ fun K2 hK2 => ?_); exact rfl; exact rfl; (try simp (maxSteps := 10000000) (disch := first | omega | simp) [hl, ht, isConst]); with_reducible refine hK2 _ _ ?_; clear hK2 K2)); (try simp (maxSteps := 10000000) (disch := first | omega | simp) [hl, ht, isConst]))) <;> clear hK K) | ((with_reducible refine awCond fun A B hA hB => ?_); simp (maxSteps := 10000000) (disch := first | omega | simp) [hl, ht, isConst]; (first | refine ⟨fun h => hA ?_, fun h => hB ?_⟩ | refine hA ?_ | refine hB ?_) <;> (clear hA hB A B; (try (exfalso; omega))))
          all_goals (refine aEnR (aRes [] fun K hK => ?_); simp (maxSteps := 10000000) (disch := first | omega | simp) []; refine hK _ ?_ (by simp); clear hK; first | done | (simp (maxSteps := 10000000) (disch := first | omega | simp) [*]; done) | (simp (maxSteps := 10000000) (disch := first | omega | simp) [*]; omega) | (simp_all []; done) | (simp_all []; omega))
        | true =>
          rw [hu] at hun
          have hbo := back_ok hpr.1 hpr.2 hs hu
          have hcn := cancel_at hok hnx.rows
          rw [hbo.er] at hcn
          obtain ⟨_, b2, b3, b4, b5, b6, b7⟩ := hbo
          generalize m.cancelP (p.sent t) = r at *
          generalize p.sent t = q at *
          have hur := under_ok r
          rw [b2] at hur
          have f1 : ((r.ids.length : Int) != p.ids.length) = false := by simp [b3]
          have f2 : (r.leader != p.leader) = false := by simp [b4]
          have f3 : (r.epoch != p.epoch) = false := by simp [b5]
          have hin := ints_ok r.isr p.isr
          rw [show (r.isr == p.isr) = true by simp [b6]] at hin
          have h7 := (brokersB_get hpr.2.ids).1
          clear b2 b3 b4 b5 b6 hsel hse
          repeat' first | (with_reducible first | refine thN ?_ | refine thE ?_ | refine inN ?_ | refine inH ?_ | refine fS ?_ | refine fR ?_ | refine fQ ?_ | refine fE ?_ | refine fT ?_ | refine awBlock ?_ | refine awExit ?_ | refine awRet ?_ | refine awSkip ?_) | ((with_reducible refine awReg fun K hok hK => ?_); clear hok; (try simp (maxSteps := 10000000) (disch := first | omega | simp) [hl, ht, isConst, f1, f2, f3]); (repeat' first | (with_reducible refine hK _ (by simp) ?_) | ((first | ((with_reducible refine callS' fun K2 hK2 => ?_); (try simp (maxSteps := 10000000) (disch := first | omega | simp) [hl, ht, isConst, f1, f2, f3]); (first | refine hK2 _ _ (mlight_ok l) rfl fun hk9 => ?_ | refine hK2 _ _ mworks_ok rfl fun hk9 => ?_ | refine hK2 _ _ hmk rfl fun hk9 => ?_ | refine hK2 _ _ hpt rfl fun hk9 => ?_ | refine hK2 _ _ hst rfl fun hk9 => ?_ | refine hK2 _ _ hun rfl fun hk9 => ?_ | refine hK2 _ _ hcn rfl fun hk9 => ?_ | refine hK2 _ _ hur rfl fun hk9 => ?_ | refine hK2 _ _ hin rfl fun hk9 => ?_); clear hk9; clear hK2 K2) | ((with_reducible refine callF' fun K2 hK2 => ?_); (try simp (maxSteps := 10000000) (disch := first | omega | simp) [hl, ht, isConst, f1, f2, f3]); (first | refine hK2 _ _ _ (mlight_ok l) fun _ => ?_ | refine hK2 _ _ _ mworks_ok fun _ => ?_ | refine hK2 _ _ _ hmk fun _ => ?_ | refine hK2 _ _ _ hpt fun _ => ?_ | refine hK2 _ _ _ hst fun _ => ?_ | refine hK2 _ _ _ hun fun _ => ?_ | refine hK2 _ _ _ hcn fun _ => ?_ | refine hK2 _ _ _ hur fun _ => ?_ | refine hK2 _ _ _ hin fun _ => ?_); clear hK2 K2) | ((with_reducible refine sideQ' ?_ ?_ fun K2 hK2 => ?_); exact rfl; exact rfl; (try simp (maxSteps := 10000000) (disch := first | omega | simp) [hl, ht, isConst, f1, f2, f3]); with_reducible refine hK2 _ _ ?_; clear hK2 K2)); (try simp (maxSteps := 10000000) (disch := first | omega | simp) [hl, ht, isConst, f1, f2, f3]))) <;> clear hK K) | ((with_reducible refine awCond fun A B hA hB => ?_); simp (maxSteps := 10000000) (disch := first | omega | simp) [hl, ht, isConst, f1, f2, f3]; (first | refine ⟨fun h => hA ?_, fun h => hB ?_⟩ | refine hA ?_ | refine hB ?_) <;> (clear hA hB A B; (try (exfalso; omega))))
          refine awFor p.ids.length (fun i (_ : Unit) => True) (fun i _ => [(16, .p (I i)), (14, .p (.own (encP r).cells)), (10, .p (.own (encP p).cells))]) () (Wk.ofA (by simp)) trivial fun i _ hi _ => ?_
          by_cases hlt : i < p.ids.length
          · have hha := has_ok r.ids p.ids[i]
            rw [show r.ids.contains p.ids[i] = true by simpa using b7 _ (List.getElem_mem hlt)] at hha
            repeat' first | (with_reducible first | refine thN ?_ | refine thE ?_ | refine inN ?_ | refine inH ?_ | refine fS ?_ | refine fR ?_ | refine fQ ?_ | refine fE ?_ | refine fT ?_ | refine awBlock ?_ | refine awExit ?_ | refine awRet ?_ | refine awSkip ?_) | ((with_reducible refine awReg fun K hok hK => ?_); clear hok; (try simp (maxSteps := 10000000) (disch := first | omega | simp) [hlt]); (repeat' first | (with_reducible refine hK _ (by simp) ?_) | ((first | ((with_reducible refine callS' fun K2 hK2 => ?_); (try simp (maxSteps := 10000000) (disch := first | omega | simp) [hlt]); (refine hK2 _ _ hha rfl fun hk9 => ?_); clear hk9; clear hK2 K2) | ((with_reducible refine callF' fun K2 hK2 => ?_); (try simp (maxSteps := 10000000) (disch := first | omega | simp) [hlt]); (refine hK2 _ _ _ hha fun _ => ?_); clear hK2 K2) | ((with_reducible refine sideQ' ?_ ?_ fun K2 hK2 => ?_); exact rfl; exact rfl; (try simp (maxSteps := 10000000) (disch := first | omega | simp) [hlt]); with_reducible refine hK2 _ _ ?_; clear hK2 K2)); (try simp (maxSteps := 10000000) (disch := first | omega | simp) [hlt]))) <;> clear hK K) | ((with_reducible refine awCond fun A B hA hB => ?_); simp (maxSteps := 10000000) (disch := first | omega | simp) [hlt]; (first | refine ⟨fun h => hA ?_, fun h => hB ?_⟩ | refine hA ?_ | refine hB ?_) <;> (clear hA hB A B; (try (exfalso; omega))))
            (refine ⟨?_, (), ?_, Wk.ofA ?_⟩; assumption; rotate_left; focus (simp []; done))
            trivial
          · repeat' first | (with_reducible first | refine thN ?_ | refine thE ?_ | refine inN ?_ | refine inH ?_ | refine fS ?_ | refine fR ?_ | refine fQ ?_ | refine fE ?_ | refine fT ?_ | refine awBlock ?_ | refine awExit ?_ | refine awRet ?_ | refine awSkip ?_) | ((with_reducible refine awReg fun K hok hK => ?_); clear hok; (try simp (maxSteps := 10000000) (disch := first | omega | simp) [hlt]); (repeat' first | (with_reducible refine hK _ (by simp) ?_) | ((first | ((with_reducible refine callS' fun K2 hK2 => ?_); (try simp (maxSteps := 10000000) (disch := first | omega | simp) [hlt]); (refine hK2 _ _ mworks_ok rfl fun hk9 => ?_); clear hk9; clear hK2 K2) | ((with_reducible refine callF' fun K2 hK2 => ?_); (try simp (maxSteps := 10000000) (disch := first | omega | simp) [hlt]); (refine hK2 _ _ _ mworks_ok fun _ => ?_); clear hK2 K2) | ((with_reducible refine sideQ' ?_ ?_ fun K2 hK2 => ?_); exact rfl; exact rfl; (try simp (maxSteps := 10000000) (disch := first | omega | simp) [hlt]); with_reducible refine hK2 _ _ ?_; clear hK2 K2)); (try simp (maxSteps := 10000000) (disch := first | omega | simp) [hlt]))) <;> clear hK K) | ((with_reducible refine awCond fun A B hA hB => ?_); simp (maxSteps := 10000000) (disch := first | omega | simp) [hlt]; (first | refine ⟨fun h => hA ?_, fun h => hB ?_⟩ | refine hA ?_ | refine hB ?_) <;> (clear hA hB A B; (try (exfalso; omega))))
            all_goals (refine aEnR (aRes [] fun K hK => ?_); simp (maxSteps := 10000000) (disch := first | omega | simp) []; refine hK _ ?_ (by simp); clear hK; first | done | (simp (maxSteps := 10000000) (disch := first | omega | simp) [*]; done) | (simp (maxSteps := 10000000) (disch := first | omega | simp) [*]; omega) | (simp_all []; done) | (simp_all []; omega))
  · repeat' first | (with_reducible first | refine thN ?_ | refine thE ?_ | refine inN ?_ | refine inH ?_ | refine fS ?_ | refine fR ?_ | refine fQ ?_ | refine fE ?_ | refine fT ?_ | refine awBlock ?_ | refine awExit ?_ | refine awRet ?_ | refine awSkip ?_) | ((with_reducible refine awReg fun K hok hK => ?_); clear hok; (try simp (maxSteps := 10000000) (disch := first | omega | simp) [hl]); (repeat' first | (with_reducible refine hK _ (by simp) ?_) | ((first | ((with_reducible refine callS' fun K2 hK2 => ?_); (try simp (maxSteps := 10000000) (disch := first | omega | simp) [hl]); (first | refine hK2 _ _ (mlight_ok l) rfl fun hk9 => ?_ | refine hK2 _ _ mworks_ok rfl fun hk9 => ?_); clear hk9; clear hK2 K2) | ((with_reducible refine callF' fun K2 hK2 => ?_); (try simp (maxSteps := 10000000) (disch := first | omega | simp) [hl]); (first | refine hK2 _ _ _ (mlight_ok l) fun _ => ?_ | refine hK2 _ _ _ mworks_ok fun _ => ?_); clear hK2 K2) | ((with_reducible refine sideQ' ?_ ?_ fun K2 hK2 => ?_); exact rfl; exact rfl; (try simp (maxSteps := 10000000) (disch := first | omega | simp) [hl]); with_reducible refine hK2 _ _ ?_; clear hK2 K2)); (try simp (maxSteps := 10000000) (disch := first | omega | simp) [hl]))) <;> clear hK K) | ((with_reducible refine awCond fun A B hA hB => ?_); simp (maxSteps := 10000000) (disch := first | omega | simp) [hl]; (first | refine ⟨fun h => hA ?_, fun h => hB ?_⟩ | refine hA ?_ | refine hB ?_) <;> (clear hA hB A B; (try (exfalso; omega))))
    all_goals (refine aEnR (aRes [] fun K hK => ?_); simp (maxSteps := 10000000) (disch := first | omega | simp) []; refine hK _ ?_ (by simp); clear hK; first | done | (simp (maxSteps := 10000000) (disch := first | omega | simp) [*]; done) | (simp (maxSteps := 10000000) (disch := first | omega | simp) [*]; omega) | (simp_all []; done) | (simp_all []; omega))
end
end Go.Am
