/- Part of the proof of ElectLeaves. -/
import Derived.Test.YteijffflinnccaaZA22
import Derived.Test.YteijffflinnccaaZPU
set_option linter.all false
set_option maxRecDepth 100000
set_option maxHeartbeats 0
namespace Go.Am
open Go
noncomputable section
def c17 : SC := (.seq (.reg [⟨some 2, .box 30 (.tmp 0), none, []⟩,
  ⟨some 4, .alloc 30, none, []⟩,
  ⟨some 5, .assign (.const (.int .i64 0)), none, []⟩] [1, 2, 4, 9, 17, 23, 25, 29]) (.seq (.reg [⟨some 10, .load 30 (.tmp 2), none, []⟩,
  ⟨some 6, .alloc 30, none, []⟩,
  ⟨none, .store 30 (.tmp 6) (.tmp 10), none, []⟩] [1, 2, 4, 6, 9, 17, 23, 25, 29]) (.seq (.reg [⟨some 7, .assign (.const (.int .i64 0)), none, []⟩] [1, 2, 4, 6, 7, 9, 16, 17, 23, 25, 29]) (.seq (.block 0 (.seq (.loop (.seq (.reg [⟨some 11, .move (.tmp 7), none, []⟩,
  ⟨some 12, .move (.tmp 1), none, []⟩,
  ⟨some 13, .call { callee := .builtin .len, args := #[.tmp 12], argTypes := #[22] }, none, []⟩,
  ⟨some 14, .binOp .lss 3 (.tmp 11) (.tmp 13) 3, none, []⟩] [1, 2, 4, 6, 7, 9, 14, 16, 17, 23, 25, 29]) (.seq (.cond (.tmp 14) .skip (.exit 0)) (.seq (.block 1 (.seq (.reg [⟨some 18, .load 30 (.tmp 6), none, [19, 20, 21, 22, 8]⟩,
  ⟨some 19, .move (.tmp 1), none, [18, 20, 8]⟩,
  ⟨some 20, .move (.tmp 7), none, [18, 19, 8]⟩,
  ⟨some 21, .indexAddr 22 (.tmp 19) (.tmp 20), none, [18, 8]⟩,
  ⟨some 22, .load 43 (.tmp 21), none, [18, 8]⟩,
  ⟨some 23, .call { callee := .value (.func 20), args := #[.tmp 18, .tmp 22], argTypes := #[30, 43] }, none, [8]⟩,
  ⟨some 17, .move (.tmp 23), none, [8]⟩,
  ⟨some 24, .extract (.tmp 17) 0, none, [25, 8]⟩,
  ⟨some 25, .extract (.tmp 17) 1, none, [24, 8, 8]⟩,
  ⟨some 8, .alloc 30, none, [18, 19, 20, 21, 22, 23, 17, 24, 25]⟩,
  ⟨none, .store 30 (.tmp 8) (.tmp 24), none, [25]⟩,
  ⟨some 9, .assign (.tmp 25), none, []⟩] [1, 2, 4, 6, 7, 8, 9, 16, 17, 23, 25, 29]) (.seq (.reg [⟨some 26, .move (.tmp 9), none, []⟩,
  ⟨some 27, .binOp .neq 35 (.tmp 26) (.const (.int .i64 0)) 35, none, []⟩] [1, 2, 4, 6, 7, 8, 9, 16, 17, 23, 25, 27, 29]) (.seq (.cond (.tmp 27) (.seq (.reg [⟨some 28, .load 30 (.tmp 2), none, []⟩,
  ⟨some 29, .move (.tmp 9), none, []⟩,
  ⟨none, .store 30 (.tmp 4) (.tmp 28), none, []⟩,
  ⟨some 5, .assign (.tmp 29), none, []⟩] [4, 5, 9, 17, 23, 25, 29]) .ret) .skip) (.seq (.reg [⟨some 30, .load 30 (.tmp 8), none, []⟩,
  ⟨none, .store 30 (.tmp 6) (.tmp 30), none, []⟩] [1, 2, 4, 6, 7, 9, 16, 17, 23, 25, 29]) .skip))))) (.seq (.reg [⟨some 15, .move (.tmp 7), none, []⟩,
  ⟨some 16, .binOp .add 3 (.tmp 15) (.const (.int .i64 1)) 3, none, []⟩,
  ⟨some 7, .assign (.tmp 16), none, []⟩] [1, 2, 4, 6, 7, 9, 16, 17, 23, 25, 29]) .skip))))) .skip)) (.seq (.reg [⟨some 31, .load 30 (.tmp 6), none, []⟩,
  ⟨none, .store 30 (.tmp 4) (.tmp 31), none, []⟩,
  ⟨some 5, .assign (.const (.int .i64 0)), none, []⟩] [4, 5, 9, 17, 23, 25, 29]) .ret)))))
theorem s17 : TextK Proofs.Try.prog 0 17 32 [ResultVar.cell 4 30, ResultVar.tmp 5] c17 := .mk' Proofs.Try.f17 _ (by kernel_rfl) rfl rfl rfl (by kernel_rfl) rfl (by kernel_rfl)
def c16 : SC := (.seq (.reg [⟨some 2, .alloc 30, none, []⟩] [0, 2]) (.seq (.reg [⟨some 7, .build 30 #[], none, []⟩,
  ⟨some 3, .alloc 30, none, []⟩,
  ⟨none, .store 30 (.tmp 3) (.tmp 7), none, []⟩] [0, 2, 3]) (.seq (.reg [⟨some 4, .assign (.const (.int .i64 0)), none, []⟩] [0, 2, 3, 4, 13]) (.seq (.block 0 (.seq (.loop (.seq (.reg [⟨some 8, .move (.tmp 4), none, []⟩,
  ⟨some 9, .move (.tmp 0), none, []⟩,
  ⟨some 10, .call { callee := .builtin .len, args := #[.tmp 9], argTypes := #[22] }, none, []⟩,
  ⟨some 11, .binOp .lss 3 (.tmp 8) (.tmp 10) 3, none, []⟩] [0, 2, 3, 4, 11, 13]) (.seq (.cond (.tmp 11) .skip (.exit 0)) (.seq (.block 1 (.seq (.reg [⟨some 15, .load 30 (.tmp 3), none, [16, 17, 18, 19, 5]⟩,
  ⟨some 16, .move (.tmp 0), none, [15, 17, 5]⟩,
  ⟨some 17, .move (.tmp 4), none, [15, 16, 5]⟩,
  ⟨some 18, .indexAddr 22 (.tmp 16) (.tmp 17), none, [15, 5]⟩,
  ⟨some 19, .load 43 (.tmp 18), none, [15, 5]⟩,
  ⟨some 20, .call { callee := .value (.func 20), args := #[.tmp 15, .tmp 19], argTypes := #[30, 43] }, none, [5]⟩,
  ⟨some 14, .move (.tmp 20), none, [5]⟩,
  ⟨some 21, .extract (.tmp 14) 0, none, [22, 5]⟩,
  ⟨some 22, .extract (.tmp 14) 1, none, [21, 5, 5]⟩,
  ⟨some 5, .alloc 30, none, [15, 16, 17, 18, 19, 20, 14, 21, 22]⟩,
  ⟨none, .store 30 (.tmp 5) (.tmp 21), none, [22]⟩,
  ⟨some 6, .assign (.tmp 22), none, []⟩] [0, 2, 3, 4, 5, 13]) (.seq (.reg [⟨some 23, .load 30 (.tmp 5), none, []⟩,
  ⟨none, .store 30 (.tmp 3) (.tmp 23), none, []⟩] [0, 2, 3, 4, 13]) .skip))) (.seq (.reg [⟨some 12, .move (.tmp 4), none, []⟩,
  ⟨some 13, .binOp .add 3 (.tmp 12) (.const (.int .i64 1)) 3, none, []⟩,
  ⟨some 4, .assign (.tmp 13), none, []⟩] [0, 2, 3, 4, 13]) .skip))))) .skip)) (.seq (.reg [⟨some 24, .load 30 (.tmp 3), none, []⟩,
  ⟨none, .store 30 (.tmp 2) (.tmp 24), none, []⟩] [2]) .ret)))))
theorem s16 : TextK Proofs.Try.prog 0 16 25 [ResultVar.cell 2 30] c16 := .mk' Proofs.Try.f16 _ (by kernel_rfl) rfl rfl rfl (by kernel_rfl) rfl (by kernel_rfl)
theorem all_ok (m : Image) (l : List Record) (n : Nat) (hm : m.Inv n) (hn : n + l.length ≤ 1000) : ACall pg 17 [encM m, .sl (l.map encR)] (.tup [encM (m.all l).1, I (m.all l).2]) := by
  refine s17.call mo (by simp) fun hxs => ?_
  clear hxs
  unfold c17
  repeat' first
      | (with_reducible first | refine thN ?_ | refine thR ?_ | refine thE ?_ | refine inN ?_ | refine inR ?_ | refine inH ?_ | refine fF ?_ | refine fS ?_ | refine fR ?_ | refine fQ ?_ | refine fC ?_ | refine fB ?_ | refine fL ?_ | refine fE ?_ | refine fT ?_ | refine awBlock ?_ | refine awExit ?_ | refine awRet ?_ | refine awSkip ?_ | refine inM (by decide) ?_)
      | ((with_reducible refine awReg fun K hok hK => ?_); clear hok; (try simp (maxSteps := 10000000) (disch := first | omega | simp) []); (repeat' first
          | (with_reducible refine hK _ (by simp) ?_)
          | ((with_reducible refine gdT (fun h => ?_) (fun h => ?_)) <;> (simp (maxSteps := 10000000) (disch := first | omega | simp) [h]; (try simp at h); (try (exfalso; omega))))
          | ((with_reducible refine gdF (fun h => ?_) (fun h => ?_)) <;> (simp (maxSteps := 10000000) (disch := first | omega | simp) [h]; (try simp at h); (try (exfalso; omega))))
          | ((with_reducible refine sideSt' fun K2 hK2 => ?_); (try simp (maxSteps := 10000000) (disch := first | omega | simp) []); refine hK2 _ ?_; clear hK2 K2; (try simp (maxSteps := 10000000) (disch := first | omega | simp) []))
          | ((with_reducible refine gdU ?_); (try simp (maxSteps := 10000000) (disch := first | omega | simp) []))
          | ((with_reducible refine sideQ' ?_ ?_ fun K2 hK2 => ?_); exact rfl; exact rfl; (try simp (maxSteps := 10000000) (disch := first | omega | simp) []); with_reducible refine hK2 _ _ ?_; clear hK2 K2; (try simp (maxSteps := 10000000) (disch := first | omega | simp) []))
          | ((with_reducible refine side' ?_ fun K2 hK2 => ?_); exact rfl; (try simp (maxSteps := 10000000) (disch := first | omega | simp) []); refine hK2 _ _ (by simp) ?_; clear hK2 K2; (try simp (maxSteps := 10000000) (disch := first | omega | simp) []))) <;> clear hK K)
      | ((with_reducible refine awCond fun A B hA hB => ?_); simp (maxSteps := 10000000) (disch := first | omega | simp) []; (first | refine ⟨fun h => hA ?_, fun h => hB ?_⟩ | refine hA ?_ | refine hB ?_) <;> (clear hA hB A B; (try (exfalso; omega))))
  refine awFor l.length (fun i (s : Image) => m.allFrom s (l.drop i) = m.all l ∧ s.Inv (n + i)) (fun i s => [(7, .p (I i)), (6, .p (.own (encM s).cells)), (4, .p (.own [.uq [], .uq [], .uq [], .uq [], I 0])), (2, .p (.own (encM m).cells)), (1, .p (.sl (l.map encR)))]) m (Wk.ofA (by simp)) ⟨rfl, hm⟩ fun i s hi hs => ?_
  obtain ⟨hs, hsi⟩ := hs
  have hpre : i < l.length → s.Pre := fun h => hsi.pre (by omega)
  by_cases hlt : i < l.length
  · have hpr := hpre hlt
    rw [drop_cons hlt] at hs
    simp only [Image.allFrom] at hs
    repeat' first
        | (with_reducible first | refine thN ?_ | refine thR ?_ | refine thE ?_ | refine inN ?_ | refine inR ?_ | refine inH ?_ | refine fF ?_ | refine fS ?_ | refine fR ?_ | refine fQ ?_ | refine fC ?_ | refine fB ?_ | refine fL ?_ | refine fE ?_ | refine fT ?_ | refine awBlock ?_ | refine awExit ?_ | refine awRet ?_ | refine awSkip ?_ | refine inM (by decide) ?_)
        | ((with_reducible refine awReg fun K hok hK => ?_); clear hok; (try simp (maxSteps := 10000000) (disch := first | omega | simp) []); (repeat' first
            | (with_reducible refine hK _ (by simp) ?_)
            | ((with_reducible refine gdT (fun h => ?_) (fun h => ?_)) <;> (simp (maxSteps := 10000000) (disch := first | omega | simp) [h]; (try simp at h); (try (exfalso; omega))))
            | ((with_reducible refine gdF (fun h => ?_) (fun h => ?_)) <;> (simp (maxSteps := 10000000) (disch := first | omega | simp) [h]; (try simp at h); (try (exfalso; omega))))
            | ((with_reducible refine callS' fun K2 hK2 => ?_); (try simp (maxSteps := 10000000) (disch := first | omega | simp) []); (first | (refine hK2 _ _ (apply_ok s l[i] hpr) rfl fun hk9 => ?_; clear hk9)); clear hK2 K2; (try simp (maxSteps := 10000000) (disch := first | omega | simp) []))
            | ((with_reducible refine callF' fun K2 hK2 => ?_); (try simp (maxSteps := 10000000) (disch := first | omega | simp) []); (first | refine hK2 _ _ _ (apply_ok s l[i] hpr) fun _ => ?_); clear hK2 K2; (try simp (maxSteps := 10000000) (disch := first | omega | simp) []))
            | ((with_reducible refine sideS' fun K2 hK2 => ?_); (try simp (maxSteps := 10000000) (disch := first | omega | simp) []); (first | refine hK2 _ _ (apply_ok s l[i] hpr) rfl ?_); clear hK2 K2; (try simp (maxSteps := 10000000) (disch := first | omega | simp) []))
            | ((with_reducible refine sideF' fun K2 hK2 => ?_); (try simp (maxSteps := 10000000) (disch := first | omega | simp) []); (first | refine hK2 _ _ _ (apply_ok s l[i] hpr) (by simp) ?_); clear hK2 K2; (try simp (maxSteps := 10000000) (disch := first | omega | simp) []))
            | ((with_reducible refine sideSt' fun K2 hK2 => ?_); (try simp (maxSteps := 10000000) (disch := first | omega | simp) []); refine hK2 _ ?_; clear hK2 K2; (try simp (maxSteps := 10000000) (disch := first | omega | simp) []))
            | ((with_reducible refine gdU ?_); (try simp (maxSteps := 10000000) (disch := first | omega | simp) []))
            | ((with_reducible refine sideQ' ?_ ?_ fun K2 hK2 => ?_); exact rfl; exact rfl; (try simp (maxSteps := 10000000) (disch := first | omega | simp) []); with_reducible refine hK2 _ _ ?_; clear hK2 K2; (try simp (maxSteps := 10000000) (disch := first | omega | simp) []))
            | ((with_reducible refine side' ?_ fun K2 hK2 => ?_); exact rfl; (try simp (maxSteps := 10000000) (disch := first | omega | simp) []); refine hK2 _ _ (by simp) ?_; clear hK2 K2; (try simp (maxSteps := 10000000) (disch := first | omega | simp) []))) <;> clear hK K)
        | ((with_reducible refine awCond fun A B hA hB => ?_); simp (maxSteps := 10000000) (disch := first | omega | simp) []; (first | refine ⟨fun h => hA ?_, fun h => hB ?_⟩ | refine hA ?_ | refine hB ?_) <;> (clear hA hB A B; (try (exfalso; omega))))
    · rw [if_pos (by assumption)] at hs
      have e := hs.symm; clear hs; (refine aEnR (aRes [true] fun K hK => ?_); simp (maxSteps := 10000000) (disch := first | omega | simp) [e]; refine hK _ ?_ (by simp); clear hK; first | done | (simp (maxSteps := 10000000) (disch := first | omega | simp) [e, *]; done) | (simp (maxSteps := 10000000) (disch := first | omega | simp) [e, *]; omega) | (simp_all [e]; done) | (simp_all [e]; omega))
    · rw [if_neg (by simpa using h)] at hs
      (refine ⟨?_, (s.apply l[i]).1, ?_, Wk.ofA ?_⟩; assumption; rotate_left; focus (simp []; done))
      exact ⟨hs, hsi.apply (by omega) _⟩
  · rw [drop_nil (by omega)] at hs
    simp only [Image.allFrom] at hs
    repeat' first
        | (with_reducible first | refine thN ?_ | refine thR ?_ | refine thE ?_ | refine inN ?_ | refine inR ?_ | refine inH ?_ | refine fF ?_ | refine fS ?_ | refine fR ?_ | refine fQ ?_ | refine fC ?_ | refine fB ?_ | refine fL ?_ | refine fE ?_ | refine fT ?_ | refine awBlock ?_ | refine awExit ?_ | refine awRet ?_ | refine awSkip ?_ | refine inM (by decide) ?_)
        | ((with_reducible refine awReg fun K hok hK => ?_); clear hok; (try simp (maxSteps := 10000000) (disch := first | omega | simp) []); (repeat' first
            | (with_reducible refine hK _ (by simp) ?_)
            | ((with_reducible refine gdT (fun h => ?_) (fun h => ?_)) <;> (simp (maxSteps := 10000000) (disch := first | omega | simp) [h]; (try simp at h); (try (exfalso; omega))))
            | ((with_reducible refine gdF (fun h => ?_) (fun h => ?_)) <;> (simp (maxSteps := 10000000) (disch := first | omega | simp) [h]; (try simp at h); (try (exfalso; omega))))
            | ((with_reducible refine sideSt' fun K2 hK2 => ?_); (try simp (maxSteps := 10000000) (disch := first | omega | simp) []); refine hK2 _ ?_; clear hK2 K2; (try simp (maxSteps := 10000000) (disch := first | omega | simp) []))
            | ((with_reducible refine gdU ?_); (try simp (maxSteps := 10000000) (disch := first | omega | simp) []))
            | ((with_reducible refine sideQ' ?_ ?_ fun K2 hK2 => ?_); exact rfl; exact rfl; (try simp (maxSteps := 10000000) (disch := first | omega | simp) []); with_reducible refine hK2 _ _ ?_; clear hK2 K2; (try simp (maxSteps := 10000000) (disch := first | omega | simp) []))
            | ((with_reducible refine side' ?_ fun K2 hK2 => ?_); exact rfl; (try simp (maxSteps := 10000000) (disch := first | omega | simp) []); refine hK2 _ _ (by simp) ?_; clear hK2 K2; (try simp (maxSteps := 10000000) (disch := first | omega | simp) []))) <;> clear hK K)
        | ((with_reducible refine awCond fun A B hA hB => ?_); simp (maxSteps := 10000000) (disch := first | omega | simp) []; (first | refine ⟨fun h => hA ?_, fun h => hB ?_⟩ | refine hA ?_ | refine hB ?_) <;> (clear hA hB A B; (try (exfalso; omega))))
    · have e := hs.symm; clear hs; (refine aEnR (aRes [true] fun K hK => ?_); simp (maxSteps := 10000000) (disch := first | omega | simp) [e]; refine hK _ ?_ (by simp); clear hK; first | done | (simp (maxSteps := 10000000) (disch := first | omega | simp) [e, *]; done) | (simp (maxSteps := 10000000) (disch := first | omega | simp) [e, *]; omega) | (simp_all [e]; done) | (simp_all [e]; omega))
theorem made_ok (l : List Record) (hn : l.length ≤ 1000) : ACall pg 16 [.sl (l.map encR)] (encM (made l)) := by
  refine s16.call mo (by simp) fun hxs => ?_
  clear hxs
  unfold c16
  repeat' first
      | (with_reducible first | refine thN ?_ | refine thR ?_ | refine thE ?_ | refine inN ?_ | refine inR ?_ | refine inH ?_ | refine fF ?_ | refine fS ?_ | refine fR ?_ | refine fQ ?_ | refine fC ?_ | refine fB ?_ | refine fL ?_ | refine fE ?_ | refine fT ?_ | refine awBlock ?_ | refine awExit ?_ | refine awRet ?_ | refine awSkip ?_ | refine inM (by decide) ?_)
      | ((with_reducible refine awReg fun K hok hK => ?_); clear hok; (try simp (maxSteps := 10000000) (disch := first | omega | simp) []); (repeat' first
          | (with_reducible refine hK _ (by simp) ?_)
          | ((with_reducible refine gdT (fun h => ?_) (fun h => ?_)) <;> (simp (maxSteps := 10000000) (disch := first | omega | simp) [h]; (try simp at h); (try (exfalso; omega))))
          | ((with_reducible refine gdF (fun h => ?_) (fun h => ?_)) <;> (simp (maxSteps := 10000000) (disch := first | omega | simp) [h]; (try simp at h); (try (exfalso; omega))))
          | ((with_reducible refine sideSt' fun K2 hK2 => ?_); (try simp (maxSteps := 10000000) (disch := first | omega | simp) []); refine hK2 _ ?_; clear hK2 K2; (try simp (maxSteps := 10000000) (disch := first | omega | simp) []))
          | ((with_reducible refine gdU ?_); (try simp (maxSteps := 10000000) (disch := first | omega | simp) []))
          | ((with_reducible refine sideQ' ?_ ?_ fun K2 hK2 => ?_); exact rfl; exact rfl; (try simp (maxSteps := 10000000) (disch := first | omega | simp) []); with_reducible refine hK2 _ _ ?_; clear hK2 K2; (try simp (maxSteps := 10000000) (disch := first | omega | simp) []))
          | ((with_reducible refine side' ?_ fun K2 hK2 => ?_); exact rfl; (try simp (maxSteps := 10000000) (disch := first | omega | simp) []); refine hK2 _ _ (by simp) ?_; clear hK2 K2; (try simp (maxSteps := 10000000) (disch := first | omega | simp) []))) <;> clear hK K)
      | ((with_reducible refine awCond fun A B hA hB => ?_); simp (maxSteps := 10000000) (disch := first | omega | simp) []; (first | refine ⟨fun h => hA ?_, fun h => hB ?_⟩ | refine hA ?_ | refine hB ?_) <;> (clear hA hB A B; (try (exfalso; omega))))
  refine awFor l.length (fun i (s : Image) => madeFrom s (l.drop i) = made l ∧ s.Inv i) (fun i s => [(4, .p (I i)), (3, .p (.own (encM s).cells)), (2, .p (.own [.uq [], .uq [], .uq [], .uq [], I 0])), (0, .p (.sl (l.map encR)))]) zM (Wk.ofA (by simp [zM])) ⟨rfl, zM_inv⟩ fun i s hi hs => ?_
  obtain ⟨hs, hsi⟩ := hs
  by_cases hlt : i < l.length
  · have hpr := hsi.pre (by omega)
    rw [drop_cons hlt] at hs
    repeat' first
        | (with_reducible first | refine thN ?_ | refine thR ?_ | refine thE ?_ | refine inN ?_ | refine inR ?_ | refine inH ?_ | refine fF ?_ | refine fS ?_ | refine fR ?_ | refine fQ ?_ | refine fC ?_ | refine fB ?_ | refine fL ?_ | refine fE ?_ | refine fT ?_ | refine awBlock ?_ | refine awExit ?_ | refine awRet ?_ | refine awSkip ?_ | refine inM (by decide) ?_)
        | ((with_reducible refine awReg fun K hok hK => ?_); clear hok; (try simp (maxSteps := 10000000) (disch := first | omega | simp) []); (repeat' first
            | (with_reducible refine hK _ (by simp) ?_)
            | ((with_reducible refine gdT (fun h => ?_) (fun h => ?_)) <;> (simp (maxSteps := 10000000) (disch := first | omega | simp) [h]; (try simp at h); (try (exfalso; omega))))
            | ((with_reducible refine gdF (fun h => ?_) (fun h => ?_)) <;> (simp (maxSteps := 10000000) (disch := first | omega | simp) [h]; (try simp at h); (try (exfalso; omega))))
            | ((with_reducible refine callS' fun K2 hK2 => ?_); (try simp (maxSteps := 10000000) (disch := first | omega | simp) []); (first | (refine hK2 _ _ (apply_ok s l[i] hpr) rfl fun hk9 => ?_; clear hk9)); clear hK2 K2; (try simp (maxSteps := 10000000) (disch := first | omega | simp) []))
            | ((with_reducible refine callF' fun K2 hK2 => ?_); (try simp (maxSteps := 10000000) (disch := first | omega | simp) []); (first | refine hK2 _ _ _ (apply_ok s l[i] hpr) fun _ => ?_); clear hK2 K2; (try simp (maxSteps := 10000000) (disch := first | omega | simp) []))
            | ((with_reducible refine sideS' fun K2 hK2 => ?_); (try simp (maxSteps := 10000000) (disch := first | omega | simp) []); (first | refine hK2 _ _ (apply_ok s l[i] hpr) rfl ?_); clear hK2 K2; (try simp (maxSteps := 10000000) (disch := first | omega | simp) []))
            | ((with_reducible refine sideF' fun K2 hK2 => ?_); (try simp (maxSteps := 10000000) (disch := first | omega | simp) []); (first | refine hK2 _ _ _ (apply_ok s l[i] hpr) (by simp) ?_); clear hK2 K2; (try simp (maxSteps := 10000000) (disch := first | omega | simp) []))
            | ((with_reducible refine sideSt' fun K2 hK2 => ?_); (try simp (maxSteps := 10000000) (disch := first | omega | simp) []); refine hK2 _ ?_; clear hK2 K2; (try simp (maxSteps := 10000000) (disch := first | omega | simp) []))
            | ((with_reducible refine gdU ?_); (try simp (maxSteps := 10000000) (disch := first | omega | simp) []))
            | ((with_reducible refine sideQ' ?_ ?_ fun K2 hK2 => ?_); exact rfl; exact rfl; (try simp (maxSteps := 10000000) (disch := first | omega | simp) []); with_reducible refine hK2 _ _ ?_; clear hK2 K2; (try simp (maxSteps := 10000000) (disch := first | omega | simp) []))
            | ((with_reducible refine side' ?_ fun K2 hK2 => ?_); exact rfl; (try simp (maxSteps := 10000000) (disch := first | omega | simp) []); refine hK2 _ _ (by simp) ?_; clear hK2 K2; (try simp (maxSteps := 10000000) (disch := first | omega | simp) []))) <;> clear hK K)
        | ((with_reducible refine awCond fun A B hA hB => ?_); simp (maxSteps := 10000000) (disch := first | omega | simp) []; (first | refine ⟨fun h => hA ?_, fun h => hB ?_⟩ | refine hA ?_ | refine hB ?_) <;> (clear hA hB A B; (try (exfalso; omega))))
    · (refine ⟨?_, (s.apply l[i]).1, ?_, Wk.ofA ?_⟩; assumption; rotate_left; focus (simp []; done))
      exact ⟨hs, hsi.apply (by omega) _⟩
  · rw [drop_nil (by omega)] at hs
    simp only [madeFrom, List.foldl_nil] at hs
    repeat' first
        | (with_reducible first | refine thN ?_ | refine thR ?_ | refine thE ?_ | refine inN ?_ | refine inR ?_ | refine inH ?_ | refine fF ?_ | refine fS ?_ | refine fR ?_ | refine fQ ?_ | refine fC ?_ | refine fB ?_ | refine fL ?_ | refine fE ?_ | refine fT ?_ | refine awBlock ?_ | refine awExit ?_ | refine awRet ?_ | refine awSkip ?_ | refine inM (by decide) ?_)
        | ((with_reducible refine awReg fun K hok hK => ?_); clear hok; (try simp (maxSteps := 10000000) (disch := first | omega | simp) []); (repeat' first
            | (with_reducible refine hK _ (by simp) ?_)
            | ((with_reducible refine gdT (fun h => ?_) (fun h => ?_)) <;> (simp (maxSteps := 10000000) (disch := first | omega | simp) [h]; (try simp at h); (try (exfalso; omega))))
            | ((with_reducible refine gdF (fun h => ?_) (fun h => ?_)) <;> (simp (maxSteps := 10000000) (disch := first | omega | simp) [h]; (try simp at h); (try (exfalso; omega))))
            | ((with_reducible refine sideSt' fun K2 hK2 => ?_); (try simp (maxSteps := 10000000) (disch := first | omega | simp) []); refine hK2 _ ?_; clear hK2 K2; (try simp (maxSteps := 10000000) (disch := first | omega | simp) []))
            | ((with_reducible refine gdU ?_); (try simp (maxSteps := 10000000) (disch := first | omega | simp) []))
            | ((with_reducible refine sideQ' ?_ ?_ fun K2 hK2 => ?_); exact rfl; exact rfl; (try simp (maxSteps := 10000000) (disch := first | omega | simp) []); with_reducible refine hK2 _ _ ?_; clear hK2 K2; (try simp (maxSteps := 10000000) (disch := first | omega | simp) []))
            | ((with_reducible refine side' ?_ fun K2 hK2 => ?_); exact rfl; (try simp (maxSteps := 10000000) (disch := first | omega | simp) []); refine hK2 _ _ (by simp) ?_; clear hK2 K2; (try simp (maxSteps := 10000000) (disch := first | omega | simp) []))) <;> clear hK K)
        | ((with_reducible refine awCond fun A B hA hB => ?_); simp (maxSteps := 10000000) (disch := first | omega | simp) []; (first | refine ⟨fun h => hA ?_, fun h => hB ?_⟩ | refine hA ?_ | refine hB ?_) <;> (clear hA hB A B; (try (exfalso; omega))))
    · have e := hs.symm; clear hs; (refine aEnR (aRes [true] fun K hK => ?_); simp (maxSteps := 10000000) (disch := first | omega | simp) [e]; refine hK _ ?_ (by simp); clear hK; first | done | (simp (maxSteps := 10000000) (disch := first | omega | simp) [e, *]; done) | (simp (maxSteps := 10000000) (disch := first | omega | simp) [e, *]; omega) | (simp_all [e]; done) | (simp_all [e]; omega))
end
end Go.Am
