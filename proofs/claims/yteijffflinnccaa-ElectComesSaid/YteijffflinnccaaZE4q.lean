/- Part of the proof of ElectLeaves. -/
import Derived.Test.YteijffflinnccaaZE1
import Derived.Test.YteijffflinnccaaZE2
import Derived.Test.YteijffflinnccaaZE3w
import Derived.Test.YteijffflinnccaaZED
import Derived.Test.YteijffflinnccaaZPU
set_option linter.all false
set_option maxRecDepth 100000
set_option maxHeartbeats 0
namespace Go.Am
open Go
noncomputable section
def c52 : SC := (.seq (.reg [⟨some 2, .box 30 (.tmp 0), none, []⟩,
  ⟨some 3, .box 48 (.tmp 1), none, []⟩,
  ⟨some 4, .alloc 48, none, []⟩,
  ⟨some 5, .assign (.const .nilIface), none, []⟩] [2, 3, 4, 18, 33]) (.seq (.reg [⟨some 7, .fieldAddr 48 (.tmp 3) 0, none, []⟩,
  ⟨some 8, .load 41 (.tmp 7), none, []⟩,
  ⟨some 9, .indexAddr 41 (.tmp 8) (.const (.int .i64 0)), none, []⟩,
  ⟨some 10, .load 3 (.tmp 9), none, []⟩,
  ⟨some 6, .assign (.tmp 10), none, []⟩] [2, 3, 4, 6, 7, 8, 9, 10, 18, 33]) (.seq (.block 0 (.seq (.reg [⟨some 12, .fieldAddr 48 (.tmp 3) 2, none, []⟩,
  ⟨some 13, .load 3 (.tmp 12), none, []⟩,
  ⟨some 14, .move (.tmp 6), none, []⟩,
  ⟨some 15, .binOp .eql 3 (.tmp 13) (.tmp 14) 3, none, []⟩,
  ⟨some 11, .assign (.tmp 15), none, []⟩] [2, 3, 4, 6, 7, 8, 9, 10, 11, 15, 18, 33]) (.seq (.cond (.tmp 11) (.seq (.reg [⟨some 16, .load 48 (.tmp 3), none, [17, 18]⟩,
  ⟨some 17, .move (.tmp 6), none, [16]⟩,
  ⟨some 18, .call { callee := .value (.func 69), args := #[.const (.string ⟨#[108, 101, 97, 100, 101, 114]⟩), .tmp 17, .const (.int .i64 10)], argTypes := #[9, 3, 35] }, none, [16]⟩,
  ⟨none, .store 48 (.tmp 4) (.tmp 16), none, []⟩,
  ⟨some 5, .assign (.tmp 18), none, []⟩] [4, 5, 18, 33]) .ret) (.seq (.reg [⟨some 20, .fieldAddr 48 (.tmp 3) 1, none, []⟩,
  ⟨some 21, .load 41 (.tmp 20), none, []⟩,
  ⟨some 22, .move (.tmp 6), none, []⟩,
  ⟨some 23, .call { callee := .value (.func 70), args := #[.tmp 21, .tmp 22], argTypes := #[41, 3] }, none, []⟩,
  ⟨some 24, .unOp .not 4 (.tmp 23), none, []⟩,
  ⟨some 25, .move (.tmp 24), none, []⟩,
  ⟨some 26, .load 30 (.tmp 2), (some (25, false)), []⟩,
  ⟨some 27, .move (.tmp 6), (some (25, false)), []⟩,
  ⟨some 28, .call { callee := .value (.func 71), args := #[.tmp 26, .tmp 27, .const (.bool true)], argTypes := #[30, 3, 4] }, (some (25, false)), []⟩,
  ⟨some 29, .unOp .not 4 (.tmp 28), (some (25, false)), []⟩,
  ⟨some 30, .pick (.tmp 25) (.const (.bool true)) (.tmp 29), none, []⟩,
  ⟨some 19, .assign (.tmp 30), none, []⟩] [3, 4, 6, 7, 8, 9, 10, 18, 19, 24, 25, 29, 30, 33]) (.seq (.cond (.tmp 19) (.seq (.reg [⟨some 31, .load 48 (.tmp 3), none, [32, 33]⟩,
  ⟨some 32, .move (.tmp 6), none, [31]⟩,
  ⟨some 33, .call { callee := .value (.func 69), args := #[.const (.string ⟨#[108, 101, 97, 100, 101, 114]⟩), .tmp 32, .const (.int .i64 17)], argTypes := #[9, 3, 35] }, none, [31]⟩,
  ⟨none, .store 48 (.tmp 4) (.tmp 31), none, []⟩,
  ⟨some 5, .assign (.tmp 33), none, []⟩] [4, 5, 18, 33]) .ret) .skip) .skip))) .skip))) (.seq (.reg [⟨some 34, .load 48 (.tmp 3), none, []⟩,
  ⟨some 35, .call { callee := .value (.func 72), args := #[.tmp 34], argTypes := #[48] }, none, []⟩,
  ⟨some 36, .move (.tmp 6), none, []⟩,
  ⟨some 37, .call { callee := .value (.func 114), args := #[.tmp 35, .tmp 36], argTypes := #[48, 3] }, none, []⟩,
  ⟨none, .store 48 (.tmp 4) (.tmp 37), none, []⟩,
  ⟨some 5, .assign (.const .nilIface), none, []⟩] [4, 5, 18, 33]) .ret))))
theorem s52 : TextK Proofs.Try.prog 0 52 38 [ResultVar.cell 4 48, ResultVar.tmp 5] c52 := .mk' Proofs.Try.f52 _ (by kernel_rfl) rfl rfl rfl (by kernel_rfl) rfl (by kernel_rfl)
theorem prefer_ok (m : Image) (p : Part) (hbk : m.Brk) (hp : p.Small) (hne : p.ids ≠ []) (hb : ∀ n ∈ p.ids, big62 n) (he : 0 ≤ p.epoch ∧ p.epoch ≤ 1000000) : ACall pg 52 [encM m, encP p] (.tup [encP (m.prefer p).1, errO (m.prefer p).2]) := by
  refine s52.call mo (by simp) fun hxs => ?_
  clear hxs
  obtain ⟨f, l, hfl⟩ := List.exists_cons_of_ne_nil hne
  have hb1 := hb f (by rw [hfl]; simp)
  unfold c52
  have hd : p.ids.headD 0 = f := by rw [hfl]; rfl
  have h0 : p.ids[0]? = some f := by rw [hfl]; rfl
  repeat' first
      | (with_reducible first | refine thN ?_ | refine thR ?_ | refine thE ?_ | refine inN ?_ | refine inR ?_ | refine inH ?_ | refine fF ?_ | refine fS ?_ | refine fR ?_ | refine fQ ?_ | refine fC ?_ | refine fB ?_ | refine fL ?_ | refine fE ?_ | refine fT ?_ | refine awBlock ?_ | refine awExit ?_ | refine awRet ?_ | refine awSkip ?_ | refine inM (by decide) ?_)
      | ((with_reducible refine awReg fun K hok hK => ?_); clear hok; (try simp (maxSteps := 10000000) (disch := first | omega | simp) [h0]); (repeat' first
          | (with_reducible refine hK _ (by simp) ?_)
          | ((with_reducible refine gdT (fun h => ?_) (fun h => ?_)) <;> (simp (maxSteps := 10000000) (disch := first | omega | simp) [h, h0]; (try simp at h); (try (exfalso; omega))))
          | ((with_reducible refine gdF (fun h => ?_) (fun h => ?_)) <;> (simp (maxSteps := 10000000) (disch := first | omega | simp) [h, h0]; (try simp at h); (try (exfalso; omega))))
          | ((with_reducible refine callS' fun K2 hK2 => ?_); (try simp (maxSteps := 10000000) (disch := first | omega | simp) [h0]); (first | (refine hK2 _ _ (new_ok _ _ _) rfl fun hk9 => ?_; clear hk9) | (refine hK2 _ _ (contains_ok p.isr f hp.isr) rfl fun hk9 => ?_; clear hk9) | (refine hK2 _ _ (fit_ok' m f true hbk hb1) rfl fun hk9 => ?_; clear hk9) | (refine hK2 _ _ (alone_ok p hp) rfl fun hk9 => ?_; clear hk9)); clear hK2 K2; (try simp (maxSteps := 10000000) (disch := first | omega | simp) [h0]))
          | ((with_reducible refine callF' fun K2 hK2 => ?_); (try simp (maxSteps := 10000000) (disch := first | omega | simp) [h0]); (first | refine hK2 _ _ _ (new_ok _ _ _) fun _ => ?_ | refine hK2 _ _ _ (contains_ok p.isr f hp.isr) fun _ => ?_ | refine hK2 _ _ _ (fit_ok' m f true hbk hb1) fun _ => ?_ | refine hK2 _ _ _ (alone_ok p hp) fun _ => ?_); clear hK2 K2; (try simp (maxSteps := 10000000) (disch := first | omega | simp) [h0]))
          | ((with_reducible refine sideS' fun K2 hK2 => ?_); (try simp (maxSteps := 10000000) (disch := first | omega | simp) [h0]); (first | refine hK2 _ _ (new_ok _ _ _) rfl ?_ | refine hK2 _ _ (contains_ok p.isr f hp.isr) rfl ?_ | refine hK2 _ _ (fit_ok' m f true hbk hb1) rfl ?_ | refine hK2 _ _ (alone_ok p hp) rfl ?_); clear hK2 K2; (try simp (maxSteps := 10000000) (disch := first | omega | simp) [h0]))
          | ((with_reducible refine sideF' fun K2 hK2 => ?_); (try simp (maxSteps := 10000000) (disch := first | omega | simp) [h0]); (first | refine hK2 _ _ _ (new_ok _ _ _) (by simp) ?_ | refine hK2 _ _ _ (contains_ok p.isr f hp.isr) (by simp) ?_ | refine hK2 _ _ _ (fit_ok' m f true hbk hb1) (by simp) ?_ | refine hK2 _ _ _ (alone_ok p hp) (by simp) ?_); clear hK2 K2; (try simp (maxSteps := 10000000) (disch := first | omega | simp) [h0]))
          | ((with_reducible refine callT' rfl fun K2 hK2 => ?_); (try simp (maxSteps := 10000000) (disch := first | omega | simp) [h0]); (first | refine hK2 _ _ _ _ _ (with_ok p f he) fun _ => ?_); clear hK2 K2; (try simp (maxSteps := 10000000) (disch := first | omega | simp) [h0]))
          | ((with_reducible refine callM' rfl fun K2 hK2 => ?_); (try simp (maxSteps := 10000000) (disch := first | omega | simp) [h0]); (first | refine hK2 _ _ _ _ _ _ _ (with_ok p f he) rfl fun _ _ => ?_); clear hK2 K2; (try simp (maxSteps := 10000000) (disch := first | omega | simp) [h0]))
          | ((with_reducible refine sideSt' fun K2 hK2 => ?_); (try simp (maxSteps := 10000000) (disch := first | omega | simp) [h0]); refine hK2 _ ?_; clear hK2 K2; (try simp (maxSteps := 10000000) (disch := first | omega | simp) [h0]))
          | ((with_reducible refine gdU ?_); (try simp (maxSteps := 10000000) (disch := first | omega | simp) [h0]))
          | ((with_reducible refine sideQ' ?_ ?_ fun K2 hK2 => ?_); exact rfl; exact rfl; (try simp (maxSteps := 10000000) (disch := first | omega | simp) [h0]); with_reducible refine hK2 _ _ ?_; clear hK2 K2; (try simp (maxSteps := 10000000) (disch := first | omega | simp) [h0]))
          | ((with_reducible refine side' ?_ fun K2 hK2 => ?_); exact rfl; (try simp (maxSteps := 10000000) (disch := first | omega | simp) [h0]); refine hK2 _ _ (by simp) ?_; clear hK2 K2; (try simp (maxSteps := 10000000) (disch := first | omega | simp) [h0]))) <;> clear hK K)
      | ((with_reducible refine awCond fun A B hA hB => ?_); simp (maxSteps := 10000000) (disch := first | omega | simp) [h0]; (first | refine ⟨fun h => hA ?_, fun h => hB ?_⟩ | refine hA ?_ | refine hB ?_) <;> (clear hA hB A B; (try (exfalso; omega))))
  all_goals (refine aEnR (aRes [true] fun K hK => ?_); simp (maxSteps := 10000000) (disch := first | omega | simp) [hd]; refine hK _ ?_ (by simp); clear hK; (try simp only [Image.prefer, hd]); ((repeat' split) <;> first | with_reducible rfl | contradiction | (exfalso; omega) | (simp [hd]; done) | grind))
end
end Go.Am
