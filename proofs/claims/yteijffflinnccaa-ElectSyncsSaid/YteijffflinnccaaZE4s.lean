/- Part of the proof of ElectLeaves. -/
import Derived.Test.YteijffflinnccaaZE1
import Derived.Test.YteijffflinnccaaZE2
import Derived.Test.YteijffflinnccaaZE3s
import Derived.Test.YteijffflinnccaaZED
import Derived.Test.YteijffflinnccaaZPU
set_option linter.all false
set_option maxRecDepth 100000
set_option maxHeartbeats 0
namespace Go.Am
open Go
noncomputable section
def c25 : SC := (.seq (.reg [⟨some 5, .box 30 (.tmp 0), none, []⟩,
  ⟨some 6, .box 48 (.tmp 1), none, []⟩,
  ⟨some 10, .alloc 48, none, []⟩,
  ⟨some 11, .assign (.const .nilIface), none, []⟩] [2, 3, 4, 5, 6, 10, 26, 34, 51, 74, 89, 102]) (.seq (.block 0 (.seq (.reg [⟨some 16, .fieldAddr 48 (.tmp 6) 2, none, []⟩,
  ⟨some 17, .load 3 (.tmp 16), none, []⟩,
  ⟨some 18, .move (.tmp 2), none, []⟩,
  ⟨some 19, .binOp .neq 3 (.tmp 17) (.tmp 18) 3, none, []⟩,
  ⟨some 20, .move (.tmp 19), none, []⟩,
  ⟨some 21, .move (.tmp 2), (some (20, false)), []⟩,
  ⟨some 22, .binOp .eql 3 (.tmp 21) (.const (.int .i64 0)) 3, (some (20, false)), []⟩,
  ⟨some 23, .pick (.tmp 20) (.const (.bool true)) (.tmp 22), none, []⟩,
  ⟨some 15, .assign (.tmp 23), none, []⟩] [2, 3, 4, 5, 6, 10, 15, 19, 20, 22, 23, 26, 34, 51, 74, 89, 102]) (.seq (.cond (.tmp 15) (.seq (.reg [⟨some 24, .load 48 (.tmp 6), none, [25, 26]⟩,
  ⟨some 25, .move (.tmp 2), none, [24]⟩,
  ⟨some 26, .call { callee := .value (.func 69), args := #[.const (.string ⟨#[108, 101, 97, 100, 101, 114]⟩), .tmp 25, .const (.int .i64 12)], argTypes := #[9, 3, 35] }, none, [24]⟩,
  ⟨none, .store 48 (.tmp 10) (.tmp 24), none, []⟩,
  ⟨some 11, .assign (.tmp 26), none, []⟩] [10, 11, 26, 34, 51, 74, 89, 102]) .ret) (.seq (.reg [⟨some 28, .fieldAddr 48 (.tmp 6) 3, none, []⟩,
  ⟨some 29, .load 3 (.tmp 28), none, []⟩,
  ⟨some 30, .move (.tmp 3), none, []⟩,
  ⟨some 31, .binOp .neq 3 (.tmp 29) (.tmp 30) 3, none, []⟩,
  ⟨some 27, .assign (.tmp 31), none, []⟩] [2, 3, 4, 5, 6, 10, 26, 27, 31, 34, 51, 74, 89, 102]) (.seq (.cond (.tmp 27) (.seq (.reg [⟨some 32, .load 48 (.tmp 6), none, [33, 34]⟩,
  ⟨some 33, .move (.tmp 3), none, [32]⟩,
  ⟨some 34, .call { callee := .value (.func 69), args := #[.const (.string ⟨#[101, 112, 111, 99, 104]⟩), .tmp 33, .const (.int .i64 11)], argTypes := #[9, 3, 35] }, none, [32]⟩,
  ⟨none, .store 48 (.tmp 10) (.tmp 32), none, []⟩,
  ⟨some 11, .assign (.tmp 34), none, []⟩] [10, 11, 26, 34, 51, 74, 89, 102]) .ret) (.seq (.reg [⟨some 36, .move (.tmp 4), none, []⟩,
  ⟨some 37, .move (.tmp 2), none, []⟩,
  ⟨some 38, .call { callee := .value (.func 70), args := #[.tmp 36, .tmp 37], argTypes := #[41, 3] }, none, []⟩,
  ⟨some 39, .unOp .not 4 (.tmp 38), none, []⟩,
  ⟨some 40, .move (.tmp 39), none, []⟩,
  ⟨some 41, .move (.tmp 4), (some (40, false)), []⟩,
  ⟨some 42, .call { callee := .builtin .len, args := #[.tmp 41], argTypes := #[41] }, (some (40, false)), []⟩,
  ⟨some 43, .fieldAddr 48 (.tmp 6) 0, (some (40, false)), []⟩,
  ⟨some 44, .load 41 (.tmp 43), (some (40, false)), []⟩,
  ⟨some 45, .call { callee := .builtin .len, args := #[.tmp 44], argTypes := #[41] }, (some (40, false)), []⟩,
  ⟨some 46, .binOp .gtr 3 (.tmp 42) (.tmp 45) 3, (some (40, false)), []⟩,
  ⟨some 47, .pick (.tmp 40) (.const (.bool true)) (.tmp 46), none, []⟩,
  ⟨some 35, .assign (.tmp 47), none, []⟩] [4, 5, 6, 10, 26, 34, 35, 39, 40, 46, 47, 51, 74, 89, 102]) (.seq (.cond (.tmp 35) (.seq (.reg [⟨some 48, .load 48 (.tmp 6), none, [49, 50, 51]⟩,
  ⟨some 49, .move (.tmp 4), none, [48]⟩,
  ⟨some 50, .call { callee := .builtin .len, args := #[.tmp 49], argTypes := #[41] }, none, [48]⟩,
  ⟨some 51, .call { callee := .value (.func 69), args := #[.const (.string ⟨#[105, 115, 114]⟩), .tmp 50, .const (.int .i64 18)], argTypes := #[9, 3, 35] }, none, [48]⟩,
  ⟨none, .store 48 (.tmp 10) (.tmp 48), none, []⟩,
  ⟨some 11, .assign (.tmp 51), none, []⟩] [10, 11, 26, 34, 51, 74, 89, 102]) .ret) .skip) .skip))) .skip))) .skip))) (.seq (.reg [⟨some 52, .move (.tmp 4), none, []⟩,
  ⟨some 53, .call { callee := .builtin .len, args := #[.tmp 52], argTypes := #[41] }, none, []⟩,
  ⟨some 54, .move (.const (.int .i64 0)), none, []⟩] [4, 5, 6, 10, 26, 34, 51, 52, 53, 54, 74, 89, 90, 102]) (.seq (.block 1 (.seq (.loop (.seq (.reg [⟨some 55, .binOp .lss 3 (.tmp 54) (.tmp 53) 3, none, []⟩] [4, 5, 6, 10, 26, 34, 51, 52, 53, 54, 55, 74, 89, 90, 102]) (.seq (.cond (.tmp 55) .skip (.exit 1)) (.seq (.block 2 (.seq (.reg [⟨some 56, .move (.tmp 54), none, []⟩,
  ⟨some 57, .indexAddr 41 (.tmp 52) (.tmp 54), none, []⟩,
  ⟨some 58, .load 3 (.tmp 57), none, []⟩,
  ⟨some 12, .assign (.tmp 56), none, []⟩,
  ⟨some 13, .assign (.tmp 58), none, []⟩] [4, 5, 6, 10, 12, 13, 26, 34, 51, 52, 53, 54, 56, 57, 58, 74, 89, 90, 102]) (.seq (.block 3 (.seq (.reg [⟨some 60, .fieldAddr 48 (.tmp 6) 0, none, []⟩,
  ⟨some 61, .load 41 (.tmp 60), none, []⟩,
  ⟨some 62, .move (.tmp 13), none, []⟩,
  ⟨some 63, .call { callee := .value (.func 70), args := #[.tmp 61, .tmp 62], argTypes := #[41, 3] }, none, []⟩,
  ⟨some 64, .unOp .not 4 (.tmp 63), none, []⟩,
  ⟨some 65, .move (.tmp 64), none, []⟩,
  ⟨some 66, .move (.tmp 4), (some (65, false)), []⟩,
  ⟨some 67, .move (.tmp 12), (some (65, false)), []⟩,
  ⟨some 68, .slice 41 (.tmp 66) none (some (.tmp 67)) none, (some (65, false)), []⟩,
  ⟨some 69, .move (.tmp 13), (some (65, false)), []⟩,
  ⟨some 70, .call { callee := .value (.func 70), args := #[.tmp 68, .tmp 69], argTypes := #[41, 3] }, (some (65, false)), []⟩,
  ⟨some 71, .pick (.tmp 65) (.const (.bool true)) (.tmp 70), none, []⟩,
  ⟨some 59, .assign (.tmp 71), none, []⟩] [4, 5, 6, 10, 12, 13, 26, 34, 51, 52, 53, 54, 56, 57, 58, 59, 64, 65, 70, 71, 74, 89, 90, 102]) (.seq (.cond (.tmp 59) (.seq (.reg [⟨some 72, .load 48 (.tmp 6), none, [73, 74]⟩,
  ⟨some 73, .move (.tmp 12), none, [72]⟩,
  ⟨some 74, .call { callee := .value (.func 69), args := #[.const (.string ⟨#[105, 115, 114]⟩), .tmp 73, .const (.int .i64 18)], argTypes := #[9, 3, 35] }, none, [72]⟩,
  ⟨none, .store 48 (.tmp 10) (.tmp 72), none, []⟩,
  ⟨some 11, .assign (.tmp 74), none, []⟩] [10, 11, 26, 34, 51, 74, 89, 102]) .ret) (.seq (.reg [⟨some 76, .fieldAddr 48 (.tmp 6) 1, none, []⟩,
  ⟨some 77, .load 41 (.tmp 76), none, []⟩,
  ⟨some 78, .move (.tmp 13), none, []⟩,
  ⟨some 79, .call { callee := .value (.func 70), args := #[.tmp 77, .tmp 78], argTypes := #[41, 3] }, none, []⟩,
  ⟨some 80, .unOp .not 4 (.tmp 79), none, []⟩,
  ⟨some 81, .move (.tmp 80), none, []⟩,
  ⟨some 82, .load 30 (.tmp 5), (some (81, true)), []⟩,
  ⟨some 83, .move (.tmp 13), (some (81, true)), []⟩,
  ⟨some 84, .call { callee := .value (.func 71), args := #[.tmp 82, .tmp 83, .const (.bool true)], argTypes := #[30, 3, 4] }, (some (81, true)), []⟩,
  ⟨some 85, .unOp .not 4 (.tmp 84), (some (81, true)), []⟩,
  ⟨some 86, .pick (.tmp 81) (.tmp 85) (.const (.bool false)), none, []⟩,
  ⟨some 75, .assign (.tmp 86), none, []⟩] [4, 5, 6, 10, 12, 26, 34, 51, 52, 53, 54, 56, 74, 75, 80, 81, 85, 86, 89, 90, 102]) (.seq (.cond (.tmp 75) (.seq (.reg [⟨some 87, .load 48 (.tmp 6), none, [88, 89]⟩,
  ⟨some 88, .move (.tmp 12), none, [87]⟩,
  ⟨some 89, .call { callee := .value (.func 69), args := #[.const (.string ⟨#[105, 115, 114]⟩), .tmp 88, .const (.int .i64 17)], argTypes := #[9, 3, 35] }, none, [87]⟩,
  ⟨none, .store 48 (.tmp 10) (.tmp 87), none, []⟩,
  ⟨some 11, .assign (.tmp 89), none, []⟩] [10, 11, 26, 34, 51, 74, 89, 102]) .ret) .skip) .skip))) .skip))) .skip))) (.seq (.reg [⟨some 90, .binOp .add 3 (.tmp 54) (.const (.int .i64 1)) 3, none, []⟩,
  ⟨some 54, .move (.tmp 90), none, []⟩] [4, 5, 6, 10, 26, 34, 51, 52, 53, 54, 74, 89, 90, 102]) .skip))))) .skip)) (.seq (.reg [⟨some 91, .load 48 (.tmp 6), none, []⟩,
  ⟨some 92, .call { callee := .value (.func 72), args := #[.tmp 91], argTypes := #[48] }, none, []⟩,
  ⟨some 14, .alloc 48, none, []⟩,
  ⟨none, .store 48 (.tmp 14) (.tmp 92), none, []⟩] [4, 6, 10, 14, 26, 34, 51, 74, 89, 102]) (.seq (.reg [⟨some 93, .move (.tmp 4), none, []⟩,
  ⟨some 94, .call { callee := .value (.func 73), args := #[.tmp 93], argTypes := #[41] }, none, []⟩,
  ⟨some 95, .fieldAddr 48 (.tmp 14) 1, none, []⟩,
  ⟨none, .store 41 (.tmp 95) (.tmp 94), none, []⟩] [4, 6, 10, 14, 26, 34, 51, 74, 89, 102]) (.seq (.reg [⟨some 96, .load 48 (.tmp 14), none, []⟩,
  ⟨some 97, .load 48 (.tmp 6), none, []⟩,
  ⟨some 98, .call { callee := .value (.func 74), args := #[.tmp 96, .tmp 97], argTypes := #[48, 48] }, none, []⟩] [4, 6, 10, 14, 26, 34, 51, 74, 89, 98, 102]) (.seq (.cond (.tmp 98) (.seq (.reg [⟨some 99, .load 48 (.tmp 6), none, [100, 101, 102]⟩,
  ⟨some 100, .move (.tmp 4), none, [99]⟩,
  ⟨some 101, .call { callee := .builtin .len, args := #[.tmp 100], argTypes := #[41] }, none, [99]⟩,
  ⟨some 102, .call { callee := .value (.func 69), args := #[.const (.string ⟨#[105, 115, 114]⟩), .tmp 101, .const (.int .i64 10)], argTypes := #[9, 3, 35] }, none, [99]⟩,
  ⟨none, .store 48 (.tmp 10) (.tmp 99), none, []⟩,
  ⟨some 11, .assign (.tmp 102), none, []⟩] [10, 11, 26, 34, 51, 74, 89, 102]) .ret) .skip) (.seq (.reg [⟨some 103, .load 48 (.tmp 14), none, []⟩,
  ⟨none, .store 48 (.tmp 10) (.tmp 103), none, []⟩,
  ⟨some 11, .assign (.const .nilIface), none, []⟩] [10, 11, 26, 34, 51, 74, 89, 102]) .ret)))))))))
theorem s25 : TextK Proofs.Try.prog 0 25 104 [ResultVar.cell 10 48, ResultVar.tmp 11] c25 := .mk' Proofs.Try.f25 _ (by kernel_rfl) rfl rfl rfl (by kernel_rfl) rfl (by kernel_rfl)
theorem sync_ok (m : Image) (p : Part) (leader epoch : Int) (isr : List Int) (hbk : m.Brk) (hp : p.Small) (hil : isr.length ≤ 1000000) (hb : ∀ n ∈ p.ids, big62 n) : ACall pg 25 [encM m, encP p, I leader, I epoch, Li isr] (.tup [encP (m.sync p leader epoch isr).1, errO (m.sync p leader epoch isr).2]) := by
  refine s25.call mo (by simp) fun hxs => ?_
  clear hxs
  have hpi := hp.ids
  have hso : ({ p with isr := isr } : Part).Small := ⟨hp.ids, hil, hp.add, hp.drop⟩
  unfold c25
  repeat' first
      | (with_reducible first | refine thN ?_ | refine thR ?_ | refine thE ?_ | refine inN ?_ | refine inR ?_ | refine inH ?_ | refine fF ?_ | refine fS ?_ | refine fR ?_ | refine fQ ?_ | refine fC ?_ | refine fB ?_ | refine fL ?_ | refine fE ?_ | refine fT ?_ | refine awBlock ?_ | refine awExit ?_ | refine awRet ?_ | refine awSkip ?_ | refine inM (by decide) ?_)
      | ((with_reducible refine awReg fun K hok hK => ?_); clear hok; (try simp (maxSteps := 10000000) (disch := first | omega | simp) []); (repeat' first
          | (with_reducible refine hK _ (by simp) ?_)
          | ((with_reducible refine gdT (fun h => ?_) (fun h => ?_)) <;> (simp (maxSteps := 10000000) (disch := first | omega | simp) [h]; (try simp at h); (try (exfalso; omega))))
          | ((with_reducible refine gdF (fun h => ?_) (fun h => ?_)) <;> (simp (maxSteps := 10000000) (disch := first | omega | simp) [h]; (try simp at h); (try (exfalso; omega))))
          | ((with_reducible refine callS' fun K2 hK2 => ?_); (try simp (maxSteps := 10000000) (disch := first | omega | simp) []); (first | (refine hK2 _ _ (new_ok _ _ _) rfl fun hk9 => ?_; clear hk9) | (refine hK2 _ _ (contains_ok isr leader hil) rfl fun hk9 => ?_; clear hk9)); clear hK2 K2; (try simp (maxSteps := 10000000) (disch := first | omega | simp) []))
          | ((with_reducible refine callF' fun K2 hK2 => ?_); (try simp (maxSteps := 10000000) (disch := first | omega | simp) []); (first | refine hK2 _ _ _ (new_ok _ _ _) fun _ => ?_ | refine hK2 _ _ _ (contains_ok isr leader hil) fun _ => ?_); clear hK2 K2; (try simp (maxSteps := 10000000) (disch := first | omega | simp) []))
          | ((with_reducible refine sideS' fun K2 hK2 => ?_); (try simp (maxSteps := 10000000) (disch := first | omega | simp) []); (first | refine hK2 _ _ (new_ok _ _ _) rfl ?_ | refine hK2 _ _ (contains_ok isr leader hil) rfl ?_); clear hK2 K2; (try simp (maxSteps := 10000000) (disch := first | omega | simp) []))
          | ((with_reducible refine sideF' fun K2 hK2 => ?_); (try simp (maxSteps := 10000000) (disch := first | omega | simp) []); (first | refine hK2 _ _ _ (new_ok _ _ _) (by simp) ?_ | refine hK2 _ _ _ (contains_ok isr leader hil) (by simp) ?_); clear hK2 K2; (try simp (maxSteps := 10000000) (disch := first | omega | simp) []))
          | ((with_reducible refine sideSt' fun K2 hK2 => ?_); (try simp (maxSteps := 10000000) (disch := first | omega | simp) []); refine hK2 _ ?_; clear hK2 K2; (try simp (maxSteps := 10000000) (disch := first | omega | simp) []))
          | ((with_reducible refine gdU ?_); (try simp (maxSteps := 10000000) (disch := first | omega | simp) []))
          | ((with_reducible refine sideQ' ?_ ?_ fun K2 hK2 => ?_); exact rfl; exact rfl; (try simp (maxSteps := 10000000) (disch := first | omega | simp) []); with_reducible refine hK2 _ _ ?_; clear hK2 K2; (try simp (maxSteps := 10000000) (disch := first | omega | simp) []))
          | ((with_reducible refine side' ?_ fun K2 hK2 => ?_); exact rfl; (try simp (maxSteps := 10000000) (disch := first | omega | simp) []); refine hK2 _ _ (by simp) ?_; clear hK2 K2; (try simp (maxSteps := 10000000) (disch := first | omega | simp) []))) <;> clear hK K)
      | ((with_reducible refine awCond fun A B hA hB => ?_); simp (maxSteps := 10000000) (disch := first | omega | simp) []; (first | refine ⟨fun h => hA ?_, fun h => hB ?_⟩ | refine hA ?_ | refine hB ?_) <;> (clear hA hB A B; (try (exfalso; omega))))
  all_goals first
    | (refine aEnR (aRes [true] fun K hK => ?_); simp (maxSteps := 10000000) (disch := first | omega | simp) []; refine hK _ ?_ (by simp); clear hK; (try simp only [Image.sync]); ((repeat' split) <;> first | with_reducible rfl | contradiction | (exfalso; omega) | (simp []; done) | grind))
    | (refine awFor isr.length (fun i (_ : Unit) => m.syncFrom p isr (isr.drop i) i = m.syncFrom p isr isr 0) (fun i _ => [(54, .p (I i)), (53, .p (I isr.length)), (52, .p (Li isr)), (10, .p (.own [.uq [], .uq [], I 0, I 0, .uq [], .uq []])), (6, .p (.own (encP p).cells)), (5, .p (.own (encM m).cells)), (4, .p (Li isr))]) () (Wk.ofA (by simp)) rfl fun i _ hi hf => ?_
       by_cases hlt : i < isr.length
       · rw [drop_cons hlt] at hf
         simp only [Image.syncFrom] at hf
         have hct : ACall pg 70 [.sl ((isr.map I).take i), I isr[i]] (B ((isr.take i).contains isr[i])) := by
           rw [← List.map_take]; exact contains_ok (isr.take i) isr[i] (by simp; omega)
         repeat' first
             | (with_reducible first | refine thN ?_ | refine thR ?_ | refine thE ?_ | refine inN ?_ | refine inR ?_ | refine inH ?_ | refine fF ?_ | refine fS ?_ | refine fR ?_ | refine fQ ?_ | refine fC ?_ | refine fB ?_ | refine fL ?_ | refine fE ?_ | refine fT ?_ | refine awBlock ?_ | refine awExit ?_ | refine awRet ?_ | refine awSkip ?_ | refine inM (by decide) ?_)
             | ((with_reducible refine awReg fun K hok hK => ?_); clear hok; (try simp (maxSteps := 10000000) (disch := first | omega | simp) []); (repeat' first
                 | (with_reducible refine hK _ (by simp) ?_)
                 | ((with_reducible refine gdT (fun h => ?_) (fun h => ?_)) <;> (simp (maxSteps := 10000000) (disch := first | omega | simp) [h]; (try simp at h); (try (exfalso; omega))))
                 | ((with_reducible refine gdF (fun h => ?_) (fun h => ?_)) <;> (simp (maxSteps := 10000000) (disch := first | omega | simp) [h]; (try simp at h); (try (exfalso; omega))))
                 | ((with_reducible refine callS' fun K2 hK2 => ?_); (try simp (maxSteps := 10000000) (disch := first | omega | simp) []); (first | (refine hK2 _ _ (new_ok _ _ _) rfl fun hk9 => ?_; clear hk9) | (refine hK2 _ _ (contains_ok p.ids isr[i] hp.ids) rfl fun hk9 => ?_; clear hk9) | (refine hK2 _ _ (hct) rfl fun hk9 => ?_; clear hk9) | (refine hK2 _ _ (contains_ok p.isr isr[i] hp.isr) rfl fun hk9 => ?_; clear hk9) | (refine hK2 _ _ (fit_ok' m isr[i] true hbk (hb _ (by assumption))) rfl fun hk9 => ?_; clear hk9)); clear hK2 K2; (try simp (maxSteps := 10000000) (disch := first | omega | simp) []))
                 | ((with_reducible refine callF' fun K2 hK2 => ?_); (try simp (maxSteps := 10000000) (disch := first | omega | simp) []); (first | refine hK2 _ _ _ (new_ok _ _ _) fun _ => ?_ | refine hK2 _ _ _ (contains_ok p.ids isr[i] hp.ids) fun _ => ?_ | refine hK2 _ _ _ (hct) fun _ => ?_ | refine hK2 _ _ _ (contains_ok p.isr isr[i] hp.isr) fun _ => ?_ | refine hK2 _ _ _ (fit_ok' m isr[i] true hbk (hb _ (by assumption))) fun _ => ?_); clear hK2 K2; (try simp (maxSteps := 10000000) (disch := first | omega | simp) []))
                 | ((with_reducible refine sideS' fun K2 hK2 => ?_); (try simp (maxSteps := 10000000) (disch := first | omega | simp) []); (first | refine hK2 _ _ (new_ok _ _ _) rfl ?_ | refine hK2 _ _ (contains_ok p.ids isr[i] hp.ids) rfl ?_ | refine hK2 _ _ (hct) rfl ?_ | refine hK2 _ _ (contains_ok p.isr isr[i] hp.isr) rfl ?_ | refine hK2 _ _ (fit_ok' m isr[i] true hbk (hb _ (by assumption))) rfl ?_); clear hK2 K2; (try simp (maxSteps := 10000000) (disch := first | omega | simp) []))
                 | ((with_reducible refine sideF' fun K2 hK2 => ?_); (try simp (maxSteps := 10000000) (disch := first | omega | simp) []); (first | refine hK2 _ _ _ (new_ok _ _ _) (by simp) ?_ | refine hK2 _ _ _ (contains_ok p.ids isr[i] hp.ids) (by simp) ?_ | refine hK2 _ _ _ (hct) (by simp) ?_ | refine hK2 _ _ _ (contains_ok p.isr isr[i] hp.isr) (by simp) ?_ | refine hK2 _ _ _ (fit_ok' m isr[i] true hbk (hb _ (by assumption))) (by simp) ?_); clear hK2 K2; (try simp (maxSteps := 10000000) (disch := first | omega | simp) []))
                 | ((with_reducible refine callT' rfl fun K2 hK2 => ?_); (try simp (maxSteps := 10000000) (disch := first | omega | simp) []); (first | refine hK2 _ _ _ _ _ (hct) fun _ => ?_); clear hK2 K2; (try simp (maxSteps := 10000000) (disch := first | omega | simp) []))
                 | ((with_reducible refine callM' rfl fun K2 hK2 => ?_); (try simp (maxSteps := 10000000) (disch := first | omega | simp) []); (first | refine hK2 _ _ _ _ _ _ _ (hct) rfl fun _ _ => ?_); clear hK2 K2; (try simp (maxSteps := 10000000) (disch := first | omega | simp) []))
                 | ((with_reducible refine sideSt' fun K2 hK2 => ?_); (try simp (maxSteps := 10000000) (disch := first | omega | simp) []); refine hK2 _ ?_; clear hK2 K2; (try simp (maxSteps := 10000000) (disch := first | omega | simp) []))
                 | ((with_reducible refine gdU ?_); (try simp (maxSteps := 10000000) (disch := first | omega | simp) []))
                 | ((with_reducible refine sideQ' ?_ ?_ fun K2 hK2 => ?_); exact rfl; exact rfl; (try simp (maxSteps := 10000000) (disch := first | omega | simp) []); with_reducible refine hK2 _ _ ?_; clear hK2 K2; (try simp (maxSteps := 10000000) (disch := first | omega | simp) []))
                 | ((with_reducible refine side' ?_ fun K2 hK2 => ?_); exact rfl; (try simp (maxSteps := 10000000) (disch := first | omega | simp) []); refine hK2 _ _ (by simp) ?_; clear hK2 K2; (try simp (maxSteps := 10000000) (disch := first | omega | simp) []))) <;> clear hK K)
             | ((with_reducible refine awCond fun A B hA hB => ?_); simp (maxSteps := 10000000) (disch := first | omega | simp) []; (first | refine ⟨fun h => hA ?_, fun h => hB ?_⟩ | refine hA ?_ | refine hB ?_) <;> (clear hA hB A B; (try (exfalso; omega))))
         all_goals first
           | ((refine ⟨?_, (), ?_, Wk.ofA ?_⟩; assumption; rotate_left; focus (simp []; done))
              rw [if_neg (by simp [*]), if_neg (by simp [*])] at hf
              exact hf)
           | (have e : m.syncFrom p isr isr 0 = some (bs [105, 115, 114], (i : Int), 18) := (by rw [← hf, if_pos (by simp [*])])
              clear hf
              (refine aEnR (aRes [true] fun K hK => ?_); simp (maxSteps := 10000000) (disch := first | omega | simp) [e]; refine hK _ ?_ (by simp); clear hK; (try simp only [Image.sync, e]); ((repeat' split) <;> first | with_reducible rfl | contradiction | (exfalso; omega) | (simp [e]; done) | grind)))
           | (have e : m.syncFrom p isr isr 0 = some (bs [105, 115, 114], (i : Int), 17) := (by rw [← hf, if_neg (by simp [*]), if_pos (by simp [*])])
              clear hf
              (refine aEnR (aRes [true] fun K hK => ?_); simp (maxSteps := 10000000) (disch := first | omega | simp) [e]; refine hK _ ?_ (by simp); clear hK; (try simp only [Image.sync, e]); ((repeat' split) <;> first | with_reducible rfl | contradiction | (exfalso; omega) | (simp [e]; done) | grind)))
       · rw [drop_nil (by omega), Image.syncFrom] at hf
         have e := hf.symm
         clear hf
         repeat' first
             | (with_reducible first | refine thN ?_ | refine thR ?_ | refine thE ?_ | refine inN ?_ | refine inR ?_ | refine inH ?_ | refine fF ?_ | refine fS ?_ | refine fR ?_ | refine fQ ?_ | refine fC ?_ | refine fB ?_ | refine fL ?_ | refine fE ?_ | refine fT ?_ | refine awBlock ?_ | refine awExit ?_ | refine awRet ?_ | refine awSkip ?_ | refine inM (by decide) ?_)
             | ((with_reducible refine awReg fun K hok hK => ?_); clear hok; (try simp (maxSteps := 10000000) (disch := first | omega | simp) []); (repeat' first
                 | (with_reducible refine hK _ (by simp) ?_)
                 | ((with_reducible refine gdT (fun h => ?_) (fun h => ?_)) <;> (simp (maxSteps := 10000000) (disch := first | omega | simp) [h]; (try simp at h); (try (exfalso; omega))))
                 | ((with_reducible refine gdF (fun h => ?_) (fun h => ?_)) <;> (simp (maxSteps := 10000000) (disch := first | omega | simp) [h]; (try simp at h); (try (exfalso; omega))))
                 | ((with_reducible refine callS' fun K2 hK2 => ?_); (try simp (maxSteps := 10000000) (disch := first | omega | simp) []); (first | (refine hK2 _ _ (new_ok _ _ _) rfl fun hk9 => ?_; clear hk9) | (refine hK2 _ _ (alone_ok p hp) rfl fun hk9 => ?_; clear hk9) | (refine hK2 _ _ (cloneI_ok isr hil) rfl fun hk9 => ?_; clear hk9) | (refine hK2 _ _ (same_ok { p with isr := isr } p hso hp) rfl fun hk9 => ?_; clear hk9)); clear hK2 K2; (try simp (maxSteps := 10000000) (disch := first | omega | simp) []))
                 | ((with_reducible refine callF' fun K2 hK2 => ?_); (try simp (maxSteps := 10000000) (disch := first | omega | simp) []); (first | refine hK2 _ _ _ (new_ok _ _ _) fun _ => ?_ | refine hK2 _ _ _ (alone_ok p hp) fun _ => ?_ | refine hK2 _ _ _ (cloneI_ok isr hil) fun _ => ?_ | refine hK2 _ _ _ (same_ok { p with isr := isr } p hso hp) fun _ => ?_); clear hK2 K2; (try simp (maxSteps := 10000000) (disch := first | omega | simp) []))
                 | ((with_reducible refine sideS' fun K2 hK2 => ?_); (try simp (maxSteps := 10000000) (disch := first | omega | simp) []); (first | refine hK2 _ _ (new_ok _ _ _) rfl ?_ | refine hK2 _ _ (alone_ok p hp) rfl ?_ | refine hK2 _ _ (cloneI_ok isr hil) rfl ?_ | refine hK2 _ _ (same_ok { p with isr := isr } p hso hp) rfl ?_); clear hK2 K2; (try simp (maxSteps := 10000000) (disch := first | omega | simp) []))
                 | ((with_reducible refine sideF' fun K2 hK2 => ?_); (try simp (maxSteps := 10000000) (disch := first | omega | simp) []); (first | refine hK2 _ _ _ (new_ok _ _ _) (by simp) ?_ | refine hK2 _ _ _ (alone_ok p hp) (by simp) ?_ | refine hK2 _ _ _ (cloneI_ok isr hil) (by simp) ?_ | refine hK2 _ _ _ (same_ok { p with isr := isr } p hso hp) (by simp) ?_); clear hK2 K2; (try simp (maxSteps := 10000000) (disch := first | omega | simp) []))
                 | ((with_reducible refine sideSt' fun K2 hK2 => ?_); (try simp (maxSteps := 10000000) (disch := first | omega | simp) []); refine hK2 _ ?_; clear hK2 K2; (try simp (maxSteps := 10000000) (disch := first | omega | simp) []))
                 | ((with_reducible refine gdU ?_); (try simp (maxSteps := 10000000) (disch := first | omega | simp) []))
                 | ((with_reducible refine sideQ' ?_ ?_ fun K2 hK2 => ?_); exact rfl; exact rfl; (try simp (maxSteps := 10000000) (disch := first | omega | simp) []); with_reducible refine hK2 _ _ ?_; clear hK2 K2; (try simp (maxSteps := 10000000) (disch := first | omega | simp) []))
                 | ((with_reducible refine side' ?_ fun K2 hK2 => ?_); exact rfl; (try simp (maxSteps := 10000000) (disch := first | omega | simp) []); refine hK2 _ _ (by simp) ?_; clear hK2 K2; (try simp (maxSteps := 10000000) (disch := first | omega | simp) []))) <;> clear hK K)
             | ((with_reducible refine awCond fun A B hA hB => ?_); simp (maxSteps := 10000000) (disch := first | omega | simp) []; (first | refine ⟨fun h => hA ?_, fun h => hB ?_⟩ | refine hA ?_ | refine hB ?_) <;> (clear hA hB A B; (try (exfalso; omega))))
         all_goals (refine aEnR (aRes [true] fun K hK => ?_); simp (maxSteps := 10000000) (disch := first | omega | simp) [e]; refine hK _ ?_ (by simp); clear hK; (try simp only [Image.sync, e]); ((repeat' split) <;> first | with_reducible rfl | contradiction | (exfalso; omega) | (simp [e]; done) | grind)))
end
end Go.Am
