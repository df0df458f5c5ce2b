/- Part of the proof of ElectLeaves. -/
import Derived.Test.YteijffflinnccaaZAB
set_option linter.all false
set_option maxRecDepth 100000
set_option maxHeartbeats 0
namespace Go.Am
open Go
noncomputable section
def c64 : SC := (.seq (.reg [⟨some 2, .box 30 (.tmp 0), none, []⟩,
  ⟨some 3, .box 43 (.tmp 1), none, []⟩,
  ⟨some 4, .alloc 30, none, []⟩,
  ⟨some 5, .assign (.const (.int .i64 0)), none, []⟩] [2, 3, 4]) (.seq (.reg [⟨some 15, .load 30 (.tmp 2), none, []⟩,
  ⟨some 16, .fieldAddr 43 (.tmp 3) 3, none, []⟩,
  ⟨some 17, .load 3 (.tmp 16), none, []⟩,
  ⟨some 18, .call { callee := .value (.func 98), args := #[.tmp 15, .tmp 17], argTypes := #[30, 3] }, none, []⟩,
  ⟨some 14, .move (.tmp 18), none, []⟩,
  ⟨some 19, .extract (.tmp 14) 0, none, []⟩,
  ⟨some 20, .extract (.tmp 14) 1, none, []⟩,
  ⟨some 6, .alloc 46, none, []⟩,
  ⟨none, .store 46 (.tmp 6) (.tmp 19), none, []⟩,
  ⟨some 7, .assign (.tmp 20), none, []⟩] [2, 3, 4, 7, 14, 18, 20]) (.seq (.reg [⟨some 21, .move (.tmp 7), none, []⟩,
  ⟨some 22, .unOp .not 4 (.tmp 21), none, []⟩,
  ⟨some 23, .move (.tmp 22), none, []⟩,
  ⟨some 24, .fieldAddr 43 (.tmp 3) 3, (some (23, true)), []⟩,
  ⟨some 25, .load 3 (.tmp 24), (some (23, true)), []⟩,
  ⟨some 26, .binOp .neq 3 (.tmp 25) (.const (.int .i64 0)) 3, (some (23, true)), []⟩,
  ⟨some 27, .pick (.tmp 23) (.tmp 26) (.const (.bool false)), none, []⟩] [2, 3, 4, 22, 23, 26, 27]) (.seq (.cond (.tmp 27) (.seq (.reg [⟨some 28, .load 30 (.tmp 2), none, []⟩,
  ⟨none, .store 30 (.tmp 4) (.tmp 28), none, []⟩,
  ⟨some 5, .assign (.const (.int .i64 8)), none, []⟩] [4, 5]) .ret) .skip) (.seq (.reg [⟨some 30, .load 30 (.tmp 2), none, []⟩,
  ⟨some 31, .fieldAddr 43 (.tmp 3) 3, none, []⟩,
  ⟨some 32, .load 3 (.tmp 31), none, []⟩,
  ⟨some 33, .fieldAddr 43 (.tmp 3) 11, none, []⟩,
  ⟨some 34, .load 9 (.tmp 33), none, []⟩,
  ⟨some 35, .call { callee := .value (.func 99), args := #[.tmp 30, .tmp 32, .tmp 34], argTypes := #[30, 3, 9] }, none, []⟩,
  ⟨some 29, .move (.tmp 35), none, []⟩,
  ⟨some 36, .extract (.tmp 29) 0, none, []⟩,
  ⟨some 37, .extract (.tmp 29) 1, none, []⟩,
  ⟨some 8, .assign (.tmp 36), none, []⟩,
  ⟨some 9, .assign (.tmp 37), none, []⟩] [2, 3, 4, 9, 29, 35, 37]) (.seq (.reg [⟨some 38, .fieldAddr 43 (.tmp 3) 9, none, []⟩,
  ⟨some 39, .load 4 (.tmp 38), none, []⟩,
  ⟨some 40, .move (.tmp 39), none, []⟩,
  ⟨some 41, .move (.tmp 9), (some (40, true)), []⟩,
  ⟨some 42, .unOp .not 4 (.tmp 41), (some (40, true)), []⟩,
  ⟨some 43, .pick (.tmp 40) (.tmp 42) (.const (.bool false)), none, []⟩] [2, 3, 4, 38, 39, 40, 42, 43]) (.seq (.cond (.tmp 43) (.seq (.reg [⟨some 44, .load 30 (.tmp 2), none, []⟩,
  ⟨none, .store 30 (.tmp 4) (.tmp 44), none, []⟩,
  ⟨some 5, .assign (.const (.int .i64 8)), none, []⟩] [4, 5]) .ret) .skip) (.seq (.reg [⟨some 45, .load 30 (.tmp 2), none, []⟩,
  ⟨some 10, .alloc 30, none, []⟩,
  ⟨none, .store 30 (.tmp 10) (.tmp 45), none, []⟩] [2, 3, 4, 10]) (.seq (.reg [⟨some 46, .fieldAddr 30 (.tmp 10) 2, none, []⟩,
  ⟨none, .store 27 (.tmp 46) (.const (.slice none 0 0)), none, []⟩] [2, 3, 4, 10]) (.seq (.reg [⟨some 47, .fieldAddr 43 (.tmp 3) 9, none, []⟩,
  ⟨some 48, .load 4 (.tmp 47), none, []⟩,
  ⟨some 11, .assign (.tmp 48), none, []⟩] [2, 3, 4, 10, 11, 47, 48]) (.seq (.reg [⟨some 12, .assign (.const (.int .i64 0)), none, []⟩] [2, 3, 4, 10, 11, 12, 47, 48, 55]) (.seq (.block 0 (.seq (.loop (.seq (.reg [⟨some 49, .move (.tmp 12), none, []⟩,
  ⟨some 50, .fieldAddr 30 (.tmp 2) 2, none, []⟩,
  ⟨some 51, .load 27 (.tmp 50), none, []⟩,
  ⟨some 52, .call { callee := .builtin .len, args := #[.tmp 51], argTypes := #[27] }, none, []⟩,
  ⟨some 53, .binOp .lss 3 (.tmp 49) (.tmp 52) 3, none, []⟩] [2, 3, 4, 10, 11, 12, 47, 48, 53, 55]) (.seq (.cond (.tmp 53) .skip (.exit 0)) (.seq (.block 1 (.seq (.reg [⟨some 56, .fieldAddr 30 (.tmp 2) 2, none, []⟩,
  ⟨some 57, .load 27 (.tmp 56), none, []⟩,
  ⟨some 58, .move (.tmp 12), none, []⟩,
  ⟨some 59, .indexAddr 27 (.tmp 57) (.tmp 58), none, []⟩,
  ⟨some 60, .load 131 (.tmp 59), none, []⟩,
  ⟨some 13, .alloc 131, none, []⟩,
  ⟨none, .store 131 (.tmp 13) (.tmp 60), none, []⟩] [2, 3, 4, 10, 11, 12, 13, 47, 48, 55]) (.seq (.reg [⟨some 61, .move (.tmp 11), none, []⟩,
  ⟨some 62, .unOp .not 4 (.tmp 61), none, []⟩,
  ⟨some 63, .move (.tmp 62), none, []⟩,
  ⟨some 64, .fieldAddr 131 (.tmp 13) 0, (some (63, true)), []⟩,
  ⟨some 65, .load 3 (.tmp 64), (some (63, true)), []⟩,
  ⟨some 66, .fieldAddr 43 (.tmp 3) 3, (some (63, true)), []⟩,
  ⟨some 67, .load 3 (.tmp 66), (some (63, true)), []⟩,
  ⟨some 68, .binOp .gtr 3 (.tmp 65) (.tmp 67) 3, (some (63, true)), []⟩,
  ⟨some 69, .move (.tmp 68), (some (63, true)), []⟩,
  ⟨some 70, .fieldAddr 131 (.tmp 13) 0, (some (69, false)), []⟩,
  ⟨some 71, .load 3 (.tmp 70), (some (69, false)), []⟩,
  ⟨some 72, .fieldAddr 43 (.tmp 3) 3, (some (69, false)), []⟩,
  ⟨some 73, .load 3 (.tmp 72), (some (69, false)), []⟩,
  ⟨some 74, .binOp .eql 3 (.tmp 71) (.tmp 73) 3, (some (69, false)), []⟩,
  ⟨some 75, .move (.tmp 74), (some (69, false)), []⟩,
  ⟨some 76, .fieldAddr 131 (.tmp 13) 1, (some (75, true)), []⟩,
  ⟨some 77, .load 9 (.tmp 76), (some (75, true)), []⟩,
  ⟨some 78, .fieldAddr 43 (.tmp 3) 11, (some (75, true)), []⟩,
  ⟨some 79, .load 9 (.tmp 78), (some (75, true)), []⟩,
  ⟨some 80, .binOp .geq 9 (.tmp 77) (.tmp 79) 9, (some (75, true)), []⟩,
  ⟨some 81, .pick (.tmp 75) (.tmp 80) (.const (.bool false)), (some (69, false)), []⟩,
  ⟨some 82, .pick (.tmp 69) (.const (.bool true)) (.tmp 81), (some (63, true)), []⟩,
  ⟨some 83, .pick (.tmp 63) (.tmp 82) (.const (.bool false)), none, []⟩] [2, 3, 4, 10, 11, 12, 13, 47, 48, 55, 62, 63, 68, 69, 74, 75, 80, 81, 82, 83]) (.seq (.cond (.tmp 83) (.seq (.reg [⟨some 84, .fieldAddr 30 (.tmp 10) 2, none, []⟩,
  ⟨some 85, .load 27 (.tmp 84), none, []⟩,
  ⟨some 86, .fieldAddr 43 (.tmp 3) 3, none, []⟩,
  ⟨some 87, .load 3 (.tmp 86), none, []⟩,
  ⟨some 88, .fieldAddr 43 (.tmp 3) 11, none, []⟩,
  ⟨some 89, .load 9 (.tmp 88), none, []⟩,
  ⟨some 90, .fieldAddr 43 (.tmp 3) 12, none, []⟩,
  ⟨some 91, .load 9 (.tmp 90), none, []⟩,
  ⟨some 92, .build 131 #[(0, .tmp 87), (1, .tmp 89), (2, .tmp 91)], none, []⟩,
  ⟨some 93, .buildSlice 27 1 #[(0, .tmp 92)], none, []⟩,
  ⟨some 94, .call { callee := .builtin .append, args := #[.tmp 85, .tmp 93], argTypes := #[27, 27] }, none, []⟩,
  ⟨some 95, .fieldAddr 30 (.tmp 10) 2, none, []⟩,
  ⟨none, .store 27 (.tmp 95) (.tmp 94), none, []⟩] [2, 3, 4, 10, 12, 13, 55]) (.seq (.reg [⟨some 11, .assign (.const (.bool true)), none, []⟩] [2, 3, 4, 10, 11, 12, 13, 47, 48, 55]) .skip)) .skip) (.seq (.reg [⟨some 96, .fieldAddr 131 (.tmp 13) 0, none, []⟩,
  ⟨some 97, .load 3 (.tmp 96), none, []⟩,
  ⟨some 98, .fieldAddr 43 (.tmp 3) 3, none, []⟩,
  ⟨some 99, .load 3 (.tmp 98), none, []⟩,
  ⟨some 100, .binOp .neq 3 (.tmp 97) (.tmp 99) 3, none, []⟩,
  ⟨some 101, .move (.tmp 100), none, []⟩,
  ⟨some 102, .fieldAddr 131 (.tmp 13) 1, (some (101, false)), []⟩,
  ⟨some 103, .load 9 (.tmp 102), (some (101, false)), []⟩,
  ⟨some 104, .fieldAddr 43 (.tmp 3) 11, (some (101, false)), []⟩,
  ⟨some 105, .load 9 (.tmp 104), (some (101, false)), []⟩,
  ⟨some 106, .binOp .neq 9 (.tmp 103) (.tmp 105) 9, (some (101, false)), []⟩,
  ⟨some 107, .pick (.tmp 101) (.const (.bool true)) (.tmp 106), none, []⟩] [2, 3, 4, 10, 11, 12, 13, 47, 48, 55, 100, 101, 106, 107]) (.seq (.cond (.tmp 107) (.seq (.reg [⟨some 108, .fieldAddr 30 (.tmp 10) 2, none, []⟩,
  ⟨some 109, .load 27 (.tmp 108), none, []⟩,
  ⟨some 110, .load 131 (.tmp 13), none, []⟩,
  ⟨some 111, .buildSlice 27 1 #[(0, .tmp 110)], none, []⟩,
  ⟨some 112, .call { callee := .builtin .append, args := #[.tmp 109, .tmp 111], argTypes := #[27, 27] }, none, []⟩,
  ⟨some 113, .fieldAddr 30 (.tmp 10) 2, none, []⟩,
  ⟨none, .store 27 (.tmp 113) (.tmp 112), none, []⟩] [2, 3, 4, 10, 11, 12, 47, 48, 55]) .skip) .skip) .skip)))))) (.seq (.reg [⟨some 54, .move (.tmp 12), none, []⟩,
  ⟨some 55, .binOp .add 3 (.tmp 54) (.const (.int .i64 1)) 3, none, []⟩,
  ⟨some 12, .assign (.tmp 55), none, []⟩] [2, 3, 4, 10, 11, 12, 47, 48, 55]) .skip))))) .skip)) (.seq (.reg [⟨some 114, .move (.tmp 11), none, []⟩,
  ⟨some 115, .unOp .not 4 (.tmp 114), none, []⟩] [3, 4, 10, 115]) (.seq (.cond (.tmp 115) (.seq (.reg [⟨some 116, .fieldAddr 30 (.tmp 10) 2, none, []⟩,
  ⟨some 117, .load 27 (.tmp 116), none, []⟩,
  ⟨some 118, .fieldAddr 43 (.tmp 3) 3, none, []⟩,
  ⟨some 119, .load 3 (.tmp 118), none, []⟩,
  ⟨some 120, .fieldAddr 43 (.tmp 3) 11, none, []⟩,
  ⟨some 121, .load 9 (.tmp 120), none, []⟩,
  ⟨some 122, .fieldAddr 43 (.tmp 3) 12, none, []⟩,
  ⟨some 123, .load 9 (.tmp 122), none, []⟩,
  ⟨some 124, .build 131 #[(0, .tmp 119), (1, .tmp 121), (2, .tmp 123)], none, []⟩,
  ⟨some 125, .buildSlice 27 1 #[(0, .tmp 124)], none, []⟩,
  ⟨some 126, .call { callee := .builtin .append, args := #[.tmp 117, .tmp 125], argTypes := #[27, 27] }, none, []⟩,
  ⟨some 127, .fieldAddr 30 (.tmp 10) 2, none, []⟩,
  ⟨none, .store 27 (.tmp 127) (.tmp 126), none, []⟩] [4, 10]) .skip) .skip) (.seq (.reg [⟨some 128, .load 30 (.tmp 10), none, []⟩,
  ⟨none, .store 30 (.tmp 4) (.tmp 128), none, []⟩,
  ⟨some 5, .assign (.const (.int .i64 0)), none, []⟩] [4, 5]) .ret)))))))))))))))
theorem s64 : TextK Proofs.Try.prog 0 64 129 [ResultVar.cell 4 30, ResultVar.tmp 5] c64 := .mk' Proofs.Try.f64 _ (by kernel_rfl) rfl rfl rfl (by kernel_rfl) rfl (by kernel_rfl)
theorem configRec_ok (m : Image) (r : Record) (hm : m.Pre) : ACall pg 64 [encM m, encR r] (.tup [encM (m.configRec r).1, I (m.configRec r).2]) := by
  refine s64.call mo (by simp) fun hxs => ?_
  clear hxs
  have hcl := hm.cl
  unfold c64
  repeat' first
      | (with_reducible first | refine thN ?_ | refine thR ?_ | refine thE ?_ | refine inN ?_ | refine inR ?_ | refine inH ?_ | refine fF ?_ | refine fS ?_ | refine fR ?_ | refine fQ ?_ | refine fC ?_ | refine fB ?_ | refine fL ?_ | refine fE ?_ | refine fT ?_ | refine awBlock ?_ | refine awExit ?_ | refine awRet ?_ | refine awSkip ?_ | refine inM (by decide) ?_)
      | ((with_reducible refine awReg fun K hok hK => ?_); clear hok; (try simp (maxSteps := 10000000) (disch := first | omega | simp) []); (repeat' first
          | (with_reducible refine hK _ (by simp) ?_)
          | ((with_reducible refine gdT (fun h => ?_) (fun h => ?_)) <;> (simp (maxSteps := 10000000) (disch := first | omega | simp) [h]; (try simp at h); (try (exfalso; omega))))
          | ((with_reducible refine gdF (fun h => ?_) (fun h => ?_)) <;> (simp (maxSteps := 10000000) (disch := first | omega | simp) [h]; (try simp at h); (try (exfalso; omega))))
          | ((with_reducible refine callS' fun K2 hK2 => ?_); (try simp (maxSteps := 10000000) (disch := first | omega | simp) []); (first | (refine hK2 _ _ (topic_ok m r.topic) rfl fun hk9 => ?_; clear hk9) | (refine hK2 _ _ (config_ok m r.topic r.key) rfl fun hk9 => ?_; clear hk9)); clear hK2 K2; (try simp (maxSteps := 10000000) (disch := first | omega | simp) []))
          | ((with_reducible refine callF' fun K2 hK2 => ?_); (try simp (maxSteps := 10000000) (disch := first | omega | simp) []); (first | refine hK2 _ _ _ (topic_ok m r.topic) fun _ => ?_ | refine hK2 _ _ _ (config_ok m r.topic r.key) fun _ => ?_); clear hK2 K2; (try simp (maxSteps := 10000000) (disch := first | omega | simp) []))
          | ((with_reducible refine gdU ?_); (try simp (maxSteps := 10000000) (disch := first | omega | simp) []))) <;> clear hK K)
      | ((with_reducible refine awCond fun A B hA hB => ?_); simp (maxSteps := 10000000) (disch := first | omega | simp) []; (first | refine ⟨fun h => hA ?_, fun h => hB ?_⟩ | refine hA ?_ | refine hB ?_) <;> (clear hA hB A B; (try (exfalso; omega))))
  all_goals first
    | (refine aEnR (aRes [true] fun K hK => ?_); simp (maxSteps := 10000000) (disch := first | omega | simp) []; refine hK _ ?_ (by simp); clear hK; (try unfold Image.configRec); ((repeat' split) <;> first | rfl | (exfalso; omega) | (exfalso; simp only [*, Bool.false_eq_true, Bool.true_eq_false, not_true, not_false_iff] at *; done) | (simp_all; done) | (exfalso; simp_all; omega)))
    | (refine awFor m.configs.length (fun i (s : List Config × Bool) => (m.configs.drop i).foldl (putCStep r) s = m.configs.foldl (putCStep r) ([], r.flag) ∧ s.1.length ≤ 2 * i) (fun i s => [(12, .p (I i)), (11, .p (B s.2)), (10, .p (.own [.sl (m.brokers.map encB), .sl (m.topics.map encT), .uq (s.1.map encC), .sl (m.done.map encD), I m.last])), (4, .p (.own [.uq [], .uq [], .uq [], .uq [], I 0])), (3, .p (.own (encR r).cells)), (2, .p (.own (encM m).cells))]) ([], r.flag) (Wk.ofA (by simp [*])) (by simp) fun i s hi hs => ?_
       obtain ⟨hs, hsl⟩ := hs
       repeat' first
           | (with_reducible first | refine thN ?_ | refine thR ?_ | refine thE ?_ | refine inN ?_ | refine inR ?_ | refine inH ?_ | refine fF ?_ | refine fS ?_ | refine fR ?_ | refine fQ ?_ | refine fC ?_ | refine fB ?_ | refine fL ?_ | refine fE ?_ | refine fT ?_ | refine awBlock ?_ | refine awExit ?_ | refine awRet ?_ | refine awSkip ?_ | refine inM (by decide) ?_)
           | ((with_reducible refine awReg fun K hok hK => ?_); clear hok; (try simp (maxSteps := 10000000) (disch := first | omega | simp) []); (repeat' first
               | (with_reducible refine hK _ (by simp) ?_)
               | ((with_reducible refine gdT (fun h => ?_) (fun h => ?_)) <;> (simp (maxSteps := 10000000) (disch := first | omega | simp) [h]; (try simp at h); (try (exfalso; omega))))
               | ((with_reducible refine gdF (fun h => ?_) (fun h => ?_)) <;> (simp (maxSteps := 10000000) (disch := first | omega | simp) [h]; (try simp at h); (try (exfalso; omega))))
               | ((with_reducible refine gdU ?_); (try simp (maxSteps := 10000000) (disch := first | omega | simp) []))) <;> clear hK K)
           | ((with_reducible refine awCond fun A B hA hB => ?_); simp (maxSteps := 10000000) (disch := first | omega | simp) []; (first | refine ⟨fun h => hA ?_, fun h => hB ?_⟩ | refine hA ?_ | refine hB ?_) <;> (clear hA hB A B; (try (exfalso; omega))))
       all_goals first
         | (rw [foldl_drop (by assumption)] at hs
            refine ⟨by assumption, putCStep r s m.configs[i], ⟨hs, ?_⟩, Wk.ofA ?_⟩
            · clear hs; simp only [putCStep]; (repeat' split) <;> simp_all <;> omega
            · clear hs
              simp only [putCStep]
              split <;> split <;> first | (simp [*]; done) | (exfalso; simp_all; done) | (exfalso; simp_all; omega) | (simp_all; done))
         | (rw [drop_nil (by assumption)] at hs
            have e : putC m.configs r = if s.2 then s.1 else s.1 ++ [⟨r.topic, r.key, r.value⟩] := by simp only [putC, ← hs]; rfl
            (refine aEnR (aRes [true] fun K hK => ?_); simp (maxSteps := 10000000) (disch := first | omega | simp) [e]; refine hK _ ?_ (by simp); clear hK; (try unfold Image.configRec); ((repeat' split) <;> first | rfl | (exfalso; omega) | (exfalso; simp only [*, Bool.false_eq_true, Bool.true_eq_false, not_true, not_false_iff] at *; done) | (simp_all [e]; done) | (exfalso; simp_all [e]; omega)))))
end
end Go.Am
