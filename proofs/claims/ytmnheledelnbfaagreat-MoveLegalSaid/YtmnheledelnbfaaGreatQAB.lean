/- Part of the proof of a law of moving. -/
import Derived.Test.YtmnheledelnbfaaGreatQAA
set_option linter.all false
section
set_option maxRecDepth 100000
set_option maxHeartbeats 0
namespace Go.Am
open Go
noncomputable section
def c46 : SC := (.seq (.reg [⟨some 2, .box 36 (.tmp 0), none, []⟩,
  ⟨some 3, .box 73 (.tmp 1), none, []⟩,
  ⟨some 4, .alloc 36, none, []⟩,
  ⟨some 5, .assign (.const (.int .i64 0)), none, []⟩] [2, 3, 4]) (.seq (.reg [⟨some 10, .load 36 (.tmp 2), none, []⟩,
  ⟨some 11, .fieldAddr 73 (.tmp 3) 1, none, []⟩,
  ⟨some 12, .load 3 (.tmp 11), none, []⟩,
  ⟨some 13, .call { callee := .value (.func 35), args := #[.tmp 10, .tmp 12], argTypes := #[36, 3] }, none, []⟩,
  ⟨some 9, .move (.tmp 13), none, []⟩,
  ⟨some 14, .extract (.tmp 9) 0, none, []⟩,
  ⟨some 15, .extract (.tmp 9) 1, none, []⟩,
  ⟨some 6, .alloc 84, none, []⟩,
  ⟨none, .store 84 (.tmp 6) (.tmp 14), none, []⟩,
  ⟨some 7, .assign (.tmp 15), none, []⟩] [2, 3, 4, 6, 7, 9, 13, 15]) (.seq (.reg [⟨some 16, .move (.tmp 7), none, []⟩,
  ⟨some 17, .move (.tmp 16), none, []⟩,
  ⟨some 18, .fieldAddr 84 (.tmp 6) 1, (some (17, true)), []⟩,
  ⟨some 19, .load 3 (.tmp 18), (some (17, true)), []⟩,
  ⟨some 20, .fieldAddr 73 (.tmp 3) 2, (some (17, true)), []⟩,
  ⟨some 21, .load 3 (.tmp 20), (some (17, true)), []⟩,
  ⟨some 22, .binOp .geq 3 (.tmp 19) (.tmp 21) 3, (some (17, true)), []⟩,
  ⟨some 23, .pick (.tmp 17) (.tmp 22) (.const (.bool false)), none, []⟩] [2, 3, 4, 7, 9, 13, 15, 16, 17, 22, 23]) (.seq (.cond (.tmp 23) (.seq (.reg [⟨some 24, .load 36 (.tmp 2), none, []⟩,
  ⟨none, .store 36 (.tmp 4) (.tmp 24), none, []⟩,
  ⟨some 5, .assign (.const (.int .i64 11)), none, []⟩] [4, 5]) .ret) .skip) (.seq (.reg [⟨some 25, .move (.tmp 7), none, []⟩,
  ⟨some 26, .move (.tmp 25), none, []⟩,
  ⟨some 27, .load 36 (.tmp 2), (some (26, true)), []⟩,
  ⟨some 28, .fieldAddr 73 (.tmp 3) 1, (some (26, true)), []⟩,
  ⟨some 29, .load 3 (.tmp 28), (some (26, true)), []⟩,
  ⟨some 30, .call { callee := .value (.func 65), args := #[.tmp 27, .tmp 29], argTypes := #[36, 3] }, (some (26, true)), []⟩,
  ⟨some 31, .pick (.tmp 26) (.tmp 30) (.const (.bool false)), none, []⟩] [2, 3, 4, 7, 9, 13, 15, 25, 26, 30, 31]) (.seq (.cond (.tmp 31) (.seq (.reg [⟨some 32, .load 36 (.tmp 2), none, []⟩,
  ⟨none, .store 36 (.tmp 4) (.tmp 32), none, []⟩,
  ⟨some 5, .assign (.const (.int .i64 10)), none, []⟩] [4, 5]) .ret) .skip) (.seq (.reg [⟨some 33, .load 36 (.tmp 2), none, []⟩,
  ⟨some 8, .alloc 36, none, []⟩,
  ⟨none, .store 36 (.tmp 8) (.tmp 33), none, []⟩] [2, 3, 4, 8]) (.seq (.reg [⟨some 34, .fieldAddr 36 (.tmp 2) 0, none, []⟩,
  ⟨some 35, .load 31 (.tmp 34), none, []⟩,
  ⟨some 36, .fieldAddr 73 (.tmp 3) 1, none, []⟩,
  ⟨some 37, .load 3 (.tmp 36), none, []⟩,
  ⟨some 38, .fieldAddr 73 (.tmp 3) 2, none, []⟩,
  ⟨some 39, .load 3 (.tmp 38), none, []⟩,
  ⟨some 40, .fieldAddr 73 (.tmp 3) 13, none, []⟩,
  ⟨some 41, .load 9 (.tmp 40), none, []⟩,
  ⟨some 42, .build 84 #[(0, .tmp 37), (1, .tmp 39), (2, .tmp 41), (3, .const (.bool true))], none, []⟩,
  ⟨some 43, .call { callee := .value (.func 66), args := #[.tmp 35, .tmp 42], argTypes := #[31, 84] }, none, []⟩,
  ⟨some 44, .fieldAddr 36 (.tmp 8) 0, none, []⟩,
  ⟨none, .store 31 (.tmp 44) (.tmp 43), none, []⟩] [4, 8]) (.seq (.reg [⟨some 45, .load 36 (.tmp 8), none, []⟩,
  ⟨none, .store 36 (.tmp 4) (.tmp 45), none, []⟩,
  ⟨some 5, .assign (.const (.int .i64 0)), none, []⟩] [4, 5]) .ret)))))))))
theorem s46 : TextK Proofs.Tryz.prog 0 46 46 [ResultVar.cell 4 36, ResultVar.tmp 5] c46 := .mk' Proofs.Tryz.f46 _ (by kernel_rfl) rfl rfl rfl (by kernel_rfl) rfl (by kernel_rfl)
theorem register_ok (m : Image) (r : Record) (hl : m.brokers.length ≤ 1000) : ACall pg 46 [encM m, encR r] (.tup [encM (m.register r).1, I (m.register r).2]) := by
  refine s46.call mo (by simp) fun hxs => ?_
  clear hxs
  unfold c46
  repeat' first | (with_reducible first | refine fS ?_ | refine fR ?_ | refine fQ ?_ | refine fT ?_ | refine awRet ?_) | ((with_reducible refine awReg fun K hok hK => ?_); clear hok; (try simp (maxSteps := 10000000) (disch := first | omega | simp) []); (repeat' first | (with_reducible refine hK _ (by simp) ?_) | ((with_reducible refine gdT (fun h => ?_) (fun h => ?_)) <;> (simp (maxSteps := 10000000) (disch := first | omega | simp) [h]; (try simp at h); (try (exfalso; omega)))) | ((first | ((with_reducible refine callS' fun K2 hK2 => ?_); (try simp (maxSteps := 10000000) (disch := first | omega | simp) []); (first | refine hK2 _ _ (broker_ok m r.broker) rfl fun hk9 => ?_ | refine hK2 _ _ (leads_ok m r.broker) rfl fun hk9 => ?_ | refine hK2 _ _ (putBroker_ok m.brokers ⟨r.broker, r.epoch, r.rack, true, false⟩ hl) rfl fun hk9 => ?_); clear hk9; clear hK2 K2) | ((with_reducible refine callF' fun K2 hK2 => ?_); (try simp (maxSteps := 10000000) (disch := first | omega | simp) []); (first | refine hK2 _ _ _ (broker_ok m r.broker) fun _ => ?_ | refine hK2 _ _ _ (leads_ok m r.broker) fun _ => ?_ | refine hK2 _ _ _ (putBroker_ok m.brokers ⟨r.broker, r.epoch, r.rack, true, false⟩ hl) fun _ => ?_); clear hK2 K2)); (try simp (maxSteps := 10000000) (disch := first | omega | simp) []))) <;> clear hK K) | ((with_reducible refine awCond fun A B hA hB => ?_); simp (maxSteps := 10000000) (disch := first | omega | simp) []; (first | refine ⟨fun h => hA ?_, fun h => hB ?_⟩ | refine hA ?_ | refine hB ?_) <;> (clear hA hB A B; (try (exfalso; omega))))
  all_goals
    refine aEnR (aRes [] fun K hK => ?_)
    simp (maxSteps := 10000000) (disch := first | omega | simp)
    refine hK _ ?_ (by simp)
    clear hK
    simp [Image.register, *, -Int.not_lt, -Int.not_le, ← Int.not_lt]
end
end Go.Am
end
section
set_option maxRecDepth 100000
set_option maxHeartbeats 0
namespace Go.Am
open Go
noncomputable section
def c49 : SC := (.seq (.reg [⟨some 2, .box 36 (.tmp 0), none, []⟩,
  ⟨some 3, .box 73 (.tmp 1), none, []⟩,
  ⟨some 4, .alloc 36, none, []⟩,
  ⟨some 5, .assign (.const (.int .i64 0)), none, []⟩] [2, 3, 4]) (.seq (.reg [⟨some 9, .fieldAddr 73 (.tmp 3) 3, none, []⟩,
  ⟨some 10, .load 3 (.tmp 9), none, []⟩,
  ⟨some 11, .fieldAddr 36 (.tmp 2) 4, none, []⟩,
  ⟨some 12, .load 3 (.tmp 11), none, []⟩,
  ⟨some 13, .binOp .add 3 (.tmp 12) (.const (.int .i64 1)) 3, none, []⟩,
  ⟨some 14, .binOp .neq 3 (.tmp 10) (.tmp 13) 3, none, []⟩] [2, 3, 4, 14]) (.seq (.cond (.tmp 14) (.seq (.reg [⟨some 15, .load 36 (.tmp 2), none, []⟩,
  ⟨none, .store 36 (.tmp 4) (.tmp 15), none, []⟩,
  ⟨some 5, .assign (.const (.int .i64 10)), none, []⟩] [4, 5]) .ret) .skip) (.seq (.reg [⟨some 17, .load 36 (.tmp 2), none, []⟩,
  ⟨some 18, .fieldAddr 73 (.tmp 3) 10, none, []⟩,
  ⟨some 19, .load 9 (.tmp 18), none, []⟩,
  ⟨some 20, .call { callee := .value (.func 70), args := #[.tmp 17, .tmp 19], argTypes := #[36, 9] }, none, []⟩,
  ⟨some 16, .move (.tmp 20), none, []⟩,
  ⟨some 21, .extract (.tmp 16) 0, none, []⟩,
  ⟨some 22, .extract (.tmp 16) 1, none, []⟩,
  ⟨some 6, .alloc 50, none, []⟩,
  ⟨none, .store 50 (.tmp 6) (.tmp 21), none, []⟩,
  ⟨some 7, .assign (.tmp 22), none, []⟩] [2, 3, 4, 7, 16, 20, 22]) (.seq (.reg [⟨some 23, .move (.tmp 7), none, []⟩] [2, 3, 4, 7, 16, 20, 22, 23]) (.seq (.cond (.tmp 23) (.seq (.reg [⟨some 24, .load 36 (.tmp 2), none, []⟩,
  ⟨none, .store 36 (.tmp 4) (.tmp 24), none, []⟩,
  ⟨some 5, .assign (.const (.int .i64 9)), none, []⟩] [4, 5]) .ret) .skip) (.seq (.reg [⟨some 25, .fieldAddr 36 (.tmp 2) 1, none, []⟩,
  ⟨some 26, .load 32 (.tmp 25), none, []⟩,
  ⟨some 27, .call { callee := .builtin .len, args := #[.tmp 26], argTypes := #[32] }, none, []⟩,
  ⟨some 28, .binOp .geq 3 (.tmp 27) (.const (.int .i64 256)) 3, none, []⟩] [2, 3, 4, 28]) (.seq (.cond (.tmp 28) (.seq (.reg [⟨some 29, .load 36 (.tmp 2), none, []⟩,
  ⟨none, .store 36 (.tmp 4) (.tmp 29), none, []⟩,
  ⟨some 5, .assign (.const (.int .i64 6)), none, []⟩] [4, 5]) .ret) .skip) (.seq (.reg [⟨some 30, .load 36 (.tmp 2), none, []⟩,
  ⟨some 8, .alloc 36, none, []⟩,
  ⟨none, .store 36 (.tmp 8) (.tmp 30), none, []⟩] [2, 3, 4, 8]) (.seq (.reg [⟨some 31, .fieldAddr 36 (.tmp 8) 1, none, []⟩,
  ⟨none, .store 32 (.tmp 31) (.const (.slice none 0 0)), none, []⟩] [2, 3, 4, 8]) (.seq (.reg [⟨some 32, .fieldAddr 36 (.tmp 8) 1, none, []⟩,
  ⟨some 33, .load 32 (.tmp 32), none, []⟩,
  ⟨some 34, .fieldAddr 36 (.tmp 2) 1, none, []⟩,
  ⟨some 35, .load 32 (.tmp 34), none, []⟩,
  ⟨some 36, .call { callee := .builtin .append, args := #[.tmp 33, .tmp 35], argTypes := #[32, 32] }, none, []⟩,
  ⟨some 37, .fieldAddr 36 (.tmp 8) 1, none, []⟩,
  ⟨none, .store 32 (.tmp 37) (.tmp 36), none, []⟩] [3, 4, 8]) (.seq (.reg [⟨some 38, .fieldAddr 36 (.tmp 8) 1, none, []⟩,
  ⟨some 39, .load 32 (.tmp 38), none, []⟩,
  ⟨some 40, .fieldAddr 73 (.tmp 3) 3, none, []⟩,
  ⟨some 41, .load 3 (.tmp 40), none, []⟩,
  ⟨some 42, .fieldAddr 73 (.tmp 3) 10, none, []⟩,
  ⟨some 43, .load 9 (.tmp 42), none, []⟩,
  ⟨some 44, .build 50 #[(0, .tmp 41), (1, .tmp 43)], none, []⟩,
  ⟨some 45, .buildSlice 32 1 #[(0, .tmp 44)], none, []⟩,
  ⟨some 46, .call { callee := .builtin .append, args := #[.tmp 39, .tmp 45], argTypes := #[32, 32] }, none, []⟩,
  ⟨some 47, .fieldAddr 36 (.tmp 8) 1, none, []⟩,
  ⟨none, .store 32 (.tmp 47) (.tmp 46), none, []⟩] [3, 4, 8]) (.seq (.reg [⟨some 48, .fieldAddr 73 (.tmp 3) 3, none, []⟩,
  ⟨some 49, .load 3 (.tmp 48), none, []⟩,
  ⟨some 50, .fieldAddr 36 (.tmp 8) 4, none, []⟩,
  ⟨none, .store 3 (.tmp 50) (.tmp 49), none, []⟩] [4, 8]) (.seq (.reg [⟨some 51, .load 36 (.tmp 8), none, []⟩,
  ⟨none, .store 36 (.tmp 4) (.tmp 51), none, []⟩,
  ⟨some 5, .assign (.const (.int .i64 0)), none, []⟩] [4, 5]) .ret))))))))))))))
theorem s49 : TextK Proofs.Tryz.prog 0 49 52 [ResultVar.cell 4 36, ResultVar.tmp 5] c49 := .mk' Proofs.Tryz.f49 _ (by kernel_rfl) rfl rfl rfl (by kernel_rfl) rfl (by kernel_rfl)
theorem addTopic_ok (m : Image) (r : Record) : ACall pg 49 [encM m, encR r] (.tup [encM (m.addTopic r).1, I (m.addTopic r).2]) := by
  refine s49.call mo (by simp) fun hxs => ?_
  clear hxs
  unfold c49
  repeat' first | (with_reducible first | refine fS ?_ | refine fR ?_ | refine fQ ?_ | refine fT ?_ | refine awRet ?_) | ((with_reducible refine awReg fun K hok hK => ?_); clear hok; (try simp (maxSteps := 10000000) (disch := first | omega | simp) []); (repeat' first | (with_reducible refine hK _ (by simp) ?_) | ((with_reducible refine callF' fun K2 hK2 => ?_); (try simp (maxSteps := 10000000) (disch := first | omega | simp) []); (refine hK2 _ _ _ (named_ok m r.name) fun _ => ?_); clear hK2 K2; (try simp (maxSteps := 10000000) (disch := first | omega | simp) []))) <;> clear hK K) | ((with_reducible refine awCond fun A B hA hB => ?_); simp (maxSteps := 10000000) (disch := first | omega | simp) []; (first | refine ⟨fun h => hA ?_, fun h => hB ?_⟩ | refine hA ?_ | refine hB ?_) <;> (clear hA hB A B; (try (exfalso; omega))))
  all_goals (refine aEnR (aRes [true] fun K hK => ?_); simp (maxSteps := 10000000) (disch := first | omega | simp) []; refine hK _ ?_ (by simp); clear hK; (try simp only [Image.addTopic]); ((repeat' split) <;> first | with_reducible rfl | contradiction | (exfalso; omega) | (simp []; done) | grind))
end
end Go.Am
end
