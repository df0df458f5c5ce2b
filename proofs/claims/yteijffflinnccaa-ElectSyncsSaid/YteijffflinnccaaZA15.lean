/- Part of the proof of ElectLeaves. -/
import Derived.Test.YteijffflinnccaaZAB
set_option linter.all false
set_option maxRecDepth 100000
set_option maxHeartbeats 0
namespace Go.Am
open Go
noncomputable section
def c60 : SC := (.seq (.reg [⟨some 2, .box 30 (.tmp 0), none, []⟩,
  ⟨some 3, .box 43 (.tmp 1), none, []⟩,
  ⟨some 4, .alloc 30, none, []⟩,
  ⟨some 5, .assign (.const (.int .i64 0)), none, []⟩] [2, 3, 4]) (.seq (.reg [⟨some 11, .load 30 (.tmp 2), none, []⟩,
  ⟨some 12, .fieldAddr 43 (.tmp 3) 1, none, []⟩,
  ⟨some 13, .load 3 (.tmp 12), none, []⟩,
  ⟨some 14, .call { callee := .value (.func 66), args := #[.tmp 11, .tmp 13], argTypes := #[30, 3] }, none, []⟩,
  ⟨some 10, .move (.tmp 14), none, []⟩,
  ⟨some 15, .extract (.tmp 10) 0, none, []⟩,
  ⟨some 16, .extract (.tmp 10) 1, none, []⟩,
  ⟨some 6, .alloc 33, none, []⟩,
  ⟨none, .store 33 (.tmp 6) (.tmp 15), none, []⟩,
  ⟨some 7, .assign (.tmp 16), none, []⟩] [2, 3, 4, 6, 7, 10, 14, 16]) (.seq (.reg [⟨some 17, .move (.tmp 7), none, []⟩,
  ⟨some 18, .unOp .not 4 (.tmp 17), none, []⟩] [2, 3, 4, 6, 18]) (.seq (.cond (.tmp 18) (.seq (.reg [⟨some 19, .load 30 (.tmp 2), none, []⟩,
  ⟨none, .store 30 (.tmp 4) (.tmp 19), none, []⟩,
  ⟨some 5, .assign (.const (.int .i64 8)), none, []⟩] [4, 5]) .ret) .skip) (.seq (.reg [⟨some 20, .fieldAddr 33 (.tmp 6) 1, none, []⟩,
  ⟨some 21, .load 3 (.tmp 20), none, []⟩,
  ⟨some 22, .fieldAddr 43 (.tmp 3) 2, none, []⟩,
  ⟨some 23, .load 3 (.tmp 22), none, []⟩,
  ⟨some 24, .binOp .neq 3 (.tmp 21) (.tmp 23) 3, none, []⟩] [2, 3, 4, 6, 24]) (.seq (.cond (.tmp 24) (.seq (.reg [⟨some 25, .load 30 (.tmp 2), none, []⟩,
  ⟨none, .store 30 (.tmp 4) (.tmp 25), none, []⟩,
  ⟨some 5, .assign (.const (.int .i64 11)), none, []⟩] [4, 5]) .ret) .skip) (.seq (.reg [⟨some 26, .load 30 (.tmp 2), none, []⟩,
  ⟨some 8, .alloc 30, none, []⟩,
  ⟨none, .store 30 (.tmp 8) (.tmp 26), none, []⟩] [2, 3, 4, 6, 8]) (.seq (.reg [⟨some 27, .fieldAddr 43 (.tmp 3) 0, none, []⟩,
  ⟨some 28, .load 3 (.tmp 27), none, []⟩] [2, 3, 4, 6, 8, 27, 28]) (.seq (.block 0 (.seq (.reg [⟨some 63, .binOp .eql 3 (.tmp 28) (.const (.int .i64 3)) 3, none, []⟩,
  ⟨some 62, .assign (.tmp 63), none, []⟩] [2, 3, 4, 6, 8, 27, 28, 62, 63]) (.seq (.cond (.tmp 62) (.seq (.reg [⟨some 64, .fieldAddr 33 (.tmp 6) 3, none, []⟩,
  ⟨some 65, .load 4 (.tmp 64), none, []⟩,
  ⟨some 66, .move (.tmp 65), none, []⟩,
  ⟨some 67, .load 30 (.tmp 2), (some (66, false)), []⟩,
  ⟨some 68, .fieldAddr 33 (.tmp 6) 0, (some (66, false)), []⟩,
  ⟨some 69, .load 3 (.tmp 68), (some (66, false)), []⟩,
  ⟨some 70, .call { callee := .value (.func 19), args := #[.tmp 67, .tmp 69], argTypes := #[30, 3] }, (some (66, false)), []⟩,
  ⟨some 71, .pick (.tmp 66) (.const (.bool true)) (.tmp 70), none, []⟩] [2, 4, 6, 8, 64, 65, 66, 70, 71]) (.seq (.cond (.tmp 71) (.seq (.reg [⟨some 72, .load 30 (.tmp 2), none, []⟩,
  ⟨none, .store 30 (.tmp 4) (.tmp 72), none, []⟩,
  ⟨some 5, .assign (.const (.int .i64 10)), none, []⟩] [4, 5]) .ret) .skip) (.seq (.reg [⟨some 73, .fieldAddr 33 (.tmp 6) 3, none, []⟩,
  ⟨none, .store 4 (.tmp 73) (.const (.bool true)), none, []⟩] [2, 4, 6, 8]) .skip))) (.seq (.reg [⟨some 75, .binOp .eql 3 (.tmp 28) (.const (.int .i64 4)) 3, none, []⟩,
  ⟨some 74, .assign (.tmp 75), none, []⟩] [2, 3, 4, 6, 8, 27, 28, 74, 75]) (.seq (.cond (.tmp 74) (.seq (.reg [⟨some 76, .fieldAddr 33 (.tmp 6) 3, none, []⟩,
  ⟨some 77, .load 4 (.tmp 76), none, []⟩,
  ⟨some 78, .unOp .not 4 (.tmp 77), none, []⟩] [2, 4, 6, 8, 78]) (.seq (.cond (.tmp 78) (.seq (.reg [⟨some 79, .load 30 (.tmp 2), none, []⟩,
  ⟨none, .store 30 (.tmp 4) (.tmp 79), none, []⟩,
  ⟨some 5, .assign (.const (.int .i64 10)), none, []⟩] [4, 5]) .ret) .skip) (.seq (.reg [⟨some 80, .fieldAddr 33 (.tmp 6) 3, none, []⟩,
  ⟨none, .store 4 (.tmp 80) (.const (.bool false)), none, []⟩] [2, 4, 6, 8]) (.seq (.reg [⟨some 81, .fieldAddr 33 (.tmp 6) 4, none, []⟩,
  ⟨none, .store 4 (.tmp 81) (.const (.bool false)), none, []⟩] [2, 4, 6, 8]) .skip)))) (.seq (.reg [⟨some 83, .binOp .eql 3 (.tmp 28) (.const (.int .i64 5)) 3, none, []⟩,
  ⟨some 82, .assign (.tmp 83), none, []⟩] [2, 4, 6, 8, 82, 83]) (.seq (.cond (.tmp 82) (.seq (.reg [⟨some 84, .fieldAddr 33 (.tmp 6) 3, none, []⟩,
  ⟨some 85, .load 4 (.tmp 84), none, []⟩,
  ⟨some 86, .move (.tmp 85), none, []⟩,
  ⟨some 87, .fieldAddr 33 (.tmp 6) 4, (some (86, false)), []⟩,
  ⟨some 88, .load 4 (.tmp 87), (some (86, false)), []⟩,
  ⟨some 89, .pick (.tmp 86) (.const (.bool true)) (.tmp 88), none, []⟩] [2, 4, 6, 8, 84, 85, 86, 87, 88, 89]) (.seq (.cond (.tmp 89) (.seq (.reg [⟨some 90, .load 30 (.tmp 2), none, []⟩,
  ⟨none, .store 30 (.tmp 4) (.tmp 90), none, []⟩,
  ⟨some 5, .assign (.const (.int .i64 10)), none, []⟩] [4, 5]) .ret) .skip) (.seq (.reg [⟨some 91, .fieldAddr 33 (.tmp 6) 4, none, []⟩,
  ⟨none, .store 4 (.tmp 91) (.const (.bool true)), none, []⟩] [2, 4, 6, 8]) .skip))) (.seq (.reg [⟨some 29, .load 30 (.tmp 2), none, []⟩,
  ⟨some 30, .fieldAddr 33 (.tmp 6) 0, none, []⟩,
  ⟨some 31, .load 3 (.tmp 30), none, []⟩,
  ⟨some 32, .call { callee := .value (.func 123), args := #[.tmp 29, .tmp 31], argTypes := #[30, 3] }, none, []⟩] [2, 4, 6, 8, 32]) (.seq (.cond (.tmp 32) (.seq (.reg [⟨some 33, .load 30 (.tmp 2), none, []⟩,
  ⟨none, .store 30 (.tmp 4) (.tmp 33), none, []⟩,
  ⟨some 5, .assign (.const (.int .i64 10)), none, []⟩] [4, 5]) .ret) .skip) (.seq (.reg [⟨some 34, .fieldAddr 30 (.tmp 8) 0, none, []⟩,
  ⟨none, .store 25 (.tmp 34) (.const (.slice none 0 0)), none, []⟩] [2, 4, 6, 8]) (.seq (.reg [⟨some 9, .assign (.const (.int .i64 0)), none, []⟩] [2, 4, 6, 8, 9, 41]) (.seq (.block 1 (.seq (.loop (.seq (.reg [⟨some 35, .move (.tmp 9), none, []⟩,
  ⟨some 36, .fieldAddr 30 (.tmp 2) 0, none, []⟩,
  ⟨some 37, .load 25 (.tmp 36), none, []⟩,
  ⟨some 38, .call { callee := .builtin .len, args := #[.tmp 37], argTypes := #[25] }, none, []⟩,
  ⟨some 39, .binOp .lss 3 (.tmp 35) (.tmp 38) 3, none, []⟩] [2, 4, 6, 8, 9, 39, 41]) (.seq (.cond (.tmp 39) .skip (.exit 1)) (.seq (.block 2 (.seq (.reg [⟨some 42, .fieldAddr 30 (.tmp 2) 0, none, [44, 48, 49]⟩,
  ⟨some 43, .load 25 (.tmp 42), none, [44, 48, 49]⟩,
  ⟨some 44, .move (.tmp 9), none, [42, 43, 48, 49]⟩,
  ⟨some 45, .indexAddr 25 (.tmp 43) (.tmp 44), none, [48, 49]⟩,
  ⟨some 46, .fieldAddr 33 (.tmp 45) 0, none, [48, 49]⟩,
  ⟨some 47, .load 3 (.tmp 46), none, [48, 49]⟩,
  ⟨some 48, .fieldAddr 33 (.tmp 6) 0, none, [42, 43, 44, 45, 46, 47]⟩,
  ⟨some 49, .load 3 (.tmp 48), none, [42, 43, 44, 45, 46, 47]⟩,
  ⟨some 50, .binOp .neq 3 (.tmp 47) (.tmp 49) 3, none, []⟩] [2, 4, 6, 8, 9, 41, 50]) (.seq (.cond (.tmp 50) (.seq (.reg [⟨some 51, .fieldAddr 30 (.tmp 8) 0, none, [53, 54, 55, 56, 57, 58]⟩,
  ⟨some 52, .load 25 (.tmp 51), none, [53, 54, 55, 56, 57, 58]⟩,
  ⟨some 53, .fieldAddr 30 (.tmp 2) 0, none, [51, 52, 55]⟩,
  ⟨some 54, .load 25 (.tmp 53), none, [51, 52, 55]⟩,
  ⟨some 55, .move (.tmp 9), none, [51, 52, 53, 54]⟩,
  ⟨some 56, .indexAddr 25 (.tmp 54) (.tmp 55), none, [51, 52]⟩,
  ⟨some 57, .load 33 (.tmp 56), none, [51, 52]⟩,
  ⟨some 58, .buildSlice 25 1 #[(0, .tmp 57)], none, [51, 52]⟩,
  ⟨some 59, .call { callee := .builtin .append, args := #[.tmp 52, .tmp 58], argTypes := #[25, 25] }, none, []⟩,
  ⟨some 60, .fieldAddr 30 (.tmp 8) 0, none, []⟩,
  ⟨none, .store 25 (.tmp 60) (.tmp 59), none, []⟩] [2, 4, 6, 8, 9, 41]) .skip) .skip) .skip))) (.seq (.reg [⟨some 40, .move (.tmp 9), none, []⟩,
  ⟨some 41, .binOp .add 3 (.tmp 40) (.const (.int .i64 1)) 3, none, []⟩,
  ⟨some 9, .assign (.tmp 41), none, []⟩] [2, 4, 6, 8, 9, 41]) .skip))))) .skip)) (.seq (.reg [⟨some 61, .load 30 (.tmp 8), none, []⟩,
  ⟨none, .store 30 (.tmp 4) (.tmp 61), none, []⟩,
  ⟨some 5, .assign (.const (.int .i64 0)), none, []⟩] [4, 5]) .ret))))))) .skip))) .skip))) .skip))) (.seq (.reg [⟨some 92, .fieldAddr 30 (.tmp 2) 0, none, []⟩,
  ⟨some 93, .load 25 (.tmp 92), none, []⟩,
  ⟨some 94, .load 33 (.tmp 6), none, []⟩,
  ⟨some 95, .call { callee := .value (.func 122), args := #[.tmp 93, .tmp 94], argTypes := #[25, 33] }, none, []⟩,
  ⟨some 96, .fieldAddr 30 (.tmp 8) 0, none, []⟩,
  ⟨none, .store 25 (.tmp 96) (.tmp 95), none, []⟩] [4, 8]) (.seq (.reg [⟨some 97, .load 30 (.tmp 8), none, []⟩,
  ⟨none, .store 30 (.tmp 4) (.tmp 97), none, []⟩,
  ⟨some 5, .assign (.const (.int .i64 0)), none, []⟩] [4, 5]) .ret)))))))))))
theorem s60 : TextK Proofs.Try.prog 0 60 98 [ResultVar.cell 4 30, ResultVar.tmp 5] c60 := .mk' Proofs.Try.f60 _ (by kernel_rfl) rfl rfl rfl (by kernel_rfl) rfl (by kernel_rfl)
theorem brokerRec_ok (m : Image) (r : Record) (hl : m.brokers.length ≤ 1000) : ACall pg 60 [encM m, encR r] (.tup [encM (m.brokerRec r).1, I (m.brokerRec r).2]) := by
  refine s60.call mo (by simp) fun hxs => ?_
  clear hxs
  unfold c60
  cases hb : m.broker r.broker with
  | none =>
    repeat' first
        | (with_reducible first | refine thN ?_ | refine thR ?_ | refine thE ?_ | refine inN ?_ | refine inR ?_ | refine inH ?_ | refine fF ?_ | refine fS ?_ | refine fR ?_ | refine fQ ?_ | refine fC ?_ | refine fB ?_ | refine fL ?_ | refine fE ?_ | refine fT ?_ | refine awBlock ?_ | refine awExit ?_ | refine awRet ?_ | refine awSkip ?_ | refine inM (by decide) ?_)
        | ((with_reducible refine awReg fun K hok hK => ?_); clear hok; (try simp (maxSteps := 10000000) (disch := first | omega | simp) [hb, zB]); (repeat' first
            | (with_reducible refine hK _ (by simp) ?_)
            | ((with_reducible refine gdT (fun h => ?_) (fun h => ?_)) <;> (simp (maxSteps := 10000000) (disch := first | omega | simp) [h, hb, zB]; (try simp at h); (try (exfalso; omega))))
            | ((with_reducible refine gdF (fun h => ?_) (fun h => ?_)) <;> (simp (maxSteps := 10000000) (disch := first | omega | simp) [h, hb, zB]; (try simp at h); (try (exfalso; omega))))
            | ((with_reducible refine callS' fun K2 hK2 => ?_); (try simp (maxSteps := 10000000) (disch := first | omega | simp) [hb, zB]); (first | (refine hK2 _ _ (broker_ok m r.broker) rfl fun hk9 => ?_; clear hk9)); clear hK2 K2; (try simp (maxSteps := 10000000) (disch := first | omega | simp) [hb, zB]))
            | ((with_reducible refine callF' fun K2 hK2 => ?_); (try simp (maxSteps := 10000000) (disch := first | omega | simp) [hb, zB]); (first | refine hK2 _ _ _ (broker_ok m r.broker) fun _ => ?_); clear hK2 K2; (try simp (maxSteps := 10000000) (disch := first | omega | simp) [hb, zB]))
            | ((with_reducible refine sideSt' fun K2 hK2 => ?_); (try simp (maxSteps := 10000000) (disch := first | omega | simp) [hb, zB]); refine hK2 _ ?_; clear hK2 K2; (try simp (maxSteps := 10000000) (disch := first | omega | simp) [hb, zB]))
            | ((with_reducible refine gdU ?_); (try simp (maxSteps := 10000000) (disch := first | omega | simp) [hb, zB]))
            | ((with_reducible refine sideQ' ?_ ?_ fun K2 hK2 => ?_); exact rfl; exact rfl; (try simp (maxSteps := 10000000) (disch := first | omega | simp) [hb, zB]); with_reducible refine hK2 _ _ ?_; clear hK2 K2; (try simp (maxSteps := 10000000) (disch := first | omega | simp) [hb, zB]))
            | ((with_reducible refine side' ?_ fun K2 hK2 => ?_); exact rfl; (try simp (maxSteps := 10000000) (disch := first | omega | simp) [hb, zB]); refine hK2 _ _ (by simp) ?_; clear hK2 K2; (try simp (maxSteps := 10000000) (disch := first | omega | simp) [hb, zB]))) <;> clear hK K)
        | ((with_reducible refine awCond fun A B hA hB => ?_); simp (maxSteps := 10000000) (disch := first | omega | simp) [hb, zB]; (first | refine ⟨fun h => hA ?_, fun h => hB ?_⟩ | refine hA ?_ | refine hB ?_) <;> (clear hA hB A B; (try (exfalso; omega))))
    all_goals (refine aEnR (aRes [] fun K hK => ?_); simp (maxSteps := 10000000) (disch := first | omega | simp) [Image.brokerRec, hb]; refine hK _ ?_ (by simp); clear hK; first | done | (simp (maxSteps := 10000000) (disch := first | omega | simp) [Image.brokerRec, hb, *]; done) | (simp (maxSteps := 10000000) (disch := first | omega | simp) [Image.brokerRec, hb, *]; omega) | (simp_all [Image.brokerRec, hb]; done) | (simp_all [Image.brokerRec, hb]; omega))
  | some b =>
    repeat' first
        | (with_reducible first | refine thN ?_ | refine thR ?_ | refine thE ?_ | refine inN ?_ | refine inR ?_ | refine inH ?_ | refine fF ?_ | refine fS ?_ | refine fR ?_ | refine fQ ?_ | refine fC ?_ | refine fB ?_ | refine fL ?_ | refine fE ?_ | refine fT ?_ | refine awBlock ?_ | refine awExit ?_ | refine awRet ?_ | refine awSkip ?_ | refine inM (by decide) ?_)
        | ((with_reducible refine awReg fun K hok hK => ?_); clear hok; (try simp (maxSteps := 10000000) (disch := first | omega | simp) [hb]); (repeat' first
            | (with_reducible refine hK _ (by simp) ?_)
            | ((with_reducible refine gdT (fun h => ?_) (fun h => ?_)) <;> (simp (maxSteps := 10000000) (disch := first | omega | simp) [h, hb]; (try simp at h); (try (exfalso; omega))))
            | ((with_reducible refine gdF (fun h => ?_) (fun h => ?_)) <;> (simp (maxSteps := 10000000) (disch := first | omega | simp) [h, hb]; (try simp at h); (try (exfalso; omega))))
            | ((with_reducible refine callS' fun K2 hK2 => ?_); (try simp (maxSteps := 10000000) (disch := first | omega | simp) [hb]); (first | (refine hK2 _ _ (broker_ok m r.broker) rfl fun hk9 => ?_; clear hk9) | (refine hK2 _ _ (leads_ok m b.id) rfl fun hk9 => ?_; clear hk9) | (refine hK2 _ _ (used_ok m b.id) rfl fun hk9 => ?_; clear hk9) | (refine hK2 _ _ (putBroker_ok m.brokers { b with fenced := true } hl) rfl fun hk9 => ?_; clear hk9) | (refine hK2 _ _ (putBroker_ok m.brokers { b with fenced := false, leaving := false } hl) rfl fun hk9 => ?_; clear hk9) | (refine hK2 _ _ (putBroker_ok m.brokers ⟨b.id, b.epoch, b.rack, false, true⟩ hl) rfl fun hk9 => ?_; clear hk9)); clear hK2 K2; (try simp (maxSteps := 10000000) (disch := first | omega | simp) [hb]))
            | ((with_reducible refine callF' fun K2 hK2 => ?_); (try simp (maxSteps := 10000000) (disch := first | omega | simp) [hb]); (first | refine hK2 _ _ _ (broker_ok m r.broker) fun _ => ?_ | refine hK2 _ _ _ (leads_ok m b.id) fun _ => ?_ | refine hK2 _ _ _ (used_ok m b.id) fun _ => ?_ | refine hK2 _ _ _ (putBroker_ok m.brokers { b with fenced := true } hl) fun _ => ?_ | refine hK2 _ _ _ (putBroker_ok m.brokers { b with fenced := false, leaving := false } hl) fun _ => ?_ | refine hK2 _ _ _ (putBroker_ok m.brokers ⟨b.id, b.epoch, b.rack, false, true⟩ hl) fun _ => ?_); clear hK2 K2; (try simp (maxSteps := 10000000) (disch := first | omega | simp) [hb]))
            | ((with_reducible refine sideSt' fun K2 hK2 => ?_); (try simp (maxSteps := 10000000) (disch := first | omega | simp) [hb]); refine hK2 _ ?_; clear hK2 K2; (try simp (maxSteps := 10000000) (disch := first | omega | simp) [hb]))
            | ((with_reducible refine gdU ?_); (try simp (maxSteps := 10000000) (disch := first | omega | simp) [hb]))
            | ((with_reducible refine sideQ' ?_ ?_ fun K2 hK2 => ?_); exact rfl; exact rfl; (try simp (maxSteps := 10000000) (disch := first | omega | simp) [hb]); with_reducible refine hK2 _ _ ?_; clear hK2 K2; (try simp (maxSteps := 10000000) (disch := first | omega | simp) [hb]))
            | ((with_reducible refine side' ?_ fun K2 hK2 => ?_); exact rfl; (try simp (maxSteps := 10000000) (disch := first | omega | simp) [hb]); refine hK2 _ _ (by simp) ?_; clear hK2 K2; (try simp (maxSteps := 10000000) (disch := first | omega | simp) [hb]))) <;> clear hK K)
        | ((with_reducible refine awCond fun A B hA hB => ?_); simp (maxSteps := 10000000) (disch := first | omega | simp) [hb]; (first | refine ⟨fun h => hA ?_, fun h => hB ?_⟩ | refine hA ?_ | refine hB ?_) <;> (clear hA hB A B; (try (exfalso; omega))))
    all_goals first
      | (refine aEnR (aRes [true] fun K hK => ?_); simp (maxSteps := 10000000) (disch := first | omega | simp) [hb]; refine hK _ ?_ (by simp); clear hK; (try unfold Image.brokerRec); ((repeat' split) <;> first | rfl | (exfalso; omega) | (exfalso; simp only [*, Bool.false_eq_true, Bool.true_eq_false, not_true, not_false_iff] at *; done) | (simp_all [hb]; done) | (exfalso; simp_all [hb]; omega)))
      | (refine awFor m.brokers.length (fun i (s : List Broker) => s ++ (m.brokers.drop i).filter (fun x => x.id != b.id) = m.brokers.filter (fun x => x.id != b.id) ∧ s.length ≤ i) (fun i s => [(9, .p (I i)), (8, .p (.own [.uq (s.map encB), .sl (m.topics.map encT), .sl (m.configs.map encC), .sl (m.done.map encD), I m.last])), (6, .p (.own (encB b).cells)), (4, .p (.own [.uq [], .uq [], .uq [], .uq [], I 0])), (2, .p (.own (encM m).cells))]) [] (Wk.ofA (by simp)) (by simp) fun i s hi hs => ?_
         obtain ⟨hs, hsl⟩ := hs
         repeat' first
             | (with_reducible first | refine thN ?_ | refine thR ?_ | refine thE ?_ | refine inN ?_ | refine inR ?_ | refine inH ?_ | refine fF ?_ | refine fS ?_ | refine fR ?_ | refine fQ ?_ | refine fC ?_ | refine fB ?_ | refine fL ?_ | refine fE ?_ | refine fT ?_ | refine awBlock ?_ | refine awExit ?_ | refine awRet ?_ | refine awSkip ?_ | refine inM (by decide) ?_)
             | ((with_reducible refine awReg fun K hok hK => ?_); clear hok; (try simp (maxSteps := 10000000) (disch := first | omega | simp) [hb]); (repeat' first
                 | (with_reducible refine hK _ (by simp) ?_)
                 | ((with_reducible refine gdT (fun h => ?_) (fun h => ?_)) <;> (simp (maxSteps := 10000000) (disch := first | omega | simp) [h, hb]; (try simp at h); (try (exfalso; omega))))
                 | ((with_reducible refine gdF (fun h => ?_) (fun h => ?_)) <;> (simp (maxSteps := 10000000) (disch := first | omega | simp) [h, hb]; (try simp at h); (try (exfalso; omega))))
                 | ((with_reducible refine sideSt' fun K2 hK2 => ?_); (try simp (maxSteps := 10000000) (disch := first | omega | simp) [hb]); refine hK2 _ ?_; clear hK2 K2; (try simp (maxSteps := 10000000) (disch := first | omega | simp) [hb]))
                 | ((with_reducible refine gdU ?_); (try simp (maxSteps := 10000000) (disch := first | omega | simp) [hb]))
                 | ((with_reducible refine sideQ' ?_ ?_ fun K2 hK2 => ?_); exact rfl; exact rfl; (try simp (maxSteps := 10000000) (disch := first | omega | simp) [hb]); with_reducible refine hK2 _ _ ?_; clear hK2 K2; (try simp (maxSteps := 10000000) (disch := first | omega | simp) [hb]))
                 | ((with_reducible refine side' ?_ fun K2 hK2 => ?_); exact rfl; (try simp (maxSteps := 10000000) (disch := first | omega | simp) [hb]); refine hK2 _ _ (by simp) ?_; clear hK2 K2; (try simp (maxSteps := 10000000) (disch := first | omega | simp) [hb]))) <;> clear hK K)
             | ((with_reducible refine awCond fun A B hA hB => ?_); simp (maxSteps := 10000000) (disch := first | omega | simp) [hb]; (first | refine ⟨fun h => hA ?_, fun h => hB ?_⟩ | refine hA ?_ | refine hB ?_) <;> (clear hA hB A B; (try (exfalso; omega))))
         all_goals first
           | (rw [drop_cons (by assumption)] at hs
              first
                | ((refine ⟨?_, s ++ [m.brokers[i]], ?_, Wk.ofA ?_⟩; assumption; rotate_left; focus (simp []; done))
                   constructor
                   · rw [← hs]; clear hs; simp [*, -List.getElem_cons_drop]
                   · simp; omega)
                | ((refine ⟨?_, s, ?_, Wk.ofA ?_⟩; assumption; rotate_left; focus (simp []; done))
                   constructor
                   · rw [← hs]; clear hs; simp [*, -List.getElem_cons_drop]
                   · omega))
           | (rw [drop_nil (by assumption)] at hs
              simp at hs
              (refine aEnR (aRes [true] fun K hK => ?_); simp (maxSteps := 10000000) (disch := first | omega | simp) [hb]; refine hK _ ?_ (by simp); clear hK; (try unfold Image.brokerRec); ((repeat' split) <;> first | rfl | (exfalso; omega) | (exfalso; simp only [*, Bool.false_eq_true, Bool.true_eq_false, not_true, not_false_iff] at *; done) | (simp_all [hb]; done) | (exfalso; simp_all [hb]; omega)))))
end
end Go.Am
