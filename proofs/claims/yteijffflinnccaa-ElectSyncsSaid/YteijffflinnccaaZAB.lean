/- Part of the proof of ElectLeaves. -/
import Derived.Test.YteijffflinnccaaZAA
set_option linter.all false
section
set_option maxRecDepth 100000
set_option maxHeartbeats 0
namespace Go.Am
open Go
noncomputable section
def c122 : SC := (.seq (.reg [⟨some 3, .box 33 (.tmp 1), none, []⟩,
  ⟨some 4, .assign (.const (.slice none 0 0)), none, []⟩] [0, 3, 29, 44, 50]) (.seq (.reg [⟨some 5, .assign (.const (.slice none 0 0)), none, []⟩] [0, 3, 5, 29, 44, 50]) (.seq (.reg [⟨some 6, .assign (.const (.bool false)), none, []⟩] [0, 3, 5, 6, 29, 44, 50]) (.seq (.reg [⟨some 7, .assign (.const (.int .i64 0)), none, []⟩] [0, 3, 5, 6, 7, 13, 29, 44, 50]) (.seq (.block 0 (.seq (.loop (.seq (.reg [⟨some 8, .move (.tmp 7), none, []⟩,
  ⟨some 9, .move (.tmp 0), none, []⟩,
  ⟨some 10, .call { callee := .builtin .len, args := #[.tmp 9], argTypes := #[25] }, none, []⟩,
  ⟨some 11, .binOp .lss 3 (.tmp 8) (.tmp 10) 3, none, []⟩] [0, 3, 5, 6, 7, 11, 13, 29, 44, 50]) (.seq (.cond (.tmp 11) .skip (.exit 0)) (.seq (.block 1 (.seq (.reg [⟨some 14, .move (.tmp 6), none, []⟩,
  ⟨some 15, .unOp .not 4 (.tmp 14), none, []⟩,
  ⟨some 16, .move (.tmp 15), none, []⟩,
  ⟨some 17, .move (.tmp 0), (some (16, true)), [18, 22, 23]⟩,
  ⟨some 18, .move (.tmp 7), (some (16, true)), [17, 22, 23]⟩,
  ⟨some 19, .indexAddr 25 (.tmp 17) (.tmp 18), (some (16, true)), [22, 23]⟩,
  ⟨some 20, .fieldAddr 33 (.tmp 19) 0, (some (16, true)), [22, 23]⟩,
  ⟨some 21, .load 3 (.tmp 20), (some (16, true)), [22, 23]⟩,
  ⟨some 22, .fieldAddr 33 (.tmp 3) 0, (some (16, true)), [17, 18, 19, 20, 21]⟩,
  ⟨some 23, .load 3 (.tmp 22), (some (16, true)), [17, 18, 19, 20, 21]⟩,
  ⟨some 24, .binOp .geq 3 (.tmp 21) (.tmp 23) 3, (some (16, true)), []⟩,
  ⟨some 25, .pick (.tmp 16) (.tmp 24) (.const (.bool false)), none, []⟩] [0, 3, 5, 6, 7, 13, 15, 16, 24, 25, 29, 44, 50]) (.seq (.cond (.tmp 25) (.seq (.reg [⟨some 26, .move (.tmp 5), none, []⟩,
  ⟨some 27, .load 33 (.tmp 3), none, []⟩,
  ⟨some 28, .buildSlice 25 1 #[(0, .tmp 27)], none, []⟩,
  ⟨some 29, .call { callee := .builtin .append, args := #[.tmp 26, .tmp 28], argTypes := #[25, 25] }, none, []⟩,
  ⟨some 5, .assign (.tmp 29), none, []⟩] [0, 3, 5, 7, 13, 29, 44, 50]) (.seq (.reg [⟨some 6, .assign (.const (.bool true)), none, []⟩] [0, 3, 5, 6, 7, 13, 29, 44, 50]) .skip)) .skip) (.seq (.reg [⟨some 30, .move (.tmp 0), none, [31, 35, 36]⟩,
  ⟨some 31, .move (.tmp 7), none, [30, 35, 36]⟩,
  ⟨some 32, .indexAddr 25 (.tmp 30) (.tmp 31), none, [35, 36]⟩,
  ⟨some 33, .fieldAddr 33 (.tmp 32) 0, none, [35, 36]⟩,
  ⟨some 34, .load 3 (.tmp 33), none, [35, 36]⟩,
  ⟨some 35, .fieldAddr 33 (.tmp 3) 0, none, [30, 31, 32, 33, 34]⟩,
  ⟨some 36, .load 3 (.tmp 35), none, [30, 31, 32, 33, 34]⟩,
  ⟨some 37, .binOp .neq 3 (.tmp 34) (.tmp 36) 3, none, []⟩] [0, 3, 5, 6, 7, 13, 29, 37, 44, 50]) (.seq (.cond (.tmp 37) (.seq (.reg [⟨some 38, .move (.tmp 5), none, []⟩,
  ⟨some 39, .move (.tmp 0), none, []⟩,
  ⟨some 40, .move (.tmp 7), none, []⟩,
  ⟨some 41, .indexAddr 25 (.tmp 39) (.tmp 40), none, []⟩,
  ⟨some 42, .load 33 (.tmp 41), none, []⟩,
  ⟨some 43, .buildSlice 25 1 #[(0, .tmp 42)], none, []⟩,
  ⟨some 44, .call { callee := .builtin .append, args := #[.tmp 38, .tmp 43], argTypes := #[25, 25] }, none, []⟩,
  ⟨some 5, .assign (.tmp 44), none, []⟩] [0, 3, 5, 6, 7, 13, 29, 44, 50]) .skip) .skip) .skip))))) (.seq (.reg [⟨some 12, .move (.tmp 7), none, []⟩,
  ⟨some 13, .binOp .add 3 (.tmp 12) (.const (.int .i64 1)) 3, none, []⟩,
  ⟨some 7, .assign (.tmp 13), none, []⟩] [0, 3, 5, 6, 7, 13, 29, 44, 50]) .skip))))) .skip)) (.seq (.reg [⟨some 45, .move (.tmp 6), none, []⟩,
  ⟨some 46, .unOp .not 4 (.tmp 45), none, []⟩] [3, 5, 29, 44, 46, 50]) (.seq (.cond (.tmp 46) (.seq (.reg [⟨some 47, .move (.tmp 5), none, []⟩,
  ⟨some 48, .load 33 (.tmp 3), none, []⟩,
  ⟨some 49, .buildSlice 25 1 #[(0, .tmp 48)], none, []⟩,
  ⟨some 50, .call { callee := .builtin .append, args := #[.tmp 47, .tmp 49], argTypes := #[25, 25] }, none, []⟩,
  ⟨some 5, .assign (.tmp 50), none, []⟩] [5, 29, 44, 50]) .skip) .skip) (.seq (.reg [⟨some 51, .move (.tmp 5), none, []⟩,
  ⟨some 4, .assign (.tmp 51), none, []⟩] [4, 5, 29, 44, 50, 51]) .ret))))))))
theorem s122 : TextK Proofs.Try.prog 0 122 52 [ResultVar.tmp 4] c122 := .mk' Proofs.Try.f122 _ (by kernel_rfl) rfl rfl rfl (by kernel_rfl) rfl (by kernel_rfl)
theorem putBroker_ok (l : List Broker) (b : Broker) (hl : l.length ≤ 1000) : ACall pg 122 [.sl (l.map encB), encB b] (.sl ((putB l b).map encB)) := by
  refine s122.call mo (by simp) fun hxs => ?_
  clear hxs
  unfold c122
  repeat' first
      | (with_reducible first | refine thN ?_ | refine thR ?_ | refine thE ?_ | refine inN ?_ | refine inR ?_ | refine inH ?_ | refine fF ?_ | refine fS ?_ | refine fR ?_ | refine fQ ?_ | refine fC ?_ | refine fB ?_ | refine fL ?_ | refine fE ?_ | refine fT ?_ | refine awBlock ?_ | refine awExit ?_ | refine awRet ?_ | refine awSkip ?_ | refine inM (by decide) ?_)
      | ((with_reducible refine awReg fun K hok hK => ?_); clear hok; (try simp (maxSteps := 10000000) (disch := first | omega | simp) []); (repeat' first
          | (with_reducible refine hK _ (by simp) ?_)
          | ((with_reducible refine gdT (fun h => ?_) (fun h => ?_)) <;> (simp (maxSteps := 10000000) (disch := first | omega | simp) [h]; (try simp at h); (try (exfalso; omega))))
          | ((with_reducible refine gdF (fun h => ?_) (fun h => ?_)) <;> (simp (maxSteps := 10000000) (disch := first | omega | simp) [h]; (try simp at h); (try (exfalso; omega))))
          | ((with_reducible refine sideSt' fun K2 hK2 => ?_); (try simp (maxSteps := 10000000) (disch := first | omega | simp) []); refine hK2 _ ?_; clear hK2 K2; (try simp (maxSteps := 10000000) (disch := first | omega | simp) []))
          | ((with_reducible refine gdU ?_); (try simp (maxSteps := 10000000) (disch := first | omega | simp) []))
          | ((with_reducible refine sideQ' ?_ ?_ fun K2 hK2 => ?_); exact rfl; exact rfl; (try simp (maxSteps := 10000000) (disch := first | omega | simp) []); with_reducible refine hK2 _ _ ?_; clear hK2 K2; (try simp (maxSteps := 10000000) (disch := first | omega | simp) []))
          | ((with_reducible refine side' ?_ fun K2 hK2 => ?_); exact rfl; (try simp (maxSteps := 10000000) (disch := first | omega | simp) []); refine hK2 _ _ (by simp) ?_; clear hK2 K2; (try simp (maxSteps := 10000000) (disch := first | omega | simp) []))) <;> clear hK K)
      | ((with_reducible refine awCond fun A B hA hB => ?_); simp (maxSteps := 10000000) (disch := first | omega | simp) []; (first | refine ⟨fun h => hA ?_, fun h => hB ?_⟩ | refine hA ?_ | refine hB ?_) <;> (clear hA hB A B; (try (exfalso; omega))))
  refine awFor l.length (fun i (s : List Broker × Bool) => (l.drop i).foldl (putStep b) s = l.foldl (putStep b) ([], false) ∧ s.1.length ≤ 2 * i) (fun i s => [(7, .p (I i)), (6, .p (B s.2)), (5, .p (.uq (s.1.map encB))), (3, .p (.own (encB b).cells)), (0, .p (.sl (l.map encB)))]) ([], false) (Wk.ofA (by simp)) (by simp) fun i s hi hs => ?_
  obtain ⟨hs, hsl⟩ := hs
  repeat' first
      | (with_reducible first | refine thN ?_ | refine thR ?_ | refine thE ?_ | refine inN ?_ | refine inR ?_ | refine inH ?_ | refine fF ?_ | refine fS ?_ | refine fR ?_ | refine fQ ?_ | refine fC ?_ | refine fB ?_ | refine fL ?_ | refine fE ?_ | refine fT ?_ | refine awBlock ?_ | refine awExit ?_ | refine awRet ?_ | refine awSkip ?_ | refine inM (by decide) ?_)
      | ((with_reducible refine awReg fun K hok hK => ?_); clear hok; (try simp (maxSteps := 10000000) (disch := first | omega | simp) []); (repeat' first
          | (with_reducible refine hK _ (by simp) ?_)
          | ((with_reducible refine gdT (fun h => ?_) (fun h => ?_)) <;> (simp (maxSteps := 10000000) (disch := first | omega | simp) [h]; (try simp at h); (try (exfalso; omega))))
          | ((with_reducible refine gdF (fun h => ?_) (fun h => ?_)) <;> (simp (maxSteps := 10000000) (disch := first | omega | simp) [h]; (try simp at h); (try (exfalso; omega))))
          | ((with_reducible refine sideSt' fun K2 hK2 => ?_); (try simp (maxSteps := 10000000) (disch := first | omega | simp) []); refine hK2 _ ?_; clear hK2 K2; (try simp (maxSteps := 10000000) (disch := first | omega | simp) []))
          | ((with_reducible refine gdU ?_); (try simp (maxSteps := 10000000) (disch := first | omega | simp) []))
          | ((with_reducible refine sideQ' ?_ ?_ fun K2 hK2 => ?_); exact rfl; exact rfl; (try simp (maxSteps := 10000000) (disch := first | omega | simp) []); with_reducible refine hK2 _ _ ?_; clear hK2 K2; (try simp (maxSteps := 10000000) (disch := first | omega | simp) []))
          | ((with_reducible refine side' ?_ fun K2 hK2 => ?_); exact rfl; (try simp (maxSteps := 10000000) (disch := first | omega | simp) []); refine hK2 _ _ (by simp) ?_; clear hK2 K2; (try simp (maxSteps := 10000000) (disch := first | omega | simp) []))) <;> clear hK K)
      | ((with_reducible refine awCond fun A B hA hB => ?_); simp (maxSteps := 10000000) (disch := first | omega | simp) []; (first | refine ⟨fun h => hA ?_, fun h => hB ?_⟩ | refine hA ?_ | refine hB ?_) <;> (clear hA hB A B; (try (exfalso; omega))))
  all_goals first
    | (rw [foldl_drop (by assumption)] at hs
       refine ⟨by assumption, putStep b s l[i], ⟨hs, ?_⟩, Wk.ofA ?_⟩
       · clear hs; simp only [putStep]; (repeat' split) <;> simp_all <;> omega
       · clear hs
         simp [putStep, *]
         try (have hn : ¬ b.id ≤ l[i].id := (by omega); simp [hn, *]))
    | (rw [drop_nil (by assumption)] at hs
       have e : putB l b = if s.2 then s.1 else s.1 ++ [b] := by simp only [putB, ← hs]; rfl
       (refine aEnR (aRes [true] fun K hK => ?_); simp (maxSteps := 10000000) (disch := first | omega | simp) [e]; refine hK _ ?_ (by simp); clear hK; first | done | (simp (maxSteps := 10000000) (disch := first | omega | simp) [e, *]; done) | (simp (maxSteps := 10000000) (disch := first | omega | simp) [e, *]; omega) | (simp_all [e]; done) | (simp_all [e]; omega)))
end
end Go.Am
end
section
set_option maxRecDepth 100000
set_option maxHeartbeats 0
namespace Go.Am
open Go
noncomputable section
def c59 : SC := (.seq (.reg [⟨some 2, .box 30 (.tmp 0), none, []⟩,
  ⟨some 3, .box 43 (.tmp 1), none, []⟩,
  ⟨some 4, .alloc 30, none, []⟩,
  ⟨some 5, .assign (.const (.int .i64 0)), none, []⟩] [2, 3, 4]) (.seq (.reg [⟨some 10, .load 30 (.tmp 2), none, []⟩,
  ⟨some 11, .fieldAddr 43 (.tmp 3) 1, none, []⟩,
  ⟨some 12, .load 3 (.tmp 11), none, []⟩,
  ⟨some 13, .call { callee := .value (.func 66), args := #[.tmp 10, .tmp 12], argTypes := #[30, 3] }, none, []⟩,
  ⟨some 9, .move (.tmp 13), none, []⟩,
  ⟨some 14, .extract (.tmp 9) 0, none, []⟩,
  ⟨some 15, .extract (.tmp 9) 1, none, []⟩,
  ⟨some 6, .alloc 33, none, []⟩,
  ⟨none, .store 33 (.tmp 6) (.tmp 14), none, []⟩,
  ⟨some 7, .assign (.tmp 15), none, []⟩] [2, 3, 4, 6, 7, 9, 13, 15]) (.seq (.reg [⟨some 16, .move (.tmp 7), none, []⟩,
  ⟨some 17, .move (.tmp 16), none, []⟩,
  ⟨some 18, .fieldAddr 33 (.tmp 6) 1, (some (17, true)), []⟩,
  ⟨some 19, .load 3 (.tmp 18), (some (17, true)), []⟩,
  ⟨some 20, .fieldAddr 43 (.tmp 3) 2, (some (17, true)), []⟩,
  ⟨some 21, .load 3 (.tmp 20), (some (17, true)), []⟩,
  ⟨some 22, .binOp .geq 3 (.tmp 19) (.tmp 21) 3, (some (17, true)), []⟩,
  ⟨some 23, .pick (.tmp 17) (.tmp 22) (.const (.bool false)), none, []⟩] [2, 3, 4, 7, 9, 13, 15, 16, 17, 22, 23]) (.seq (.cond (.tmp 23) (.seq (.reg [⟨some 24, .load 30 (.tmp 2), none, []⟩,
  ⟨none, .store 30 (.tmp 4) (.tmp 24), none, []⟩,
  ⟨some 5, .assign (.const (.int .i64 11)), none, []⟩] [4, 5]) .ret) .skip) (.seq (.reg [⟨some 25, .move (.tmp 7), none, []⟩,
  ⟨some 26, .move (.tmp 25), none, []⟩,
  ⟨some 27, .load 30 (.tmp 2), (some (26, true)), []⟩,
  ⟨some 28, .fieldAddr 43 (.tmp 3) 1, (some (26, true)), []⟩,
  ⟨some 29, .load 3 (.tmp 28), (some (26, true)), []⟩,
  ⟨some 30, .call { callee := .value (.func 19), args := #[.tmp 27, .tmp 29], argTypes := #[30, 3] }, (some (26, true)), []⟩,
  ⟨some 31, .pick (.tmp 26) (.tmp 30) (.const (.bool false)), none, []⟩] [2, 3, 4, 7, 9, 13, 15, 25, 26, 30, 31]) (.seq (.cond (.tmp 31) (.seq (.reg [⟨some 32, .load 30 (.tmp 2), none, []⟩,
  ⟨none, .store 30 (.tmp 4) (.tmp 32), none, []⟩,
  ⟨some 5, .assign (.const (.int .i64 10)), none, []⟩] [4, 5]) .ret) .skip) (.seq (.reg [⟨some 33, .load 30 (.tmp 2), none, []⟩,
  ⟨some 8, .alloc 30, none, []⟩,
  ⟨none, .store 30 (.tmp 8) (.tmp 33), none, []⟩] [2, 3, 4, 8]) (.seq (.reg [⟨some 34, .fieldAddr 30 (.tmp 2) 0, none, []⟩,
  ⟨some 35, .load 25 (.tmp 34), none, []⟩,
  ⟨some 36, .fieldAddr 43 (.tmp 3) 1, none, []⟩,
  ⟨some 37, .load 3 (.tmp 36), none, []⟩,
  ⟨some 38, .fieldAddr 43 (.tmp 3) 2, none, []⟩,
  ⟨some 39, .load 3 (.tmp 38), none, []⟩,
  ⟨some 40, .fieldAddr 43 (.tmp 3) 13, none, []⟩,
  ⟨some 41, .load 9 (.tmp 40), none, []⟩,
  ⟨some 42, .build 33 #[(0, .tmp 37), (1, .tmp 39), (2, .tmp 41), (3, .const (.bool true))], none, []⟩,
  ⟨some 43, .call { callee := .value (.func 122), args := #[.tmp 35, .tmp 42], argTypes := #[25, 33] }, none, []⟩,
  ⟨some 44, .fieldAddr 30 (.tmp 8) 0, none, []⟩,
  ⟨none, .store 25 (.tmp 44) (.tmp 43), none, []⟩] [4, 8]) (.seq (.reg [⟨some 45, .load 30 (.tmp 8), none, []⟩,
  ⟨none, .store 30 (.tmp 4) (.tmp 45), none, []⟩,
  ⟨some 5, .assign (.const (.int .i64 0)), none, []⟩] [4, 5]) .ret)))))))))
theorem s59 : TextK Proofs.Try.prog 0 59 46 [ResultVar.cell 4 30, ResultVar.tmp 5] c59 := .mk' Proofs.Try.f59 _ (by kernel_rfl) rfl rfl rfl (by kernel_rfl) rfl (by kernel_rfl)
theorem register_ok (m : Image) (r : Record) (hl : m.brokers.length ≤ 1000) : ACall pg 59 [encM m, encR r] (.tup [encM (m.register r).1, I (m.register r).2]) := by
  refine s59.call mo (by simp) fun hxs => ?_
  clear hxs
  unfold c59
  repeat' first
      | (with_reducible first | refine thN ?_ | refine thR ?_ | refine thE ?_ | refine inN ?_ | refine inR ?_ | refine inH ?_ | refine fF ?_ | refine fS ?_ | refine fR ?_ | refine fQ ?_ | refine fC ?_ | refine fB ?_ | refine fL ?_ | refine fE ?_ | refine fT ?_ | refine awBlock ?_ | refine awExit ?_ | refine awRet ?_ | refine awSkip ?_ | refine inM (by decide) ?_)
      | ((with_reducible refine awReg fun K hok hK => ?_); clear hok; (try simp (maxSteps := 10000000) (disch := first | omega | simp) []); (repeat' first
          | (with_reducible refine hK _ (by simp) ?_)
          | ((with_reducible refine gdT (fun h => ?_) (fun h => ?_)) <;> (simp (maxSteps := 10000000) (disch := first | omega | simp) [h]; (try simp at h); (try (exfalso; omega))))
          | ((with_reducible refine gdF (fun h => ?_) (fun h => ?_)) <;> (simp (maxSteps := 10000000) (disch := first | omega | simp) [h]; (try simp at h); (try (exfalso; omega))))
          | ((with_reducible refine callS' fun K2 hK2 => ?_); (try simp (maxSteps := 10000000) (disch := first | omega | simp) []); (first | (refine hK2 _ _ (broker_ok m r.broker) rfl fun hk9 => ?_; clear hk9) | (refine hK2 _ _ (leads_ok m r.broker) rfl fun hk9 => ?_; clear hk9) | (refine hK2 _ _ (putBroker_ok m.brokers ⟨r.broker, r.epoch, r.rack, true, false⟩ hl) rfl fun hk9 => ?_; clear hk9)); clear hK2 K2; (try simp (maxSteps := 10000000) (disch := first | omega | simp) []))
          | ((with_reducible refine callF' fun K2 hK2 => ?_); (try simp (maxSteps := 10000000) (disch := first | omega | simp) []); (first | refine hK2 _ _ _ (broker_ok m r.broker) fun _ => ?_ | refine hK2 _ _ _ (leads_ok m r.broker) fun _ => ?_ | refine hK2 _ _ _ (putBroker_ok m.brokers ⟨r.broker, r.epoch, r.rack, true, false⟩ hl) fun _ => ?_); clear hK2 K2; (try simp (maxSteps := 10000000) (disch := first | omega | simp) []))
          | ((with_reducible refine gdU ?_); (try simp (maxSteps := 10000000) (disch := first | omega | simp) []))) <;> clear hK K)
      | ((with_reducible refine awCond fun A B hA hB => ?_); simp (maxSteps := 10000000) (disch := first | omega | simp) []; (first | refine ⟨fun h => hA ?_, fun h => hB ?_⟩ | refine hA ?_ | refine hB ?_) <;> (clear hA hB A B; (try (exfalso; omega))))
  all_goals
    refine aEnR (aRes [] fun K hK => ?_)
    simp (maxSteps := 10000000) (disch := first | omega | simp)
    refine hK _ ?_ (by simp)
    clear hK
    simp [Image.register, *, -Int.not_lt, -Int.not_le, ← Int.not_lt]
end
end Go.Am
end
section
set_option maxRecDepth 100000
set_option maxHeartbeats 0
namespace Go.Am
open Go
noncomputable section
def c62 : SC := (.seq (.reg [⟨some 2, .box 30 (.tmp 0), none, []⟩,
  ⟨some 3, .box 43 (.tmp 1), none, []⟩,
  ⟨some 4, .alloc 30, none, []⟩,
  ⟨some 5, .assign (.const (.int .i64 0)), none, []⟩] [2, 3, 4]) (.seq (.reg [⟨some 9, .fieldAddr 43 (.tmp 3) 3, none, []⟩,
  ⟨some 10, .load 3 (.tmp 9), none, []⟩,
  ⟨some 11, .fieldAddr 30 (.tmp 2) 4, none, []⟩,
  ⟨some 12, .load 3 (.tmp 11), none, []⟩,
  ⟨some 13, .binOp .add 3 (.tmp 12) (.const (.int .i64 1)) 3, none, []⟩,
  ⟨some 14, .binOp .neq 3 (.tmp 10) (.tmp 13) 3, none, []⟩] [2, 3, 4, 14]) (.seq (.cond (.tmp 14) (.seq (.reg [⟨some 15, .load 30 (.tmp 2), none, []⟩,
  ⟨none, .store 30 (.tmp 4) (.tmp 15), none, []⟩,
  ⟨some 5, .assign (.const (.int .i64 10)), none, []⟩] [4, 5]) .ret) .skip) (.seq (.reg [⟨some 17, .load 30 (.tmp 2), none, []⟩,
  ⟨some 18, .fieldAddr 43 (.tmp 3) 10, none, []⟩,
  ⟨some 19, .load 9 (.tmp 18), none, []⟩,
  ⟨some 20, .call { callee := .value (.func 126), args := #[.tmp 17, .tmp 19], argTypes := #[30, 9] }, none, []⟩,
  ⟨some 16, .move (.tmp 20), none, []⟩,
  ⟨some 21, .extract (.tmp 16) 0, none, []⟩,
  ⟨some 22, .extract (.tmp 16) 1, none, []⟩,
  ⟨some 6, .alloc 46, none, []⟩,
  ⟨none, .store 46 (.tmp 6) (.tmp 21), none, []⟩,
  ⟨some 7, .assign (.tmp 22), none, []⟩] [2, 3, 4, 7, 16, 20, 22]) (.seq (.reg [⟨some 23, .move (.tmp 7), none, []⟩] [2, 3, 4, 7, 16, 20, 22, 23]) (.seq (.cond (.tmp 23) (.seq (.reg [⟨some 24, .load 30 (.tmp 2), none, []⟩,
  ⟨none, .store 30 (.tmp 4) (.tmp 24), none, []⟩,
  ⟨some 5, .assign (.const (.int .i64 9)), none, []⟩] [4, 5]) .ret) .skip) (.seq (.reg [⟨some 25, .fieldAddr 30 (.tmp 2) 1, none, []⟩,
  ⟨some 26, .load 26 (.tmp 25), none, []⟩,
  ⟨some 27, .call { callee := .builtin .len, args := #[.tmp 26], argTypes := #[26] }, none, []⟩,
  ⟨some 28, .binOp .geq 3 (.tmp 27) (.const (.int .i64 256)) 3, none, []⟩] [2, 3, 4, 28]) (.seq (.cond (.tmp 28) (.seq (.reg [⟨some 29, .load 30 (.tmp 2), none, []⟩,
  ⟨none, .store 30 (.tmp 4) (.tmp 29), none, []⟩,
  ⟨some 5, .assign (.const (.int .i64 6)), none, []⟩] [4, 5]) .ret) .skip) (.seq (.reg [⟨some 30, .load 30 (.tmp 2), none, []⟩,
  ⟨some 8, .alloc 30, none, []⟩,
  ⟨none, .store 30 (.tmp 8) (.tmp 30), none, []⟩] [2, 3, 4, 8]) (.seq (.reg [⟨some 31, .fieldAddr 30 (.tmp 8) 1, none, []⟩,
  ⟨none, .store 26 (.tmp 31) (.const (.slice none 0 0)), none, []⟩] [2, 3, 4, 8]) (.seq (.reg [⟨some 32, .fieldAddr 30 (.tmp 8) 1, none, []⟩,
  ⟨some 33, .load 26 (.tmp 32), none, []⟩,
  ⟨some 34, .fieldAddr 30 (.tmp 2) 1, none, []⟩,
  ⟨some 35, .load 26 (.tmp 34), none, []⟩,
  ⟨some 36, .call { callee := .builtin .append, args := #[.tmp 33, .tmp 35], argTypes := #[26, 26] }, none, []⟩,
  ⟨some 37, .fieldAddr 30 (.tmp 8) 1, none, []⟩,
  ⟨none, .store 26 (.tmp 37) (.tmp 36), none, []⟩] [3, 4, 8]) (.seq (.reg [⟨some 38, .fieldAddr 30 (.tmp 8) 1, none, []⟩,
  ⟨some 39, .load 26 (.tmp 38), none, []⟩,
  ⟨some 40, .fieldAddr 43 (.tmp 3) 3, none, []⟩,
  ⟨some 41, .load 3 (.tmp 40), none, []⟩,
  ⟨some 42, .fieldAddr 43 (.tmp 3) 10, none, []⟩,
  ⟨some 43, .load 9 (.tmp 42), none, []⟩,
  ⟨some 44, .build 46 #[(0, .tmp 41), (1, .tmp 43)], none, []⟩,
  ⟨some 45, .buildSlice 26 1 #[(0, .tmp 44)], none, []⟩,
  ⟨some 46, .call { callee := .builtin .append, args := #[.tmp 39, .tmp 45], argTypes := #[26, 26] }, none, []⟩,
  ⟨some 47, .fieldAddr 30 (.tmp 8) 1, none, []⟩,
  ⟨none, .store 26 (.tmp 47) (.tmp 46), none, []⟩] [3, 4, 8]) (.seq (.reg [⟨some 48, .fieldAddr 43 (.tmp 3) 3, none, []⟩,
  ⟨some 49, .load 3 (.tmp 48), none, []⟩,
  ⟨some 50, .fieldAddr 30 (.tmp 8) 4, none, []⟩,
  ⟨none, .store 3 (.tmp 50) (.tmp 49), none, []⟩] [4, 8]) (.seq (.reg [⟨some 51, .load 30 (.tmp 8), none, []⟩,
  ⟨none, .store 30 (.tmp 4) (.tmp 51), none, []⟩,
  ⟨some 5, .assign (.const (.int .i64 0)), none, []⟩] [4, 5]) .ret))))))))))))))
theorem s62 : TextK Proofs.Try.prog 0 62 52 [ResultVar.cell 4 30, ResultVar.tmp 5] c62 := .mk' Proofs.Try.f62 _ (by kernel_rfl) rfl rfl rfl (by kernel_rfl) rfl (by kernel_rfl)
theorem addTopic_ok (m : Image) (r : Record) : ACall pg 62 [encM m, encR r] (.tup [encM (m.addTopic r).1, I (m.addTopic r).2]) := by
  refine s62.call mo (by simp) fun hxs => ?_
  clear hxs
  unfold c62
  repeat' first
      | (with_reducible first | refine thN ?_ | refine thR ?_ | refine thE ?_ | refine inN ?_ | refine inR ?_ | refine inH ?_ | refine fF ?_ | refine fS ?_ | refine fR ?_ | refine fQ ?_ | refine fC ?_ | refine fB ?_ | refine fL ?_ | refine fE ?_ | refine fT ?_ | refine awBlock ?_ | refine awExit ?_ | refine awRet ?_ | refine awSkip ?_ | refine inM (by decide) ?_)
      | ((with_reducible refine awReg fun K hok hK => ?_); clear hok; (try simp (maxSteps := 10000000) (disch := first | omega | simp) []); (repeat' first
          | (with_reducible refine hK _ (by simp) ?_)
          | ((with_reducible refine gdT (fun h => ?_) (fun h => ?_)) <;> (simp (maxSteps := 10000000) (disch := first | omega | simp) [h]; (try simp at h); (try (exfalso; omega))))
          | ((with_reducible refine gdF (fun h => ?_) (fun h => ?_)) <;> (simp (maxSteps := 10000000) (disch := first | omega | simp) [h]; (try simp at h); (try (exfalso; omega))))
          | ((with_reducible refine callS' fun K2 hK2 => ?_); (try simp (maxSteps := 10000000) (disch := first | omega | simp) []); (first | (refine hK2 _ _ (named_ok m r.name) rfl fun hk9 => ?_; clear hk9)); clear hK2 K2; (try simp (maxSteps := 10000000) (disch := first | omega | simp) []))
          | ((with_reducible refine callF' fun K2 hK2 => ?_); (try simp (maxSteps := 10000000) (disch := first | omega | simp) []); (first | refine hK2 _ _ _ (named_ok m r.name) fun _ => ?_); clear hK2 K2; (try simp (maxSteps := 10000000) (disch := first | omega | simp) []))
          | ((with_reducible refine gdU ?_); (try simp (maxSteps := 10000000) (disch := first | omega | simp) []))) <;> clear hK K)
      | ((with_reducible refine awCond fun A B hA hB => ?_); simp (maxSteps := 10000000) (disch := first | omega | simp) []; (first | refine ⟨fun h => hA ?_, fun h => hB ?_⟩ | refine hA ?_ | refine hB ?_) <;> (clear hA hB A B; (try (exfalso; omega))))
  all_goals (refine aEnR (aRes [true] fun K hK => ?_); simp (maxSteps := 10000000) (disch := first | omega | simp) []; refine hK _ ?_ (by simp); clear hK; (try simp only [Image.addTopic]); ((repeat' split) <;> first | with_reducible rfl | contradiction | (exfalso; omega) | (simp []; done) | grind))
end
end Go.Am
end
