/- Part of the proof of ElectLeaves. -/
import Derived.Test.YteijffflinnccaaZAB
import Derived.Test.YteijffflinnccaaZE0
import Derived.Test.YteijffflinnccaaZE3
import Derived.Test.YteijffflinnccaaZPU
set_option linter.all false
section
set_option maxRecDepth 100000
set_option maxHeartbeats 0
namespace Go.Am
open Go
noncomputable section
def c69 : SC := (.seq (.reg [⟨some 6, .assign (.const .nilIface), none, []⟩] [0, 1, 2]) (.seq (.reg [⟨some 7, .move (.tmp 0), none, []⟩,
  ⟨some 8, .move (.tmp 1), none, []⟩,
  ⟨some 9, .move (.tmp 2), none, []⟩,
  ⟨some 10, .makeInterface 35 (.tmp 9), none, []⟩,
  ⟨some 11, .build 171 #[(0, .tmp 7), (1, .tmp 8), (2, .tmp 10)], none, []⟩,
  ⟨some 12, .makeInterface 171 (.tmp 11), none, []⟩,
  ⟨some 6, .assign (.tmp 12), none, []⟩] [6, 12]) .ret))
theorem s69 : TextK Proofs.Try.prog 0 69 13 [ResultVar.tmp 6] c69 := .mk' Proofs.Try.f69 _ (by kernel_rfl) rfl rfl rfl (by kernel_rfl) rfl (by kernel_rfl)
def errF (op : ByteArray) (a c : Int) : V := .c (.iface 171 (.agg #[.string op, .int .i64 a, .iface 35 (.int .i64 c)]))
@[simp] theorem errF_eq (op : ByteArray) (a c : Int) : errF op a c = .c (.iface 171 (.agg #[.string op, .int .i64 a, .iface 35 (.int .i64 c)])) := rfl
theorem new_ok (op : ByteArray) (a c : Int) : ACall pg 69 [St op, I a, I c] (errF op a c) := by
  refine s69.call mo (by simp) fun hxs => ?_
  clear hxs
  unfold c69
  repeat' first
      | (with_reducible first | refine thN ?_ | refine thR ?_ | refine thE ?_ | refine inN ?_ | refine inR ?_ | refine inH ?_ | refine fF ?_ | refine fS ?_ | refine fR ?_ | refine fQ ?_ | refine fC ?_ | refine fB ?_ | refine fL ?_ | refine fE ?_ | refine fT ?_ | refine awBlock ?_ | refine awExit ?_ | refine awRet ?_ | refine awSkip ?_ | refine inM (by decide) ?_)
      | ((with_reducible refine awReg fun K hok hK => ?_); clear hok; (try simp (maxSteps := 10000000) (disch := first | omega | simp) []); (repeat' first
          | (with_reducible refine hK _ (by simp) ?_)
          | ((with_reducible refine gdT (fun h => ?_) (fun h => ?_)) <;> (simp (maxSteps := 10000000) (disch := first | omega | simp) [h]; (try simp at h); (try (exfalso; omega))))
          | ((with_reducible refine gdF (fun h => ?_) (fun h => ?_)) <;> (simp (maxSteps := 10000000) (disch := first | omega | simp) [h]; (try simp at h); (try (exfalso; omega))))
          | ((with_reducible refine gdU ?_); (try simp (maxSteps := 10000000) (disch := first | omega | simp) []))) <;> clear hK K)
      | ((with_reducible refine awCond fun A B hA hB => ?_); simp (maxSteps := 10000000) (disch := first | omega | simp) []; (first | refine ⟨fun h => hA ?_, fun h => hB ?_⟩ | refine hA ?_ | refine hB ?_) <;> (clear hA hB A B; (try (exfalso; omega))))
  (refine aEnR (aRes [] fun K hK => ?_); simp (maxSteps := 10000000) (disch := first | omega | simp) [errF]; refine hK _ ?_ (by simp); clear hK; first | done | (simp (maxSteps := 10000000) (disch := first | omega | simp) [errF, *]; done) | (simp (maxSteps := 10000000) (disch := first | omega | simp) [errF, *]; omega) | (simp_all [errF]; done) | (simp_all [errF]; omega))
def errO : Option Bad → V
  | some b => errF b.1 b.2.1 b.2.2
  | none => .c .nilIface
@[simp] theorem errO_some (b : Bad) : errO (some b) = errF b.1 b.2.1 b.2.2 := rfl
@[simp] theorem errO_none : errO none = .c .nilIface := rfl
end
end Go.Am
end
section
set_option maxRecDepth 100000
set_option maxHeartbeats 0
namespace Go.Am
open Go
noncomputable section
def c53 : SC := (.seq (.reg [⟨some 4, .assign (.const (.bool false)), none, []⟩] [0, 1]) (.seq (.reg [⟨some 5, .move (.tmp 0), none, []⟩,
  ⟨some 6, .move (.tmp 1), none, []⟩,
  ⟨some 7, .makeInterface 35 (.tmp 6), none, []⟩,
  ⟨some 8, .call { callee := .value (.func 117), args := #[.tmp 5, .tmp 7], argTypes := #[55, 55] }, none, []⟩,
  ⟨some 4, .assign (.tmp 8), none, []⟩] [4, 8]) .ret))
theorem s53 : TextK Proofs.Try.prog 0 53 9 [ResultVar.tmp 4] c53 := .mk' Proofs.Try.f53 _ (by kernel_rfl) rfl rfl rfl (by kernel_rfl) rfl (by kernel_rfl)
theorem isF_ok (op : ByteArray) (a c d : Int) : ACall pg 53 [errF op a c, I d] (B (c == d)) := by
  refine s53.call mo (by simp) fun hxs => ?_
  clear hxs
  unfold c53
  have h : ACall pg 117 [errF op a c, .c (.iface 35 (.int .i64 d))] (B (c == d)) := Is_ok (.fault op a (.code c)) d
  repeat' first
      | (with_reducible first | refine thN ?_ | refine thR ?_ | refine thE ?_ | refine inN ?_ | refine inR ?_ | refine inH ?_ | refine fF ?_ | refine fS ?_ | refine fR ?_ | refine fQ ?_ | refine fC ?_ | refine fB ?_ | refine fL ?_ | refine fE ?_ | refine fT ?_ | refine awBlock ?_ | refine awExit ?_ | refine awRet ?_ | refine awSkip ?_ | refine inM (by decide) ?_)
      | ((with_reducible refine awReg fun K hok hK => ?_); clear hok; (try simp (maxSteps := 10000000) (disch := first | omega | simp) []); (repeat' first
          | (with_reducible refine hK _ (by simp) ?_)
          | ((with_reducible refine gdT (fun h => ?_) (fun h => ?_)) <;> (simp (maxSteps := 10000000) (disch := first | omega | simp) [h]; (try simp at h); (try (exfalso; omega))))
          | ((with_reducible refine gdF (fun h => ?_) (fun h => ?_)) <;> (simp (maxSteps := 10000000) (disch := first | omega | simp) [h]; (try simp at h); (try (exfalso; omega))))
          | ((with_reducible refine callS' fun K2 hK2 => ?_); (try simp (maxSteps := 10000000) (disch := first | omega | simp) []); (first | (refine hK2 _ _ (h) rfl fun hk9 => ?_; clear hk9)); clear hK2 K2; (try simp (maxSteps := 10000000) (disch := first | omega | simp) []))
          | ((with_reducible refine callF' fun K2 hK2 => ?_); (try simp (maxSteps := 10000000) (disch := first | omega | simp) []); (first | refine hK2 _ _ _ (h) fun _ => ?_); clear hK2 K2; (try simp (maxSteps := 10000000) (disch := first | omega | simp) []))
          | ((with_reducible refine callT' rfl fun K2 hK2 => ?_); (try simp (maxSteps := 10000000) (disch := first | omega | simp) []); (first | refine hK2 _ _ _ _ _ (h) fun _ => ?_); clear hK2 K2; (try simp (maxSteps := 10000000) (disch := first | omega | simp) []))
          | ((with_reducible refine callM' rfl fun K2 hK2 => ?_); (try simp (maxSteps := 10000000) (disch := first | omega | simp) []); (first | refine hK2 _ _ _ _ _ _ _ (h) rfl fun _ _ => ?_); clear hK2 K2; (try simp (maxSteps := 10000000) (disch := first | omega | simp) []))
          | ((with_reducible refine gdU ?_); (try simp (maxSteps := 10000000) (disch := first | omega | simp) []))) <;> clear hK K)
      | ((with_reducible refine awCond fun A B hA hB => ?_); simp (maxSteps := 10000000) (disch := first | omega | simp) []; (first | refine ⟨fun h => hA ?_, fun h => hB ?_⟩ | refine hA ?_ | refine hB ?_) <;> (clear hA hB A B; (try (exfalso; omega))))
  (refine aEnR (aRes [] fun K hK => ?_); simp (maxSteps := 10000000) (disch := first | omega | simp) []; refine hK _ ?_ (by simp); clear hK; first | done | (simp (maxSteps := 10000000) (disch := first | omega | simp) [*]; done) | (simp (maxSteps := 10000000) (disch := first | omega | simp) [*]; omega) | (simp_all []; done) | (simp_all []; omega))
end
end Go.Am
end
section
set_option maxRecDepth 100000
set_option maxHeartbeats 0
namespace Go.Am
open Go
noncomputable section
def c49 : SC := (.seq (.reg [⟨some 0, .assign (.const (.slice none 0 0)), none, []⟩] []) (.seq (.reg [⟨some 1, .build 43 #[(0, .const (.int .i64 2)), (1, .const (.int .i64 1)), (2, .const (.int .i64 1)), (13, .const (.string ⟨#[97]⟩))], none, []⟩,
  ⟨some 2, .build 43 #[(0, .const (.int .i64 4)), (1, .const (.int .i64 1)), (2, .const (.int .i64 1))], none, []⟩,
  ⟨some 3, .build 43 #[(0, .const (.int .i64 2)), (1, .const (.int .i64 2)), (2, .const (.int .i64 1)), (13, .const (.string ⟨#[98]⟩))], none, []⟩,
  ⟨some 4, .build 43 #[(0, .const (.int .i64 4)), (1, .const (.int .i64 2)), (2, .const (.int .i64 1))], none, []⟩,
  ⟨some 5, .build 43 #[(0, .const (.int .i64 7)), (3, .const (.int .i64 1)), (10, .const (.string ⟨#[116]⟩))], none, []⟩,
  ⟨some 6, .buildSlice 41 2 #[(0, .const (.int .i64 1)), (1, .const (.int .i64 2))], none, []⟩,
  ⟨some 7, .buildSlice 41 2 #[(0, .const (.int .i64 1)), (1, .const (.int .i64 2))], none, []⟩,
  ⟨some 8, .build 43 #[(0, .const (.int .i64 8)), (3, .const (.int .i64 1)), (14, .tmp 6), (15, .tmp 7), (5, .const (.int .i64 1))], none, []⟩,
  ⟨some 9, .buildSlice 22 6 #[(0, .tmp 1), (1, .tmp 2), (2, .tmp 3), (3, .tmp 4), (4, .tmp 5), (5, .tmp 8)], none, []⟩,
  ⟨some 0, .assign (.tmp 9), none, []⟩] [0, 9]) .ret))
theorem s49 : TextK Proofs.Try.prog 0 49 10 [ResultVar.tmp 0] c49 := .mk' Proofs.Try.f49 _ (by kernel_rfl) rfl rfl rfl (by kernel_rfl) rfl (by kernel_rfl)
theorem first_ok : ACall pg 49 [] (.sl (firstL.map encR)) := by
  refine s49.call mo (by simp) fun hxs => ?_
  clear hxs
  unfold c49
  repeat' first
      | (with_reducible first | refine thN ?_ | refine thR ?_ | refine thE ?_ | refine inN ?_ | refine inR ?_ | refine inH ?_ | refine fF ?_ | refine fS ?_ | refine fR ?_ | refine fQ ?_ | refine fC ?_ | refine fB ?_ | refine fL ?_ | refine fE ?_ | refine fT ?_ | refine awBlock ?_ | refine awExit ?_ | refine awRet ?_ | refine awSkip ?_ | refine inM (by decide) ?_)
      | ((with_reducible refine awReg fun K hok hK => ?_); clear hok; (try simp (maxSteps := 10000000) (disch := first | omega | simp) []); (repeat' first
          | (with_reducible refine hK _ (by simp) ?_)
          | ((with_reducible refine gdT (fun h => ?_) (fun h => ?_)) <;> (simp (maxSteps := 10000000) (disch := first | omega | simp) [h]; (try simp at h); (try (exfalso; omega))))
          | ((with_reducible refine gdF (fun h => ?_) (fun h => ?_)) <;> (simp (maxSteps := 10000000) (disch := first | omega | simp) [h]; (try simp at h); (try (exfalso; omega))))
          | ((with_reducible refine gdU ?_); (try simp (maxSteps := 10000000) (disch := first | omega | simp) []))) <;> clear hK K)
      | ((with_reducible refine awCond fun A B hA hB => ?_); simp (maxSteps := 10000000) (disch := first | omega | simp) []; (first | refine ⟨fun h => hA ?_, fun h => hB ?_⟩ | refine hA ?_ | refine hB ?_) <;> (clear hA hB A B; (try (exfalso; omega))))
  (refine aEnR (aRes [true] fun K hK => ?_); simp (maxSteps := 10000000) (disch := first | omega | simp) [firstL, zR, bs]; refine hK _ ?_ (by simp); clear hK; first | done | (simp (maxSteps := 10000000) (disch := first | omega | simp) [firstL, zR, bs, *]; done) | (simp (maxSteps := 10000000) (disch := first | omega | simp) [firstL, zR, bs, *]; omega) | (simp_all [firstL, zR, bs]; done) | (simp_all [firstL, zR, bs]; omega))
end
end Go.Am
end
