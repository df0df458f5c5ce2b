/- Part of the proof of ElectLeaves. -/
import Derived.Test.YteijffflinnccaaZE4l
import Derived.Test.YteijffflinnccaaZE5a
set_option linter.all false
set_option maxRecDepth 100000
set_option maxHeartbeats 0
namespace Go.Am
open Go
noncomputable section
def c57 : SC := (.seq (.reg [⟨some 3, .box 48 (.tmp 0), none, []⟩,
  ⟨some 4, .alloc 48, none, []⟩] [1, 2, 3, 4]) (.seq (.reg [⟨some 5, .load 30 (.tmp 1), none, []⟩,
  ⟨some 6, .load 48 (.tmp 3), none, []⟩,
  ⟨some 7, .load 3 (.tmp 2), none, []⟩,
  ⟨some 8, .call { callee := .value (.func 51), args := #[.tmp 5, .tmp 6, .tmp 7], argTypes := #[30, 48, 3] }, none, []⟩,
  ⟨none, .store 48 (.tmp 4) (.tmp 8), none, []⟩] [4]) .ret))
theorem s57 : TextK Proofs.Try.prog 0 57 9 [ResultVar.cell 4 48] c57 := .mk' Proofs.Try.f57 _ (by kernel_rfl) rfl rfl rfl (by kernel_rfl) rfl (by kernel_rfl)
def c18 : SC := (.seq (.reg [⟨some 2, .box 30 (.tmp 0), none, []⟩,
  ⟨some 3, .box 3 (.tmp 1), none, []⟩,
  ⟨some 4, .assign (.const (.slice none 0 0)), none, []⟩] [2, 3]) (.seq (.reg [⟨some 5, .load 30 (.tmp 2), none, []⟩,
  ⟨some 6, .makeFunc (Fn.func 57) #[] #[.tmp 2, .tmp 3], none, []⟩,
  ⟨some 7, .call { callee := .value (.func 56), args := #[.tmp 5, .tmp 6], argTypes := #[30, 97] }, none, []⟩,
  ⟨some 4, .assign (.tmp 7), none, []⟩] [4, 7]) .ret))
theorem s18 : TextK Proofs.Try.prog 0 18 8 [ResultVar.tmp 4] c18 := .mk' Proofs.Try.f18 _ (by kernel_rfl) rfl rfl rfl (by kernel_rfl) rfl (by kernel_rfl)
theorem leave1_ok (m : Image) (p : Part) (id : Int) (hbk : m.Brk) (hp : p.Small) (hb : ∀ n ∈ p.ids, big62 n) (he : 0 ≤ p.epoch ∧ p.epoch ≤ 1000000) : ACall pg 57 [encP p, .ip (encM m).cells 0, .ip [I id] 0] (encP (m.lose p id)) := by
  refine s57.call mo (by simp) fun hxs => ?_
  clear hxs
  unfold c57
  repeat' first
      | (with_reducible first | refine thN ?_ | refine thR ?_ | refine thE ?_ | refine inN ?_ | refine inR ?_ | refine inH ?_ | refine fF ?_ | refine fS ?_ | refine fR ?_ | refine fQ ?_ | refine fC ?_ | refine fB ?_ | refine fL ?_ | refine fE ?_ | refine fT ?_ | refine awBlock ?_ | refine awExit ?_ | refine awRet ?_ | refine awSkip ?_ | refine inM (by decide) ?_)
      | ((with_reducible refine awReg fun K hok hK => ?_); clear hok; (try simp (maxSteps := 10000000) (disch := first | omega | simp) []); (repeat' first
          | (with_reducible refine hK _ (by simp) ?_)
          | ((with_reducible refine gdT (fun h => ?_) (fun h => ?_)) <;> (simp (maxSteps := 10000000) (disch := first | omega | simp) [h]; (try simp at h); (try (exfalso; omega))))
          | ((with_reducible refine gdF (fun h => ?_) (fun h => ?_)) <;> (simp (maxSteps := 10000000) (disch := first | omega | simp) [h]; (try simp at h); (try (exfalso; omega))))
          | ((with_reducible refine callS' fun K2 hK2 => ?_); (try simp (maxSteps := 10000000) (disch := first | omega | simp) []); (first | (refine hK2 _ _ (lose_ok m p id hbk hp hb he) rfl fun hk9 => ?_; clear hk9)); clear hK2 K2; (try simp (maxSteps := 10000000) (disch := first | omega | simp) []))
          | ((with_reducible refine callF' fun K2 hK2 => ?_); (try simp (maxSteps := 10000000) (disch := first | omega | simp) []); (first | refine hK2 _ _ _ (lose_ok m p id hbk hp hb he) fun _ => ?_); clear hK2 K2; (try simp (maxSteps := 10000000) (disch := first | omega | simp) []))
          | ((with_reducible refine gdU ?_); (try simp (maxSteps := 10000000) (disch := first | omega | simp) []))) <;> clear hK K)
      | ((with_reducible refine awCond fun A B hA hB => ?_); simp (maxSteps := 10000000) (disch := first | omega | simp) []; (first | refine ⟨fun h => hA ?_, fun h => hB ?_⟩ | refine hA ?_ | refine hB ?_) <;> (clear hA hB A B; (try (exfalso; omega))))
  (refine aEnR (aRes [true] fun K hK => ?_); simp (maxSteps := 10000000) (disch := first | omega | simp) []; refine hK _ ?_ (by simp); clear hK; first | done | (simp (maxSteps := 10000000) (disch := first | omega | simp) [*]; done) | (simp (maxSteps := 10000000) (disch := first | omega | simp) [*]; omega) | (simp_all []; done) | (simp_all []; omega))
theorem leave_ok (m : Image) (id : Int) (hbk : m.Brk) (hm : m.Sml) (hb : ∀ t ∈ m.topics, ∀ p ∈ t.parts, ∀ n ∈ p.ids, big62 n) (he : ∀ t ∈ m.topics, ∀ p ∈ t.parts, 0 ≤ p.epoch ∧ p.epoch ≤ 1000000) (hS : ∀ t ∈ m.topics, ∀ p ∈ t.parts, (m.lose p id).Small) : ACall pg 18 [encM m, I id] (.sl ((m.leave id).map encR)) := by
  refine s18.call mo (by simp) fun hxs => ?_
  clear hxs
  unfold c18
  have hall := eall_ok m 57 [.ip (encM m).cells 0, .ip [I id] 0] (by simp [pureL, pureB]) (fun p => m.lose p id) (fun t ht p hp => leave1_ok m p id hbk (hm.ps t ht p hp) (hb t ht p hp) (he t ht p hp)) hm hS
  repeat' first
      | (with_reducible first | refine thN ?_ | refine thR ?_ | refine thE ?_ | refine inN ?_ | refine inR ?_ | refine inH ?_ | refine fF ?_ | refine fS ?_ | refine fR ?_ | refine fQ ?_ | refine fC ?_ | refine fB ?_ | refine fL ?_ | refine fE ?_ | refine fT ?_ | refine awBlock ?_ | refine awExit ?_ | refine awRet ?_ | refine awSkip ?_ | refine inM (by decide) ?_)
      | ((with_reducible refine awReg fun K hok hK => ?_); clear hok; (try simp (maxSteps := 10000000) (disch := first | omega | simp) []); (repeat' first
          | (with_reducible refine hK _ (by simp) ?_)
          | ((with_reducible refine gdT (fun h => ?_) (fun h => ?_)) <;> (simp (maxSteps := 10000000) (disch := first | omega | simp) [h]; (try simp at h); (try (exfalso; omega))))
          | ((with_reducible refine gdF (fun h => ?_) (fun h => ?_)) <;> (simp (maxSteps := 10000000) (disch := first | omega | simp) [h]; (try simp at h); (try (exfalso; omega))))
          | ((with_reducible refine callS' fun K2 hK2 => ?_); (try simp (maxSteps := 10000000) (disch := first | omega | simp) []); (first | (refine hK2 _ _ (hall) rfl fun hk9 => ?_; clear hk9)); clear hK2 K2; (try simp (maxSteps := 10000000) (disch := first | omega | simp) []))
          | ((with_reducible refine callF' fun K2 hK2 => ?_); (try simp (maxSteps := 10000000) (disch := first | omega | simp) []); (first | refine hK2 _ _ _ (hall) fun _ => ?_); clear hK2 K2; (try simp (maxSteps := 10000000) (disch := first | omega | simp) []))
          | ((with_reducible refine callT' rfl fun K2 hK2 => ?_); (try simp (maxSteps := 10000000) (disch := first | omega | simp) []); (first | refine hK2 _ _ _ _ _ (hall) fun _ => ?_); clear hK2 K2; (try simp (maxSteps := 10000000) (disch := first | omega | simp) []))
          | ((with_reducible refine callM' rfl fun K2 hK2 => ?_); (try simp (maxSteps := 10000000) (disch := first | omega | simp) []); (first | refine hK2 _ _ _ _ _ _ _ (hall) rfl fun _ _ => ?_); clear hK2 K2; (try simp (maxSteps := 10000000) (disch := first | omega | simp) []))
          | ((with_reducible refine gdU ?_); (try simp (maxSteps := 10000000) (disch := first | omega | simp) []))) <;> clear hK K)
      | ((with_reducible refine awCond fun A B hA hB => ?_); simp (maxSteps := 10000000) (disch := first | omega | simp) []; (first | refine ⟨fun h => hA ?_, fun h => hB ?_⟩ | refine hA ?_ | refine hB ?_) <;> (clear hA hB A B; (try (exfalso; omega))))
  (refine aEnR (aRes [true] fun K hK => ?_); simp (maxSteps := 10000000) (disch := first | omega | simp) [Image.leave]; refine hK _ ?_ (by simp); clear hK; first | done | (simp (maxSteps := 10000000) (disch := first | omega | simp) [Image.leave, *]; done) | (simp (maxSteps := 10000000) (disch := first | omega | simp) [Image.leave, *]; omega) | (simp_all [Image.leave]; done) | (simp_all [Image.leave]; omega))
end
end Go.Am
