/- Part of the proof of a law of moving. -/
import Derived.Test.YtmnheledelnbfaaGreatQEB
set_option linter.all false
set_option maxRecDepth 100000
set_option maxHeartbeats 0
namespace Go.Am
open Go
noncomputable section
def c42 : SC := (.seq (.reg [⟨some 1, .box 52 (.tmp 0), none, []⟩,
  ⟨some 2, .alloc 52, none, []⟩] [1, 2]) (.seq (.reg [⟨some 3, .fieldAddr 52 (.tmp 1) 0, none, [6, 7]⟩,
  ⟨some 4, .load 23 (.tmp 3), none, [6, 7]⟩,
  ⟨some 5, .call { callee := .value (.func 58), args := #[.tmp 4], argTypes := #[23] }, none, [6, 7]⟩,
  ⟨some 6, .fieldAddr 52 (.tmp 1) 1, none, [3, 4, 5]⟩,
  ⟨some 7, .load 23 (.tmp 6), none, [3, 4, 5]⟩,
  ⟨some 8, .call { callee := .value (.func 58), args := #[.tmp 7], argTypes := #[23] }, none, [9]⟩,
  ⟨some 9, .fieldAddr 52 (.tmp 1) 0, none, [8]⟩,
  ⟨none, .store 23 (.tmp 9) (.tmp 5), none, []⟩,
  ⟨some 10, .fieldAddr 52 (.tmp 1) 1, none, []⟩,
  ⟨none, .store 23 (.tmp 10) (.tmp 8), none, []⟩] [1, 2]) (.seq (.reg [⟨some 11, .fieldAddr 52 (.tmp 1) 4, none, [14, 15]⟩,
  ⟨some 12, .load 23 (.tmp 11), none, [14, 15]⟩,
  ⟨some 13, .call { callee := .value (.func 58), args := #[.tmp 12], argTypes := #[23] }, none, [14, 15]⟩,
  ⟨some 14, .fieldAddr 52 (.tmp 1) 5, none, [11, 12, 13]⟩,
  ⟨some 15, .load 23 (.tmp 14), none, [11, 12, 13]⟩,
  ⟨some 16, .call { callee := .value (.func 58), args := #[.tmp 15], argTypes := #[23] }, none, [17]⟩,
  ⟨some 17, .fieldAddr 52 (.tmp 1) 4, none, [16]⟩,
  ⟨none, .store 23 (.tmp 17) (.tmp 13), none, []⟩,
  ⟨some 18, .fieldAddr 52 (.tmp 1) 5, none, []⟩,
  ⟨none, .store 23 (.tmp 18) (.tmp 16), none, []⟩] [1, 2]) (.seq (.reg [⟨some 19, .load 52 (.tmp 1), none, []⟩,
  ⟨none, .store 52 (.tmp 2) (.tmp 19), none, []⟩] [2]) .ret))))
theorem s42 : TextK Proofs.Tryz.prog 0 42 20 [ResultVar.cell 2 52] c42 := .mk' Proofs.Tryz.f42 _ (by kernel_rfl) rfl rfl rfl (by kernel_rfl) rfl (by kernel_rfl)
def encPO (p : Part) : V := .agg [.uq (p.ids.map I), .uq (p.isr.map I), I p.leader, I p.epoch, .uq (p.add.map I), .uq (p.drop.map I)]
@[simp] theorem encPO_eq (p : Part) : encPO p = .agg [.uq (p.ids.map I), .uq (p.isr.map I), I p.leader, I p.epoch, .uq (p.add.map I), .uq (p.drop.map I)] := rfl
structure Part.Small (p : Part) : Prop where
  ids : p.ids.length ≤ 1000000
  isr : p.isr.length ≤ 1000000
  add : p.add.length ≤ 1000000
  drop : p.drop.length ≤ 1000000
theorem alone_ok (p : Part) (h : p.Small) : ACall pg 42 [encP p] (encPO p) := by
  refine s42.call mo (by simp) fun hxs => ?_
  clear hxs
  unfold c42
  repeat' first | (with_reducible first | refine awRet ?_) | ((with_reducible refine awReg fun K hok hK => ?_); clear hok; (try simp (maxSteps := 10000000) (disch := first | omega | simp) []); (repeat' first | (with_reducible refine hK _ (by simp) ?_) | ((first | ((with_reducible refine sideF' fun K2 hK2 => ?_); (try simp (maxSteps := 10000000) (disch := first | omega | simp) []); (first | refine hK2 _ _ _ (cloneI_ok p.ids h.ids) (by simp) ?_ | refine hK2 _ _ _ (cloneI_ok p.isr h.isr) (by simp) ?_ | refine hK2 _ _ _ (cloneI_ok p.add h.add) (by simp) ?_ | refine hK2 _ _ _ (cloneI_ok p.drop h.drop) (by simp) ?_); clear hK2 K2) | ((with_reducible refine sideQ' ?_ ?_ fun K2 hK2 => ?_); exact rfl; exact rfl; (try simp (maxSteps := 10000000) (disch := first | omega | simp) []); with_reducible refine hK2 _ _ ?_; clear hK2 K2)); (try simp (maxSteps := 10000000) (disch := first | omega | simp) []))) <;> clear hK K) | ((with_reducible refine awCond fun A B hA hB => ?_); simp (maxSteps := 10000000) (disch := first | omega | simp) []; (first | refine ⟨fun h => hA ?_, fun h => hB ?_⟩ | refine hA ?_ | refine hB ?_) <;> (clear hA hB A B; (try (exfalso; omega))))
  (refine aEnR (aRes [] fun K hK => ?_); simp (maxSteps := 10000000) (disch := first | omega | simp) []; refine hK _ ?_ (by simp); simp (maxSteps := 10000000) (disch := first | omega | simp) [])
structure Image.Brk (m : Image) : Prop where
  bs : srtB m.brokers
  br : ∀ b ∈ m.brokers, 1 ≤ b.id ∧ b.id ≤ 64
  bl : m.brokers.length ≤ 1000
theorem fit_ok' (m : Image) (n : Int) (st : Bool) (h : m.Brk) (hn : big62 n) : ACall pg 75 [encM m, I n, B st] (B (m.fit n st)) := fit_ok m n st h.bs h.br (by have := h.bl; omega) hn
end
end Go.Am
