/- Part of the proof of a law of moving. -/
import Derived.Test.YtmnheledelnbfaaGreatDoorQEB
set_option linter.all false
set_option maxRecDepth 100000
set_option maxHeartbeats 0
namespace Go.Am
open Go
noncomputable section
def c47 : SC := (.seq (.reg [oO 1 53 0,oA 2 53] [1,2]) (.seq (.reg [oU (oF 3 53 1 0) [6,7],oU (oL 4 23 3) [6,7],oU (oC 5 73 #[.tmp 4] #[23]) [6,7],oU (oF 6 53 1 1) [3,4,5],oU (oL 7 23 6) [3,4,5],oU (oC 8 73 #[.tmp 7] #[23]) [9],oU (oF 9 53 1 0) [8],oS 23 9 5,oF 10 53 1 1,oS 23 10 8] [1,2]) (.seq (.reg [oU (oF 11 53 1 4) [14,15],oU (oL 12 23 11) [14,15],oU (oC 13 73 #[.tmp 12] #[23]) [14,15],oU (oF 14 53 1 5) [11,12,13],oU (oL 15 23 14) [11,12,13],oU (oC 16 73 #[.tmp 15] #[23]) [17],oU (oF 17 53 1 4) [16],oS 23 17 13,oF 18 53 1 5,oS 23 18 16] [1,2]) (.seq (.reg [oL 19 53 1,oS 53 2 19] [2]) .ret))))
theorem s47 : TextK Proofs.Tryz.prog 0 47 20 [ResultVar.cell 2 53] c47 := .mk' Proofs.Tryz.f47 _ (by kernel_rfl) rfl rfl rfl (by kernel_rfl) rfl (by kernel_rfl)
def encPO (p : Part) : V := .agg [.uq (p.ids.map I), .uq (p.isr.map I), I p.leader, I p.epoch, .uq (p.add.map I), .uq (p.drop.map I)]
@[simp] theorem encPO_eq (p : Part) : encPO p = .agg [.uq (p.ids.map I), .uq (p.isr.map I), I p.leader, I p.epoch, .uq (p.add.map I), .uq (p.drop.map I)] := rfl
structure Part.Small (p : Part) : Prop where
  ids : p.ids.length ≤ 1000000
  isr : p.isr.length ≤ 1000000
  add : p.add.length ≤ 1000000
  drop : p.drop.length ≤ 1000000
theorem alone_ok (p : Part) (h : p.Small) : ACall pg 47 [encP p] (encPO p) := by
  refine s47.call mo (by simp) fun hxs => ?_
  clear hxs
  unfold c47; dsimp only [oA, oC, oF, oL, oO, oS, oU]
  repeat' first | (with_reducible first | refine awRet ?_) | ((with_reducible refine awReg fun K hok hK => ?_); clear hok; (try simp (maxSteps := 10000000) (disch := first | omega | simp) []); (repeat' first | (with_reducible refine hK _ (by simp) ?_) | ((first | ((with_reducible refine sideF' fun K2 hK2 => ?_); (try simp (maxSteps := 10000000) (disch := first | omega | simp) []); (first | refine hK2 _ _ _ (cloneI_ok p.ids h.ids) (by simp) ?_ | refine hK2 _ _ _ (cloneI_ok p.isr h.isr) (by simp) ?_ | refine hK2 _ _ _ (cloneI_ok p.add h.add) (by simp) ?_ | refine hK2 _ _ _ (cloneI_ok p.drop h.drop) (by simp) ?_); clear hK2 K2) | ((with_reducible refine sideQ' ?_ ?_ fun K2 hK2 => ?_); exact rfl; exact rfl; (try simp (maxSteps := 10000000) (disch := first | omega | simp) []); with_reducible refine hK2 _ _ ?_; clear hK2 K2)); (try simp (maxSteps := 10000000) (disch := first | omega | simp) []))) <;> clear hK K) | ((with_reducible refine awCond fun A B hA hB => ?_); simp (maxSteps := 10000000) (disch := first | omega | simp) []; (first | refine ⟨fun h => hA ?_, fun h => hB ?_⟩ | refine hA ?_ | refine hB ?_) <;> (clear hA hB A B; (try (exfalso; omega))))
  (refine aEnR (aRes [] fun K hK => ?_); simp (maxSteps := 10000000) (disch := first | omega | simp) []; refine hK _ ?_ (by simp); simp (maxSteps := 10000000) (disch := first | omega | simp) [])
structure Image.Brk (m : Image) : Prop where
  bs : srtB m.brokers
  br : ∀ b ∈ m.brokers, 1 ≤ b.id ∧ b.id ≤ 64
  bl : m.brokers.length ≤ 1000
theorem fit_ok' (m : Image) (n : Int) (st : Bool) (h : m.Brk) (hn : big62 n) : ACall pg 96 [encM m, I n, B st] (B (m.fit n st)) := fit_ok m n st h.bs h.br (by have := h.bl; omega) hn
end
end Go.Am
