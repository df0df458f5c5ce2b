/- Part of the proof of a law of moving. -/
import Derived.Test.YtmnheledelnbfaaGreatDoorQE3
import Derived.Test.YtmnheledelnbfaaGreatDoorQFz
set_option linter.all false
set_option maxRecDepth 100000
set_option maxHeartbeats 0
namespace Go.Am
open Go
noncomputable section
def c35 : SC := (.seq (.reg [oO 5 53 2,oA 6 76] [0,1,5,6]) (.seq (.reg [oL 7 53 5,oC 8 47 #[.tmp 7] #[53],oS 53 5 8] [0,1,5,6]) (.seq (.reg [oM 9 0,oM 10 1,oF 11 53 5 3,oL 12 3 11,oF 13 53 5 2,oL 14 3 13,oF 15 53 5 0,oL 16 23 15,oF 17 53 5 1,oL 18 23 17,oF 19 53 5 4,oL 20 23 19,oF 21 53 5 5,oL 22 23 21,oD 23 (.build 76 #[(0,.const (.int .i64 9)),(3,.tmp 9),(4,.tmp 10),(2,.tmp 12),(5,.tmp 14),(14,.tmp 16),(15,.tmp 18),(16,.tmp 20),(17,.tmp 22)]),oS 76 6 23] [6]) .ret)))
theorem s35 : TextK Proofs.Tryz.prog 0 35 24 [ResultVar.cell 6 76] c35 := .mk' Proofs.Tryz.f35 _ (by kernel_rfl) rfl rfl rfl (by kernel_rfl) rfl (by kernel_rfl)
theorem change_ok (t : Int) (n : Nat) (p : Part) (h : p.Small) : ACall pg 35 [I t, I n, encP p] (encR (change t n p)) := by
  refine s35.call mo (by simp) fun hxs => ?_
  clear hxs
  unfold c35; dsimp only [oA, oC, oD, oF, oL, oM, oO, oS]
  iterate 2 (
      skip
      ((with_reducible refine awReg fun K hok hK => ?_); clear hok; (try simp (maxSteps := 10000000) (disch := first | omega | simp) []); (repeat' first | (with_reducible refine hK _ (by simp) ?_) | ((with_reducible refine callF' fun K2 hK2 => ?_); (try simp (maxSteps := 10000000) (disch := first | omega | simp) []); (refine hK2 _ _ _ (alone_ok p h) fun _ => ?_); clear hK2 K2; (try simp (maxSteps := 10000000) (disch := first | omega | simp) []))) <;> clear hK K))
  refine awWk (ofA [(6, .p (.own [I 0, I 0, I 0, I 0, I 0, I 0, I 0, I 0, I 0, B false, St ⟨#[]⟩, St ⟨#[]⟩, St ⟨#[]⟩, St ⟨#[]⟩, .uq [], .uq [], .uq [], .uq []])), (5, .p (.own (encP p).cells)), (1, .p (I n)), (0, .p (I t))]) ((Wk.frzPart (r := 5) rfl).trans (Wk.ofA (by simp))) ?_
  repeat' first | (with_reducible first | refine awRet ?_) | ((with_reducible refine awReg fun K hok hK => ?_); clear hok; (try simp (maxSteps := 10000000) (disch := first | omega | simp) []); (repeat' first | (with_reducible refine hK _ (by simp) ?_)) <;> clear hK K) | ((with_reducible refine awCond fun A B hA hB => ?_); simp (maxSteps := 10000000) (disch := first | omega | simp) []; (first | refine ⟨fun h => hA ?_, fun h => hB ?_⟩ | refine hA ?_ | refine hB ?_) <;> (clear hA hB A B; (try (exfalso; omega))))
  (refine aEnR (aRes [true] fun K hK => ?_); simp (maxSteps := 10000000) (disch := first | omega | simp) [change]; refine hK _ ?_ (by simp); clear hK; first | done | (simp (maxSteps := 10000000) (disch := first | omega | simp) [change, *]; done) | (simp (maxSteps := 10000000) (disch := first | omega | simp) [change, *]; omega) | (simp_all [change]; done) | (simp_all [change]; omega))
end
end Go.Am
