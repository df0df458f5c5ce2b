/- Part of the proof of a law of moving. -/
import Derived.Test.YtmnheledelnbfaaGreatDoorQE3
set_option linter.all false
set_option maxRecDepth 100000
set_option maxHeartbeats 0
namespace Go.Am
open Go
noncomputable section
def c70 : SC := (.seq (.reg [oO 2 53 0,oO 3 53 1,oZ 4 false] [2,3]) (.seq (.reg [oF 5 53 2 2,oL 6 3 5,oF 7 53 3 2,oL 8 3 7,oB 9 .eql 3 6 8 3,oM 10 9,oW 10 true (oF 11 53 2 3),oW 10 true (oL 12 3 11),oW 10 true (oF 13 53 3 3),oW 10 true (oL 14 3 13),oW 10 true (oB 15 .eql 3 12 14 3),oQ 16 10 15 false,oM 17 16,oW 17 true (oF 18 53 2 0),oW 17 true (oL 19 23 18),oW 17 true (oF 20 53 3 0),oW 17 true (oL 21 23 20),oW 17 true (oC 22 46 #[.tmp 19,.tmp 21] #[23,23]),oQ 23 17 22 false,oM 24 23,oW 24 true (oF 25 53 2 1),oW 24 true (oL 26 23 25),oW 24 true (oF 27 53 3 1),oW 24 true (oL 28 23 27),oW 24 true (oC 29 46 #[.tmp 26,.tmp 28] #[23,23]),oQ 30 24 29 false,oM 31 30,oW 31 true (oF 32 53 2 4),oW 31 true (oL 33 23 32),oW 31 true (oF 34 53 3 4),oW 31 true (oL 35 23 34),oW 31 true (oC 36 46 #[.tmp 33,.tmp 35] #[23,23]),oQ 37 31 36 false,oM 38 37,oW 38 true (oF 39 53 2 5),oW 38 true (oL 40 23 39),oW 38 true (oF 41 53 3 5),oW 38 true (oL 42 23 41),oW 38 true (oC 43 46 #[.tmp 40,.tmp 42] #[23,23]),oQ 44 38 43 false,oG 4 44] [4,9,10,15,16,17,22,23,24,29,30,31,36,37,38,43,44]) .ret))
theorem s70 : TextK Proofs.Tryz.prog 0 70 45 [ResultVar.tmp 4] c70 := .mk' Proofs.Tryz.f70 _ (by kernel_rfl) rfl rfl rfl (by kernel_rfl) rfl (by kernel_rfl)
theorem same_ok (a b : Part) (ha : a.Small) (hb : b.Small) : ACall pg 70 [encP a, encP b] (B (a.same b)) := by
  refine s70.call mo (by simp) fun hxs => ?_
  clear hxs
  unfold c70; dsimp only [oB, oC, oF, oG, oL, oM, oO, oQ, oW, oZ]
  repeat' first | (with_reducible first | refine awRet ?_) | ((with_reducible refine awReg fun K hok hK => ?_); clear hok; (try simp (maxSteps := 10000000) (disch := first | omega | simp) []); (repeat' first | (with_reducible refine hK _ (by simp) ?_) | ((with_reducible refine gdT (fun h => ?_) (fun h => ?_)) <;> (simp (maxSteps := 10000000) (disch := first | omega | simp) [h]; (try simp at h); (try (exfalso; omega)))) | ((with_reducible refine callS' fun K2 hK2 => ?_); (try simp (maxSteps := 10000000) (disch := first | omega | simp) []); (first | refine hK2 _ _ (equal_ok a.ids b.ids ha.ids hb.ids) rfl fun hk9 => ?_ | refine hK2 _ _ (equal_ok a.isr b.isr ha.isr hb.isr) rfl fun hk9 => ?_ | refine hK2 _ _ (equal_ok a.add b.add ha.add hb.add) rfl fun hk9 => ?_ | refine hK2 _ _ (equal_ok a.drop b.drop ha.drop hb.drop) rfl fun hk9 => ?_); clear hk9; clear hK2 K2; (try simp (maxSteps := 10000000) (disch := first | omega | simp) []))) <;> clear hK K) | ((with_reducible refine awCond fun A B hA hB => ?_); simp (maxSteps := 10000000) (disch := first | omega | simp) []; (first | refine ⟨fun h => hA ?_, fun h => hB ?_⟩ | refine hA ?_ | refine hB ?_) <;> (clear hA hB A B; (try (exfalso; omega))))
  all_goals (refine aEnR (aRes [] fun K hK => ?_); simp (maxSteps := 10000000) (disch := first | omega | simp) [Part.same]; refine hK _ ?_ (by simp); clear hK; first | done | (simp (maxSteps := 10000000) (disch := first | omega | simp) [Part.same, *]; done) | (simp (maxSteps := 10000000) (disch := first | omega | simp) [Part.same, *]; omega) | (simp_all [Part.same]; done) | (simp_all [Part.same]; omega))
end
end Go.Am
