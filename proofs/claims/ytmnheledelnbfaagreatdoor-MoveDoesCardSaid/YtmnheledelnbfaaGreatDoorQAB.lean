/- Part of the proof of a law of moving. -/
import Derived.Test.YtmnheledelnbfaaGreatDoorQAA
set_option linter.all false
section
set_option maxRecDepth 100000
set_option maxHeartbeats 0
namespace Go.Am
open Go
noncomputable section
def c57 : SC := (.seq (.reg [oO 2 36 0,oO 3 76 1,oA 4 36,oI 5 0] [2,3,4]) (.seq (.reg [oL 10 36 2,oF 11 76 3 1,oL 12 3 11,oC 13 74 #[.tmp 10,.tmp 12] #[36,3],oM 9 13,oX 14 9 0,oX 15 9 1,oA 6 123,oS 123 6 14,oG 7 15] [2,3,4,6,7,9,13,15]) (.seq (.reg [oM 16 7,oM 17 16,oW 17 true (oF 18 123 6 1),oW 17 true (oL 19 3 18),oW 17 true (oF 20 76 3 2),oW 17 true (oL 21 3 20),oW 17 true (oB 22 .geq 3 19 21 3),oQ 23 17 22 false] [2,3,4,7,9,13,15,16,17,22,23]) (.seq (.cond (.tmp 23) (.seq (.reg [oL 24 36 2,oS 36 4 24,oI 5 11] [4,5]) .ret) .skip) (.seq (.reg [oM 25 7,oM 26 25,oW 26 true (oL 27 36 2),oW 26 true (oF 28 76 3 1),oW 26 true (oL 29 3 28),oW 26 true (oC 30 84 #[.tmp 27,.tmp 29] #[36,3]),oQ 31 26 30 false] [2,3,4,7,9,13,15,25,26,30,31]) (.seq (.cond (.tmp 31) (.seq (.reg [oL 32 36 2,oS 36 4 32,oI 5 10] [4,5]) .ret) .skip) (.seq (.reg [oL 33 36 2,oA 8 36,oS 36 8 33] [2,3,4,8]) (.seq (.reg [oF 34 36 2 0,oL 35 31 34,oF 36 76 3 1,oL 37 3 36,oF 38 76 3 2,oL 39 3 38,oF 40 76 3 13,oL 41 9 40,oD 42 (.build 123 #[(0,.tmp 37),(1,.tmp 39),(2,.tmp 41),(3,.const (.bool true))]),oC 43 85 #[.tmp 35,.tmp 42] #[31,123],oF 44 36 8 0,oS 31 44 43] [4,8]) (.seq (.reg [oL 45 36 8,oS 36 4 45,oI 5 0] [4,5]) .ret)))))))))
theorem s57 : TextK Proofs.Tryz.prog 0 57 46 [ResultVar.cell 4 36, ResultVar.tmp 5] c57 := .mk' Proofs.Tryz.f57 _ (by kernel_rfl) rfl rfl rfl (by kernel_rfl) rfl (by kernel_rfl)
theorem register_ok (m : Image) (r : Record) (hl : m.brokers.length ≤ 1000) : ACall pg 57 [encM m, encR r] (.tup [encM (m.register r).1, I (m.register r).2]) := by
  refine s57.call mo (by simp) fun hxs => ?_
  clear hxs
  unfold c57; dsimp only [oA, oB, oC, oD, oF, oG, oI, oL, oM, oO, oQ, oS, oW, oX]
  repeat' first | (with_reducible first | refine fS ?_ | refine fR ?_ | refine fQ ?_ | refine fT ?_ | refine awRet ?_) | ((with_reducible refine awReg fun K hok hK => ?_); clear hok; (try simp (maxSteps := 10000000) (disch := first | omega | simp) []); (repeat' first | (with_reducible refine hK _ (by simp) ?_) | ((with_reducible refine gdT (fun h => ?_) (fun h => ?_)) <;> (simp (maxSteps := 10000000) (disch := first | omega | simp) [h]; (try simp at h); (try (exfalso; omega)))) | ((first | ((with_reducible refine callS' fun K2 hK2 => ?_); (try simp (maxSteps := 10000000) (disch := first | omega | simp) []); (first | refine hK2 _ _ (broker_ok m r.broker) rfl fun hk9 => ?_ | refine hK2 _ _ (leads_ok m r.broker) rfl fun hk9 => ?_ | refine hK2 _ _ (putBroker_ok m.brokers ⟨r.broker, r.epoch, r.rack, true, false⟩ hl) rfl fun hk9 => ?_); clear hk9; clear hK2 K2) | ((with_reducible refine callF' fun K2 hK2 => ?_); (try simp (maxSteps := 10000000) (disch := first | omega | simp) []); (first | refine hK2 _ _ _ (broker_ok m r.broker) fun _ => ?_ | refine hK2 _ _ _ (leads_ok m r.broker) fun _ => ?_ | refine hK2 _ _ _ (putBroker_ok m.brokers ⟨r.broker, r.epoch, r.rack, true, false⟩ hl) fun _ => ?_); clear hK2 K2)); (try simp (maxSteps := 10000000) (disch := first | omega | simp) []))) <;> clear hK K) | ((with_reducible refine awCond fun A B hA hB => ?_); simp (maxSteps := 10000000) (disch := first | omega | simp) []; (first | refine ⟨fun h => hA ?_, fun h => hB ?_⟩ | refine hA ?_ | refine hB ?_) <;> (clear hA hB A B; (try (exfalso; omega))))
  all_goals
    refine aEnR (aRes [] fun K hK => ?_)
    simp (maxSteps := 10000000) (disch := first | omega | simp)
    refine hK _ ?_ (by simp)
    clear hK
    simp [Image.register, *, -Int.not_lt, -Int.not_le, ← Int.not_lt]
end
end Go.Am
end
section
set_option maxRecDepth 100000
set_option maxHeartbeats 0
namespace Go.Am
open Go
noncomputable section
def c60 : SC := (.seq (.reg [oO 2 36 0,oO 3 76 1,oA 4 36,oI 5 0] [2,3,4]) (.seq (.reg [oF 9 76 3 3,oL 10 3 9,oF 11 36 2 4,oL 12 3 11,oK 13 .add 3 12 1 3,oB 14 .neq 3 10 13 3] [2,3,4,14]) (.seq (.cond (.tmp 14) (.seq (.reg [oL 15 36 2,oS 36 4 15,oI 5 10] [4,5]) .ret) .skip) (.seq (.reg [oL 17 36 2,oF 18 76 3 10,oL 19 9 18,oC 20 65 #[.tmp 17,.tmp 19] #[36,9],oM 16 20,oX 21 16 0,oX 22 16 1,oA 6 51,oS 51 6 21,oG 7 22] [2,3,4,7,16,20,22]) (.seq (.reg [oM 23 7] [2,3,4,7,16,20,22,23]) (.seq (.cond (.tmp 23) (.seq (.reg [oL 24 36 2,oS 36 4 24,oI 5 9] [4,5]) .ret) .skip) (.seq (.reg [oF 25 36 2 1,oL 26 32 25,oN 27 26 32,oK 28 .geq 3 27 256 3] [2,3,4,28]) (.seq (.cond (.tmp 28) (.seq (.reg [oL 29 36 2,oS 36 4 29,oI 5 6] [4,5]) .ret) .skip) (.seq (.reg [oL 30 36 2,oA 8 36,oS 36 8 30] [2,3,4,8]) (.seq (.reg [oF 31 36 8 1,⟨none,.store 32 (.tmp 31) (.const (.slice none 0 0)),none,[]⟩] [2,3,4,8]) (.seq (.reg [oF 32 36 8 1,oL 33 32 32,oF 34 36 2 1,oL 35 32 34,oP 36 #[.tmp 33,.tmp 35] #[32,32],oF 37 36 8 1,oS 32 37 36] [3,4,8]) (.seq (.reg [oF 38 36 8 1,oL 39 32 38,oF 40 76 3 3,oL 41 3 40,oF 42 76 3 10,oL 43 9 42,oD 44 (.build 51 #[(0,.tmp 41),(1,.tmp 43)]),oD 45 (.buildSlice 32 1 #[(0,.tmp 44)]),oP 46 #[.tmp 39,.tmp 45] #[32,32],oF 47 36 8 1,oS 32 47 46] [3,4,8]) (.seq (.reg [oF 48 76 3 3,oL 49 3 48,oF 50 36 8 4,oS 3 50 49] [4,8]) (.seq (.reg [oL 51 36 8,oS 36 4 51,oI 5 0] [4,5]) .ret))))))))))))))
theorem s60 : TextK Proofs.Tryz.prog 0 60 52 [ResultVar.cell 4 36, ResultVar.tmp 5] c60 := .mk' Proofs.Tryz.f60 _ (by kernel_rfl) rfl rfl rfl (by kernel_rfl) rfl (by kernel_rfl)
theorem addTopic_ok (m : Image) (r : Record) : ACall pg 60 [encM m, encR r] (.tup [encM (m.addTopic r).1, I (m.addTopic r).2]) := by
  refine s60.call mo (by simp) fun hxs => ?_
  clear hxs
  unfold c60; dsimp only [oA, oB, oC, oD, oF, oG, oI, oK, oL, oM, oN, oO, oP, oS, oX]
  repeat' first | (with_reducible first | refine fS ?_ | refine fR ?_ | refine fQ ?_ | refine fT ?_ | refine awRet ?_) | ((with_reducible refine awReg fun K hok hK => ?_); clear hok; (try simp (maxSteps := 10000000) (disch := first | omega | simp) []); (repeat' first | (with_reducible refine hK _ (by simp) ?_) | ((with_reducible refine callF' fun K2 hK2 => ?_); (try simp (maxSteps := 10000000) (disch := first | omega | simp) []); (refine hK2 _ _ _ (named_ok m r.name) fun _ => ?_); clear hK2 K2; (try simp (maxSteps := 10000000) (disch := first | omega | simp) []))) <;> clear hK K) | ((with_reducible refine awCond fun A B hA hB => ?_); simp (maxSteps := 10000000) (disch := first | omega | simp) []; (first | refine ⟨fun h => hA ?_, fun h => hB ?_⟩ | refine hA ?_ | refine hB ?_) <;> (clear hA hB A B; (try (exfalso; omega))))
  all_goals (refine aEnR (aRes [true] fun K hK => ?_); simp (maxSteps := 10000000) (disch := first | omega | simp) []; refine hK _ ?_ (by simp); clear hK; (try simp only [Image.addTopic]); ((repeat' split) <;> first | with_reducible rfl | contradiction | (exfalso; omega) | (simp []; done) | grind))
end
end Go.Am
end
