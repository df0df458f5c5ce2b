/- Part of the proof of a law of the image. -/
import Derived.Test.YtfgfjgbggkdobaaGreatQDG
import Derived.Test.YtfgfjgbggkdobaaGreatQIB
import Derived.Test.YtfgfjgbggkdobaaGreatQW0
set_option linter.all false
section
set_option maxRecDepth 100000
set_option maxHeartbeats 0
namespace Go.Am
open Go
noncomputable section
def c54 : SC := (.seq (.reg [oO 2 30 0,oO 3 37 1,oI 4 0,oD 5 (.assign (.const .nilIface))] [2,3,6,8,12,13,20,33,34]) (.seq (.reg [oL 9 30 2,oF 10 37 3 1,oL 11 3 10,oC 12 33 #[.tmp 9,.tmp 11] #[30,3],oM 8 12,oX 13 8 0,oX 14 8 1,oG 6 13,oG 7 14] [2,3,6,7,8,12,13,14,20,33,34]) (.seq (.block 0 (.seq (.reg [oM 16 7,oD 17 (.unOp .not 4 (.tmp 16)),oG 15 17] [2,3,6,8,12,13,15,17,20,33,34]) (.seq (.cond (.tmp 15) (.seq (.reg [oF 18 37 3 1,oL 19 3 18,oD 20 (.call { callee := .value (.func 39),args := #[.const (.string ⟨#[98,114,111,107,101,114]⟩),.tmp 19,.const (.int .i64 8)],argTypes := #[9,3,55] }),oI 4 0,oG 5 20] [4,5,6,8,12,13,20,33,34]) .ret) (.seq (.reg [oU (oF 22 30 2 0) [24,28,29],oU (oL 23 25 22) [24,28,29],oU (oM 24 6) [22,23,28,29],oU (oJ 25 25 23 24) [28,29],oU (oF 26 51 25 1) [28,29],oU (oL 27 3 26) [28,29],oU (oF 28 37 3 2) [22,23,24,25,26,27],oU (oL 29 3 28) [22,23,24,25,26,27],oB 30 .neq 3 27 29 3,oG 21 30] [3,6,8,12,13,20,21,30,33,34]) (.seq (.cond (.tmp 21) (.seq (.reg [oF 31 37 3 1,oL 32 3 31,oD 33 (.call { callee := .value (.func 39),args := #[.const (.string ⟨#[98,114,111,107,101,114]⟩),.tmp 32,.const (.int .i64 11)],argTypes := #[9,3,55] }),oI 4 0,oG 5 33] [4,5,6,8,12,13,20,33,34]) .ret) .skip) .skip))) .skip))) (.seq (.reg [oM 34 6,oG 4 34,oD 5 (.assign (.const .nilIface))] [4,5,6,8,12,13,20,33,34]) .ret))))
theorem s54 : TextK Proofs.Tryz.prog 0 54 35 [ResultVar.tmp 4, ResultVar.tmp 5] c54 := .mk' Proofs.Tryz.f54 _ (by kernel_rfl) rfl rfl rfl (by kernel_rfl) rfl (by kernel_rfl)
def knownE (m : Image) (r : Record) : Option Bad :=
  match m.broker r.broker with
  | none => some (brk, r.broker, 8)
  | some b => if b.epoch ≠ r.epoch then some (brk, r.broker, 11) else none
theorem known_ok (m : Image) (r : Record) (h : BrPre m r) : ACall pg 54 [encM m, encR r] (.tup [I (if (knownE m r).isSome then 0 else (posOf Broker.id m.brokers r.broker : Int)), errO (knownE m r)]) := by
  refine s54.call mo (by simp) fun hxs => ?_
  clear hxs
  have hb := ibroker_ok m r.broker h.bs h.br (by have := h.bl; omega) h.bn
  have hbl := h.bl
  unfold c54 knownE; dsimp only [oB, oC, oD, oF, oG, oI, oJ, oL, oM, oO, oU, oX]
  cases hf : m.broker r.broker with
  | none =>
    rw [hf] at hb
    simp only [Option.isSome_some, if_true]
    have hpl := pos_le Broker.id m.brokers r.broker
    generalize posOf Broker.id m.brokers r.broker = i at *
    have G := @new_ok
    refine wk ?_
    all_goals exact fn1
  | some b =>
    rw [hf] at hb
    obtain ⟨hi, hti, hid⟩ := pos_hit (f := Broker.id) h.bs hf
    generalize posOf Broker.id m.brokers r.broker = i at *
    subst hti
    have hil : i < m.brokers.length := hi
    by_cases he : m.brokers[i].epoch ≠ r.epoch
    · simp only [if_pos he, Option.isSome_some, if_true]
      have G := @new_ok
      have F := And.intro hil he
      refine wkF ?_
      all_goals exact fn1
    · simp only [if_neg he, Option.isSome_none, Bool.false_eq_true, if_false]
      have q1 : (m.brokers[i].epoch != r.epoch) = false := by simpa using he
      have F := And.intro hil q1
      refine wkF ?_
      all_goals exact fn1
end
end Go.Am
end
section
set_option maxRecDepth 100000
set_option maxHeartbeats 0
namespace Go.Am
open Go
noncomputable section
def c55 : SC := (.seq (.reg [oO 2 47 0,oZ 3 false] [1,2]) (.seq (.reg [oU (oF 4 47 2 0) [6,7,8,9],oU (oL 5 35 4) [6,7,8,9],oU (oL 6 103 1) [4,5],oU (oD 7 (.nilCheck (.tmp 6))) [4,5],oU (oF 8 51 7 0) [4,5],oU (oL 9 3 8) [4,5],oC 10 56 #[.tmp 5,.tmp 9] #[35,3],oG 3 10] [3,10]) .ret))
theorem s55 : TextK Proofs.Tryz.prog 0 55 11 [ResultVar.tmp 3] c55 := .mk' Proofs.Tryz.f55 _ (by kernel_rfl) rfl rfl rfl (by kernel_rfl) rfl (by kernel_rfl)
def c57 : SC := (.seq (.reg [oO 2 65 0,oZ 3 false] [1,2]) (.seq (.reg [oF 4 65 2 2,oL 5 63 4,oL 6 82 1,oC 7 37 #[.tmp 5,.tmp 6] #[63,82],oG 3 7] [3,7]) .ret))
theorem s57 : TextK Proofs.Tryz.prog 0 57 8 [ResultVar.tmp 3] c57 := .mk' Proofs.Tryz.f57 _ (by kernel_rfl) rfl rfl rfl (by kernel_rfl) rfl (by kernel_rfl)
abbrev usedV (b : Broker) : V := .clo 55 [.ip [.ip (encB b).cells 0] 0]
theorem used1_ok (p : Part) (b : Broker) (hl : p.ids.length ≤ 1000000) : ACall pg 55 ([encP p] ++ [.ip [.ip (encB b).cells 0] 0]) (B (p.ids.contains b.id)) := by
  refine s55.call mo (by simp) fun hxs => ?_
  clear hxs
  unfold c55; dsimp only [oC, oD, oF, oG, oL, oO, oU, oZ]
  have h := contains_ok p.ids b.id hl
  refine wk ?_
  exact fn0
theorem used2_ok (t : Topic) (b : Broker) (hl : t.parts.length ≤ 1000000) (hp : ∀ p ∈ t.parts, p.ids.length ≤ 1000000) : ACall pg 57 ([encT t] ++ [.ip [usedV b] 0]) (B (t.any fun p => p.ids.contains b.id)) := by
  refine s57.call mo (by simp) fun hxs => ?_
  clear hxs
  unfold c57; dsimp only [oC, oF, oG, oL, oO, oZ]
  have h := containsFuncP_ok t.parts 55 [.ip [.ip (encB b).cells 0] 0] (by simp [pureL, pureB]) (fun p => p.ids.contains b.id) (fun x hx => used1_ok x b (hp x hx)) hl
  refine wk ?_
  (refine aEnR (aRes [] fun K hK => ?_); simp (maxSteps := 10000000) (disch := first | omega | simp) [Topic.any]; refine hK _ ?_ (by simp); clear hK; first | done | (simp (maxSteps := 10000000) (disch := first | omega | simp) [Topic.any, *]; done) | (simp (maxSteps := 10000000) (disch := first | omega | simp) [Topic.any, *]; omega) | (simp_all [Topic.any]; done) | (simp_all [Topic.any]; omega))
theorem brok_8 (m : Image) (r : Record) (h : BrPre m r) (hk : r.kind ≠ 2) (hf : m.broker r.broker = none) : TurnsE pg 23 m r (m, 8) := by
  have hb := known_ok m r h
  rw [show knownE m r = some (brk, r.broker, 8) by simp [knownE, hf]] at hb
  refine turns_E ⟨some (brk, r.broker, 8), cellsO m, ?_, pv_cells m, rfl⟩
  refine s23.callM (os := [.own (cellsO m)]) mo (by simp) fun ho hx => ?_
  clear ho hx
  unfold c23; dsimp only [oA, oB, oC, oD, oF, oG, oJ, oK, oL, oM, oO, oR, oS, oU, oW, oX]
  have q1 : (r.kind == 2) = false := by simp [hk]
  have F := q1
  refine wkF ?_
  exact fn1
theorem brok_11 (m : Image) (r : Record) (h : BrPre m r) (hk : r.kind ≠ 2) {b : Broker} (hf : m.broker r.broker = some b) (he : b.epoch ≠ r.epoch) : TurnsE pg 23 m r (m, 11) := by
  have hb := known_ok m r h
  rw [show knownE m r = some (brk, r.broker, 11) by simp [knownE, hf, he]] at hb
  refine turns_E ⟨some (brk, r.broker, 11), cellsO m, ?_, pv_cells m, rfl⟩
  refine s23.callM (os := [.own (cellsO m)]) mo (by simp) fun ho hx => ?_
  clear ho hx
  unfold c23; dsimp only [oA, oB, oC, oD, oF, oG, oJ, oK, oL, oM, oO, oR, oS, oU, oW, oX]
  have q1 : (r.kind == 2) = false := by simp [hk]
  have F := q1
  refine wkF ?_
  exact fn1
theorem brok_3a (m : Image) (r : Record) (h : BrPre m r) (hk : r.kind = 3) {b : Broker} (hf : m.broker r.broker = some b) (he : b.epoch = r.epoch) (hfe : b.fenced = true) : TurnsE pg 23 m r (m, 10) := by
  have hb := known_ok m r h
  rw [show knownE m r = none by simp [knownE, hf, he]] at hb
  simp only [Option.isSome_none, Bool.false_eq_true, if_false, errO_none] at hb
  have hbl := h.bl
  obtain ⟨hi, hti, hid⟩ := pos_hit (f := Broker.id) h.bs hf
  generalize posOf Broker.id m.brokers r.broker = i at *
  subst hti
  have hil : i < m.brokers.length := hi
  have hn := new_ok brk r.broker 10
  have q1 : (r.kind == 2) = false := by simp [hk]
  have q3 : (r.kind == 3) = true := by simp [hk]
  have q4 : (r.kind == 4) = false := by simp [hk]
  have q5 : (r.kind == 5) = false := by simp [hk]
  have q6 : (r.kind == 6) = false := by simp [hk]
  refine turns_E ⟨some (brk, r.broker, 10), cellsO m, ?_, pv_cells m, rfl⟩
  refine s23.callM (os := [.own (cellsO m)]) mo (by simp) fun ho hx => ?_
  clear ho hx
  unfold c23; dsimp only [oA, oB, oC, oD, oF, oG, oJ, oK, oL, oM, oO, oR, oS, oU, oW, oX]
  have F := And.intro q1 (And.intro q3 (And.intro q4 (And.intro q5 (And.intro q6 (And.intro hil hfe)))))
  refine wkF ?_
  exact fn1
theorem brok_3b (m : Image) (r : Record) (h : BrPre m r) (hk : r.kind = 3) {b : Broker} (hf : m.broker r.broker = some b) (he : b.epoch = r.epoch) (hfe : b.fenced = false) (hld : (m.any fun p => p.leader == b.id) = true) : TurnsE pg 23 m r (m, 10) := by
  have hb := known_ok m r h
  rw [show knownE m r = none by simp [knownE, hf, he]] at hb
  simp only [Option.isSome_none, Bool.false_eq_true, if_false, errO_none] at hb
  have hbl := h.bl
  obtain ⟨hi, hti, hid⟩ := pos_hit (f := Broker.id) h.bs hf
  generalize posOf Broker.id m.brokers r.broker = i at *
  subst hti
  have hil : i < m.brokers.length := hi
  have hn := new_ok brk r.broker 10
  have hle := iLeads_ok m m.brokers[i].id (by have := h.tl; omega) (fun t ht => by have := h.pl t ht; omega)
  rw [hld] at hle
  have q1 : (r.kind == 2) = false := by simp [hk]
  have q3 : (r.kind == 3) = true := by simp [hk]
  have q4 : (r.kind == 4) = false := by simp [hk]
  have q5 : (r.kind == 5) = false := by simp [hk]
  have q6 : (r.kind == 6) = false := by simp [hk]
  refine turns_E ⟨some (brk, r.broker, 10), cellsO m, ?_, pv_cells m, rfl⟩
  refine s23.callM (os := [.own (cellsO m)]) mo (by simp) fun ho hx => ?_
  clear ho hx
  unfold c23; dsimp only [oA, oB, oC, oD, oF, oG, oJ, oK, oL, oM, oO, oR, oS, oU, oW, oX]
  have F := And.intro q1 (And.intro q3 (And.intro q4 (And.intro q5 (And.intro q6 (And.intro hil hfe)))))
  refine wkF ?_
  exact fn1
theorem brok_3c (m : Image) (r : Record) (h : BrPre m r) (hk : r.kind = 3) {b : Broker} (hf : m.broker r.broker = some b) (he : b.epoch = r.epoch) (hfe : b.fenced = false) (hld : (m.any fun p => p.leader == b.id) = false) : TurnsE pg 23 m r ({ m with brokers := putB m.brokers ⟨b.id, b.epoch, b.rack, true, b.leaving⟩ }, 0) := by
  have hb := known_ok m r h
  rw [show knownE m r = none by simp [knownE, hf, he]] at hb
  simp only [Option.isSome_none, Bool.false_eq_true, if_false, errO_none] at hb
  have hbl := h.bl
  obtain ⟨hi, hti, hid⟩ := pos_hit (f := Broker.id) h.bs hf
  have hpo := putB_old (b := ⟨b.id, b.epoch, b.rack, true, b.leaving⟩) h.bs hi (by rw [hti])
  generalize posOf Broker.id m.brokers r.broker = i at *
  subst hti
  have hil : i < m.brokers.length := hi
  have hn := new_ok brk r.broker 10
  have hle := iLeads_ok m m.brokers[i].id (by have := h.tl; omega) (fun t ht => by have := h.pl t ht; omega)
  rw [hld] at hle
  have q1 : (r.kind == 2) = false := by simp [hk]
  have q3 : (r.kind == 3) = true := by simp [hk]
  have q4 : (r.kind == 4) = false := by simp [hk]
  have q5 : (r.kind == 5) = false := by simp [hk]
  have q6 : (r.kind == 6) = false := by simp [hk]
  refine turns_E ⟨none, [.uq (mixM encB encB m.brokers i (encB (⟨m.brokers[i].id, m.brokers[i].epoch, m.brokers[i].rack, true, m.brokers[i].leaving⟩))), .uq (m.topics.map encTO), .uq (m.configs.map encC), .uq (m.done.map encD), I m.last], ?_, ?_, rfl⟩
  · refine s23.callM (os := [.own (cellsO m)]) mo (by simp) fun ho hx => ?_
    clear ho hx
    rw [cellsO_eq, ← mixL_same' encB m.brokers i, encB_eq]
    unfold c23; dsimp only [oA, oB, oC, oD, oF, oG, oJ, oK, oL, oM, oO, oR, oS, oU, oW, oX]
    have pvm : pvL (mixL encB encB m.brokers i) = m.brokers.map encB := by rw [mixL_same', pvL_B]
    clear hpo
    have F := And.intro q1 (And.intro q3 (And.intro q4 (And.intro q5 (And.intro q6 (And.intro hil (And.intro hfe pvm))))))
    refine wkF ?_
    all_goals exact fn0
  · have e : pvL (mixM encB encB m.brokers i (encB (⟨m.brokers[i].id, m.brokers[i].epoch, m.brokers[i].rack, true, m.brokers[i].leaving⟩))) = (putB m.brokers (⟨m.brokers[i].id, m.brokers[i].epoch, m.brokers[i].rack, true, m.brokers[i].leaving⟩)).map encB := by
      rw [hpo]
      simp only [mixM, pvL_append, pvL, pvL_B, List.map_append, List.map_cons]
      congr 2
    simp only [pvL, pv, e, cellsM_eq, pvL_TO', pvL_C, pvL_D]
theorem brok_4a (m : Image) (r : Record) (h : BrPre m r) (hk : r.kind = 4) {b : Broker} (hf : m.broker r.broker = some b) (he : b.epoch = r.epoch) (hfe : b.fenced = false) : TurnsE pg 23 m r (m, 10) := by
  have hb := known_ok m r h
  rw [show knownE m r = none by simp [knownE, hf, he]] at hb
  simp only [Option.isSome_none, Bool.false_eq_true, if_false, errO_none] at hb
  have hbl := h.bl
  obtain ⟨hi, hti, hid⟩ := pos_hit (f := Broker.id) h.bs hf
  generalize posOf Broker.id m.brokers r.broker = i at *
  subst hti
  have hil : i < m.brokers.length := hi
  have hn := new_ok brk r.broker 10
  have q1 : (r.kind == 2) = false := by simp [hk]
  have q3 : (r.kind == 3) = false := by simp [hk]
  have q4 : (r.kind == 4) = true := by simp [hk]
  have q5 : (r.kind == 5) = false := by simp [hk]
  have q6 : (r.kind == 6) = false := by simp [hk]
  refine turns_E ⟨some (brk, r.broker, 10), cellsO m, ?_, pv_cells m, rfl⟩
  refine s23.callM (os := [.own (cellsO m)]) mo (by simp) fun ho hx => ?_
  clear ho hx
  unfold c23; dsimp only [oA, oB, oC, oD, oF, oG, oJ, oK, oL, oM, oO, oR, oS, oU, oW, oX]
  have F := And.intro q1 (And.intro q3 (And.intro q4 (And.intro q5 (And.intro q6 (And.intro hil hfe)))))
  refine wkF ?_
  exact fn1
theorem brok_4b (m : Image) (r : Record) (h : BrPre m r) (hk : r.kind = 4) {b : Broker} (hf : m.broker r.broker = some b) (he : b.epoch = r.epoch) (hfe : b.fenced = true) : TurnsE pg 23 m r ({ m with brokers := putB m.brokers ⟨b.id, b.epoch, b.rack, false, false⟩ }, 0) := by
  have hb := known_ok m r h
  rw [show knownE m r = none by simp [knownE, hf, he]] at hb
  simp only [Option.isSome_none, Bool.false_eq_true, if_false, errO_none] at hb
  have hbl := h.bl
  obtain ⟨hi, hti, hid⟩ := pos_hit (f := Broker.id) h.bs hf
  have hpo := putB_old (b := ⟨b.id, b.epoch, b.rack, false, false⟩) h.bs hi (by rw [hti])
  generalize posOf Broker.id m.brokers r.broker = i at *
  subst hti
  have hil : i < m.brokers.length := hi
  have hn := new_ok brk r.broker 10
  have q1 : (r.kind == 2) = false := by simp [hk]
  have q3 : (r.kind == 3) = false := by simp [hk]
  have q4 : (r.kind == 4) = true := by simp [hk]
  have q5 : (r.kind == 5) = false := by simp [hk]
  have q6 : (r.kind == 6) = false := by simp [hk]
  refine turns_E ⟨none, [.uq (mixM encB encB m.brokers i (encB (⟨m.brokers[i].id, m.brokers[i].epoch, m.brokers[i].rack, false, false⟩))), .uq (m.topics.map encTO), .uq (m.configs.map encC), .uq (m.done.map encD), I m.last], ?_, ?_, rfl⟩
  · refine s23.callM (os := [.own (cellsO m)]) mo (by simp) fun ho hx => ?_
    clear ho hx
    rw [cellsO_eq, ← mixL_same' encB m.brokers i, encB_eq]
    unfold c23; dsimp only [oA, oB, oC, oD, oF, oG, oJ, oK, oL, oM, oO, oR, oS, oU, oW, oX]
    have pvm : pvL (mixL encB encB m.brokers i) = m.brokers.map encB := by rw [mixL_same', pvL_B]
    clear hpo
    repeat' first | (with_reducible first | refine thN ?_ | refine thR ?_ | refine thE ?_ | refine inN ?_ | refine inR ?_ | refine inH ?_ | refine fF ?_ | refine fS ?_ | refine fR ?_ | refine fQ ?_ | refine fC ?_ | refine fB ?_ | refine fL ?_ | refine fE ?_ | refine fT ?_ | refine awBlock ?_ | refine awExit ?_ | refine awRet ?_ | refine awSkip ?_ | refine fA ?_ | refine awAlt1 ?_ | refine awAlt ?_ ?_ | refine inM (by decide) ?_) | ((with_reducible refine awReg fun K hok hK => ?_); clear hok; (try simp (maxSteps := 10000000) (disch := first | omega | simp) [isConst, q1, q3, q4, q5, q6, hil, hfe, pvm]); (repeat' first | (with_reducible refine hK _ (by simp) ?_) | ((first | ((with_reducible refine callS' fun K2 hK2 => ?_); (try simp (maxSteps := 10000000) (disch := first | omega | simp) [isConst, q1, q3, q4, q5, q6, hil, hfe, pvm]); (first | refine hK2 _ _ hb rfl fun hk9 => ?_ | refine hK2 _ _ hn rfl fun hk9 => ?_); clear hk9; clear hK2 K2) | ((with_reducible refine sideQ' ?_ ?_ fun K2 hK2 => ?_); exact rfl; exact rfl; (try simp (maxSteps := 10000000) (disch := first | omega | simp) [isConst, q1, q3, q4, q5, q6, hil, hfe, pvm]); with_reducible refine hK2 _ _ ?_; clear hK2 K2) | ((with_reducible refine side' ?_ fun K2 hK2 => ?_); exact rfl; (try simp (maxSteps := 10000000) (disch := first | omega | simp) [isConst, q1, q3, q4, q5, q6, hil, hfe, pvm]); refine hK2 _ _ (by simp) ?_; clear hK2 K2)); (try simp (maxSteps := 10000000) (disch := first | omega | simp) [isConst, q1, q3, q4, q5, q6, hil, hfe, pvm]))) <;> clear hK K) | ((with_reducible refine awCond fun A B hA hB => ?_); simp (maxSteps := 10000000) (disch := first | omega | simp) [isConst, q1, q3, q4, q5, q6, hil, hfe, pvm]; (first | refine ⟨fun h => hA ?_, fun h => hB ?_⟩ | refine hA ?_ | refine hB ?_) <;> (clear hA hB A B; (try (exfalso; omega))))
    all_goals exact fn0
  · have e : pvL (mixM encB encB m.brokers i (encB (⟨m.brokers[i].id, m.brokers[i].epoch, m.brokers[i].rack, false, false⟩))) = (putB m.brokers (⟨m.brokers[i].id, m.brokers[i].epoch, m.brokers[i].rack, false, false⟩)).map encB := by
      rw [hpo]
      simp only [mixM, pvL_append, pvL, pvL_B, List.map_append, List.map_cons]
      congr 2
    simp only [pvL, pv, e, cellsM_eq, pvL_TO', pvL_C, pvL_D]
theorem brok_5a (m : Image) (r : Record) (h : BrPre m r) (hk : r.kind = 5) {b : Broker} (hf : m.broker r.broker = some b) (he : b.epoch = r.epoch) (hlv : b.leaving = true) : TurnsE pg 23 m r (m, 10) := by
  have hb := known_ok m r h
  rw [show knownE m r = none by simp [knownE, hf, he]] at hb
  simp only [Option.isSome_none, Bool.false_eq_true, if_false, errO_none] at hb
  have hbl := h.bl
  obtain ⟨hi, hti, hid⟩ := pos_hit (f := Broker.id) h.bs hf
  generalize posOf Broker.id m.brokers r.broker = i at *
  subst hti
  have hil : i < m.brokers.length := hi
  have hn := new_ok brk r.broker 10
  have q1 : (r.kind == 2) = false := by simp [hk]
  have q3 : (r.kind == 3) = false := by simp [hk]
  have q4 : (r.kind == 4) = false := by simp [hk]
  have q5 : (r.kind == 5) = true := by simp [hk]
  have q6 : (r.kind == 6) = false := by simp [hk]
  refine turns_E ⟨some (brk, r.broker, 10), cellsO m, ?_, pv_cells m, rfl⟩
  refine s23.callM (os := [.own (cellsO m)]) mo (by simp) fun ho hx => ?_
  clear ho hx
  unfold c23; dsimp only [oA, oB, oC, oD, oF, oG, oJ, oK, oL, oM, oO, oR, oS, oU, oW, oX]
  have F := And.intro q1 (And.intro q3 (And.intro q4 (And.intro q5 (And.intro q6 (And.intro hil hlv)))))
  refine wkF ?_
  exact fn1
theorem brok_5b (m : Image) (r : Record) (h : BrPre m r) (hk : r.kind = 5) {b : Broker} (hf : m.broker r.broker = some b) (he : b.epoch = r.epoch) (hlv : b.leaving = false) (hfe : b.fenced = true) : TurnsE pg 23 m r (m, 10) := by
  have hb := known_ok m r h
  rw [show knownE m r = none by simp [knownE, hf, he]] at hb
  simp only [Option.isSome_none, Bool.false_eq_true, if_false, errO_none] at hb
  have hbl := h.bl
  obtain ⟨hi, hti, hid⟩ := pos_hit (f := Broker.id) h.bs hf
  generalize posOf Broker.id m.brokers r.broker = i at *
  subst hti
  have hil : i < m.brokers.length := hi
  have hn := new_ok brk r.broker 10
  have q1 : (r.kind == 2) = false := by simp [hk]
  have q3 : (r.kind == 3) = false := by simp [hk]
  have q4 : (r.kind == 4) = false := by simp [hk]
  have q5 : (r.kind == 5) = true := by simp [hk]
  have q6 : (r.kind == 6) = false := by simp [hk]
  refine turns_E ⟨some (brk, r.broker, 10), cellsO m, ?_, pv_cells m, rfl⟩
  refine s23.callM (os := [.own (cellsO m)]) mo (by simp) fun ho hx => ?_
  clear ho hx
  unfold c23; dsimp only [oA, oB, oC, oD, oF, oG, oJ, oK, oL, oM, oO, oR, oS, oU, oW, oX]
  have F := And.intro q1 (And.intro q3 (And.intro q4 (And.intro q5 (And.intro q6 (And.intro hil (And.intro hlv hfe))))))
  refine wkF ?_
  exact fn1
theorem brok_5c (m : Image) (r : Record) (h : BrPre m r) (hk : r.kind = 5) {b : Broker} (hf : m.broker r.broker = some b) (he : b.epoch = r.epoch) (hlv : b.leaving = false) (hfe : b.fenced = false) : TurnsE pg 23 m r ({ m with brokers := putB m.brokers ⟨b.id, b.epoch, b.rack, false, true⟩ }, 0) := by
  have hb := known_ok m r h
  rw [show knownE m r = none by simp [knownE, hf, he]] at hb
  simp only [Option.isSome_none, Bool.false_eq_true, if_false, errO_none] at hb
  have hbl := h.bl
  obtain ⟨hi, hti, hid⟩ := pos_hit (f := Broker.id) h.bs hf
  have hpo := putB_old (b := ⟨b.id, b.epoch, b.rack, false, true⟩) h.bs hi (by rw [hti])
  generalize posOf Broker.id m.brokers r.broker = i at *
  subst hti
  have hil : i < m.brokers.length := hi
  have hn := new_ok brk r.broker 10
  have q1 : (r.kind == 2) = false := by simp [hk]
  have q3 : (r.kind == 3) = false := by simp [hk]
  have q4 : (r.kind == 4) = false := by simp [hk]
  have q5 : (r.kind == 5) = true := by simp [hk]
  have q6 : (r.kind == 6) = false := by simp [hk]
  refine turns_E ⟨none, [.uq (mixM encB encB m.brokers i (encB (⟨m.brokers[i].id, m.brokers[i].epoch, m.brokers[i].rack, false, true⟩))), .uq (m.topics.map encTO), .uq (m.configs.map encC), .uq (m.done.map encD), I m.last], ?_, ?_, rfl⟩
  · refine s23.callM (os := [.own (cellsO m)]) mo (by simp) fun ho hx => ?_
    clear ho hx
    rw [cellsO_eq, ← mixL_same' encB m.brokers i, encB_eq]
    unfold c23; dsimp only [oA, oB, oC, oD, oF, oG, oJ, oK, oL, oM, oO, oR, oS, oU, oW, oX]
    have pvm : pvL (mixL encB encB m.brokers i) = m.brokers.map encB := by rw [mixL_same', pvL_B]
    clear hpo
    have F := And.intro q1 (And.intro q3 (And.intro q4 (And.intro q5 (And.intro q6 (And.intro hil (And.intro hlv (And.intro hfe pvm)))))))
    refine wkF ?_
    all_goals exact fn0
  · have e : pvL (mixM encB encB m.brokers i (encB (⟨m.brokers[i].id, m.brokers[i].epoch, m.brokers[i].rack, false, true⟩))) = (putB m.brokers (⟨m.brokers[i].id, m.brokers[i].epoch, m.brokers[i].rack, false, true⟩)).map encB := by
      rw [hpo]
      simp only [mixM, pvL_append, pvL, pvL_B, List.map_append, List.map_cons]
      congr 2
    simp only [pvL, pv, e, cellsM_eq, pvL_TO', pvL_C, pvL_D]
theorem brok_6a (m : Image) (r : Record) (h : BrPre m r) (hpi : ∀ t ∈ m.topics, ∀ p ∈ t.parts, p.ids.length ≤ 1000000) (hk : r.kind = 6) {b : Broker} (hf : m.broker r.broker = some b) (he : b.epoch = r.epoch) (hus : (m.any fun p => p.ids.contains b.id) = true) : TurnsE pg 23 m r (m, 10) := by
  have hb := known_ok m r h
  rw [show knownE m r = none by simp [knownE, hf, he]] at hb
  simp only [Option.isSome_none, Bool.false_eq_true, if_false, errO_none] at hb
  have hbl := h.bl
  obtain ⟨hi, hti, hid⟩ := pos_hit (f := Broker.id) h.bs hf
  generalize posOf Broker.id m.brokers r.broker = i at *
  subst hti
  have hil : i < m.brokers.length := hi
  have hn := new_ok brk r.broker 10
  have hus2 := containsFuncT_ok m.topics 57 [.ip [usedV m.brokers[i]] 0] (by simp [pureL, pureB]) (fun t => t.any fun p => p.ids.contains m.brokers[i].id) (fun t ht => used2_ok t m.brokers[i] (by have := h.pl t ht; omega) (hpi t ht)) (by have := h.tl; omega)
  rw [show (m.topics.any fun t => t.any fun p => p.ids.contains m.brokers[i].id) = true from hus] at hus2
  simp only [usedV, encB_eq, cells_agg] at hus2
  have q1 : (r.kind == 2) = false := by simp [hk]
  have q3 : (r.kind == 3) = false := by simp [hk]
  have q4 : (r.kind == 4) = false := by simp [hk]
  have q5 : (r.kind == 5) = false := by simp [hk]
  have q6 : (r.kind == 6) = true := by simp [hk]
  refine turns_E ⟨some (brk, r.broker, 10), cellsO m, ?_, pv_cells m, rfl⟩
  refine s23.callM (os := [.own (cellsO m)]) mo (by simp) fun ho hx => ?_
  clear ho hx
  unfold c23; dsimp only [oA, oB, oC, oD, oF, oG, oJ, oK, oL, oM, oO, oR, oS, oU, oW, oX]
  have F := And.intro q1 (And.intro q3 (And.intro q4 (And.intro q5 (And.intro q6 hil))))
  refine wkF ?_
  exact fn1
theorem brok_6b (m : Image) (r : Record) (h : BrPre m r) (hpi : ∀ t ∈ m.topics, ∀ p ∈ t.parts, p.ids.length ≤ 1000000) (hk : r.kind = 6) {b : Broker} (hf : m.broker r.broker = some b) (he : b.epoch = r.epoch) (hus : (m.any fun p => p.ids.contains b.id) = false) : TurnsE pg 23 m r ({ m with brokers := m.brokers.filter fun x => x.id != b.id }, 0) := by
  have hb := known_ok m r h
  rw [show knownE m r = none by simp [knownE, hf, he]] at hb
  simp only [Option.isSome_none, Bool.false_eq_true, if_false, errO_none] at hb
  have hbl := h.bl
  obtain ⟨hi, hti, hid⟩ := pos_hit (f := Broker.id) h.bs hf
  have hfl := (hit_filters (f := Broker.id) h.bs hi (hti ▸ hid)).2.2.1
  generalize posOf Broker.id m.brokers r.broker = i at *
  subst hti
  have hil : i < m.brokers.length := hi
  have hn := new_ok brk r.broker 10
  have hus2 := containsFuncT_ok m.topics 57 [.ip [usedV m.brokers[i]] 0] (by simp [pureL, pureB]) (fun t => t.any fun p => p.ids.contains m.brokers[i].id) (fun t ht => used2_ok t m.brokers[i] (by have := h.pl t ht; omega) (hpi t ht)) (by have := h.tl; omega)
  rw [show (m.topics.any fun t => t.any fun p => p.ids.contains m.brokers[i].id) = false from hus] at hus2
  simp only [usedV, encB_eq, cells_agg] at hus2
  have q1 : (r.kind == 2) = false := by simp [hk]
  have q3 : (r.kind == 3) = false := by simp [hk]
  have q4 : (r.kind == 4) = false := by simp [hk]
  have q5 : (r.kind == 5) = false := by simp [hk]
  have q6 : (r.kind == 6) = true := by simp [hk]
  have hd := delB_ok (m.brokers.map encB) i (by simpa using hi) (by intro y hy; obtain ⟨t, _, rfl⟩ := List.mem_map.1 hy; rfl)
  refine turns_E ⟨none, [.sl (pvL ((m.brokers.map encB).take i ++ (m.brokers.map encB).drop (i + 1))), .uq (m.topics.map encTO), .uq (m.configs.map encC), .uq (m.done.map encD), I m.last], ?_, ?_, rfl⟩
  · refine s23.callM (os := [.own (cellsO m)]) mo (by simp) fun ho hx => ?_
    clear ho hx
    unfold c23; dsimp only [oA, oB, oC, oD, oF, oG, oJ, oK, oL, oM, oO, oR, oS, oU, oW, oX]
    clear hfl
    have F := And.intro q1 (And.intro q3 (And.intro q4 (And.intro q5 (And.intro q6 hil))))
    refine wkF ?_
    exact fn0
  · have e : (m.brokers.take i ++ m.brokers.drop (i + 1)) = m.brokers.filter fun x => x.id != m.brokers[i].id := by rw [← hfl, hid]
    simp only [pvL, pv, pvL_append, pvL_take, pvL_drop, pvL_B, cellsM_eq, pvL_TO', pvL_C, pvL_D, ← List.map_take, ← List.map_drop, ← List.map_append, e]
theorem ibrokerRec_ok (m : Image) (r : Record) (h : BrPre m r) (hpi : ∀ t ∈ m.topics, ∀ p ∈ t.parts, p.ids.length ≤ 1000000) (hk : r.kind = 3 ∨ r.kind = 4 ∨ r.kind = 5 ∨ r.kind = 6) : TurnsE pg 23 m r (m.brokerRec r) := by
  unfold Image.brokerRec
  have hk2 : r.kind ≠ 2 := by omega
  cases hf : m.broker r.broker with
  | none => exact brok_8 m r h hk2 hf
  | some b =>
    simp only
    by_cases he : b.epoch ≠ r.epoch
    · rw [if_pos he]; exact brok_11 m r h hk2 hf he
    rw [if_neg he]
    have he : b.epoch = r.epoch := by simpa using he
    by_cases k3 : r.kind = 3
    · rw [if_pos k3]
      cases hfe : b.fenced
      · cases hld : (m.any fun p => p.leader == b.id)
        · exact brok_3c m r h k3 hf he hfe hld
        · exact brok_3b m r h k3 hf he hfe hld
      · exact brok_3a m r h k3 hf he hfe
    rw [if_neg k3]
    by_cases k4 : r.kind = 4
    · rw [if_pos k4]
      cases hfe : b.fenced
      · exact brok_4a m r h k4 hf he hfe
      · exact brok_4b m r h k4 hf he hfe
    rw [if_neg k4]
    by_cases k5 : r.kind = 5
    · rw [if_pos k5]
      cases hlv : b.leaving
      · cases hfe : b.fenced
        · exact brok_5c m r h k5 hf he hlv hfe
        · exact brok_5b m r h k5 hf he hlv hfe
      · simp only [Bool.or_true, if_true]; exact brok_5a m r h k5 hf he hlv
    rw [if_neg k5]
    have k6 : r.kind = 6 := by omega
    cases hus : (m.any fun p => p.ids.contains b.id)
    · exact brok_6b m r h hpi k6 hf he hus
    · exact brok_6a m r h hpi k6 hf he hus
end
end Go.Am
end
