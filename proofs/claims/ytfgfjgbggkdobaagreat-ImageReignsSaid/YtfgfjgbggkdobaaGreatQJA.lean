/- Part of the proof of a law of the image. -/
import Derived.Test.YtfgfjgbggkdobaaGreatQEC
import Derived.Test.YtfgfjgbggkdobaaGreatQMN
import Derived.Test.YtfgfjgbggkdobaaGreatQW0
set_option linter.all false
section
set_option maxRecDepth 100000
set_option maxHeartbeats 0
namespace Go.Am
open Go
noncomputable section
def c24 : SC := (.seq (.reg [oO 3 37 1,oD 4 (.assign (.const .nilIface))] [0,3,24,54,68,90,129,136]) (.seq (.reg [oU (oM 12 0) [15,16],oU (oD 13 (.nilCheck (.tmp 12))) [15,16],oU (oL 14 30 13) [15,16],oU (oF 15 37 3 3) [12,13,14],oU (oL 16 3 15) [12,13,14],oC 17 59 #[.tmp 14,.tmp 16] #[30,3],oM 11 17,oU (oX 18 11 0) [19],oU (oX 19 11 1) [18,5],oU (oG 5 18) [19],oG 6 19] [0,3,5,6,11,17,18,19,24,54,68,90,129,136]) (.seq (.reg [oM 20 6,oD 21 (.unOp .not 4 (.tmp 20))] [0,3,5,11,17,18,21,24,54,68,90,129,136]) (.seq (.cond (.tmp 21) (.seq (.reg [oF 22 37 3 3,oL 23 3 22,oD 24 (.call { callee := .value (.func 39),args := #[.const (.string ⟨#[116,111,112,105,99]⟩),.tmp 23,.const (.int .i64 8)],argTypes := #[9,3,55] }),oG 4 24] [0,4,24,54,68,90,129,136]) .ret) .skip) (.seq (.reg [oM 25 0,oD 26 (.nilCheck (.tmp 25)),oF 27 30 26 1,oL 28 26 27,oM 29 5,oJ 30 26 28 29,oG 7 30] [0,3,5,7,11,17,18,24,25,26,27,28,29,30,54,68,90,129,136]) (.seq (.reg [oF 31 37 3 14,oL 32 35 31,oF 33 37 3 15,oL 34 35 33,oF 35 37 3 5,oL 36 3 35,oF 37 37 3 2,oL 38 3 37,oF 39 37 3 16,oL 40 35 39,oF 41 37 3 17,oL 42 35 41,oD 43 (.build 47 #[(0,.tmp 32),(1,.tmp 34),(2,.tmp 36),(3,.tmp 38),(4,.tmp 40),(5,.tmp 42)]),oA 8 47,oS 47 8 43] [0,3,5,7,8,11,17,18,24,25,26,27,28,29,30,54,68,90,129,136]) (.seq (.reg [oU (oM 44 0) [47],oU (oD 45 (.nilCheck (.tmp 44))) [47],oU (oL 46 30 45) [47],oU (oL 47 47 8) [44,45,46],oC 48 60 #[.tmp 46,.tmp 47] #[30,47],oG 9 48] [0,3,5,7,8,9,11,17,18,24,25,26,27,28,29,30,48,54,68,90,129,136]) (.seq (.reg [oM 49 9,oD 50 (.binOp .neq 32 (.tmp 49) (.const .nilIface) 32)] [0,3,5,7,8,9,11,17,18,24,25,26,27,28,29,30,48,50,54,68,90,129,136]) (.seq (.cond (.tmp 50) (.seq (.reg [oF 51 37 3 4,oL 52 3 51,oM 53 9,oD 54 (.call { callee := .value (.func 21),args := #[.const (.string ⟨#[112,97,114,116]⟩),.tmp 52,.tmp 53],argTypes := #[9,3,32] }),oG 4 54] [0,4,24,54,68,90,129,136]) .ret) .skip) (.seq (.reg [oF 55 37 3 0,oL 56 3 55,oK 57 .eql 3 56 8 3] [0,3,5,7,8,11,17,18,24,25,26,27,28,29,30,54,57,68,90,129,136]) (.seq (.cond (.tmp 57) (.seq (.reg [oU (oF 58 37 3 4) [60,61,62,63,64],oU (oL 59 3 58) [60,61,62,63,64],oU (oM 60 7) [58,59],oU (oD 61 (.nilCheck (.tmp 60))) [58,59],oU (oF 62 65 61 2) [58,59],oU (oL 63 63 62) [58,59],oU (oN 64 63 63) [58,59],oB 65 .neq 3 59 64 3] [0,3,5,7,8,11,17,18,24,25,26,27,28,29,30,54,65,68,90,129,136]) (.seq (.cond (.tmp 65) (.seq (.reg [oF 66 37 3 4,oL 67 3 66,oD 68 (.call { callee := .value (.func 39),args := #[.const (.string ⟨#[112,97,114,116]⟩),.tmp 67,.const (.int .i64 10)],argTypes := #[9,3,55] }),oG 4 68] [0,4,24,54,68,90,129,136]) .ret) .skip) (.seq (.reg [oM 69 7,oM 70 7,oU (oD 71 (.nilCheck (.tmp 70))) [74,75,76],oU (oF 72 65 71 2) [74,75,76],oU (oL 73 63 72) [74,75,76],oU (oL 74 47 8) [71,72,73],oU (oC 75 52 #[.tmp 74] #[47]) [71,72,73],oU (oD 76 (.buildSlice 63 1 #[(0,.tmp 75)])) [71,72,73],oP 77 #[.tmp 73,.tmp 76] #[63,63],oD 78 (.nilCheck (.tmp 69)),oF 79 65 78 2,oS 63 79 77] [0,24,54,68,90,129,136]) (.seq (.reg [oD 4 (.assign (.const .nilIface))] [0,4,24,54,68,90,129,136]) .ret)))) .skip) (.seq (.reg [oU (oF 80 37 3 4) [82,83,84,85,86],oU (oL 81 3 80) [82,83,84,85,86],oU (oM 82 7) [80,81],oU (oD 83 (.nilCheck (.tmp 82))) [80,81],oU (oF 84 65 83 2) [80,81],oU (oL 85 63 84) [80,81],oU (oN 86 85 63) [80,81],oB 87 .geq 3 81 86 3] [0,3,5,7,8,11,17,18,24,25,26,27,28,29,30,54,68,87,90,129,136]) (.seq (.cond (.tmp 87) (.seq (.reg [oF 88 37 3 4,oL 89 3 88,oD 90 (.call { callee := .value (.func 39),args := #[.const (.string ⟨#[112,97,114,116]⟩),.tmp 89,.const (.int .i64 8)],argTypes := #[9,3,55] }),oG 4 90] [0,4,24,54,68,90,129,136]) .ret) .skip) (.seq (.reg [oU (oM 91 7) [95,96,10],oU (oD 92 (.nilCheck (.tmp 91))) [95,96,10],oU (oF 93 65 92 2) [95,96,10],oU (oL 94 63 93) [95,96,10],oU (oF 95 37 3 4) [91,92,93,94,10],oU (oL 96 3 95) [91,92,93,94,10],oU (oJ 97 63 94 96) [10],oU (oL 98 47 97) [10],oU (oA 10 47) [91,92,93,94,95,96,97,98],oS 47 10 98] [0,3,5,7,8,10,11,17,18,24,25,26,27,28,29,30,54,68,90,129,136]) (.seq (.block 0 (.seq (.reg [oF 100 37 3 2,oL 101 3 100,oF 102 47 10 3,oL 103 3 102,oB 104 .neq 3 101 103 3,oM 105 104,oW 105 true (oF 106 37 3 2),oW 105 true (oL 107 3 106),oW 105 true (oF 108 47 10 3),oW 105 true (oL 109 3 108),oW 105 true (oK 110 .add 3 109 1 3),oW 105 true (oB 111 .neq 3 107 110 3),oQ 112 105 111 false,oM 113 112,oW 113 false (oF 114 37 3 5),oW 113 false (oL 115 3 114),oW 113 false (oF 116 47 10 2),oW 113 false (oL 117 3 116),oW 113 false (oB 118 .neq 3 115 117 3),oW 113 false (oM 119 118),oW 119 true (oF 120 37 3 2),oW 119 true (oL 121 3 120),oW 119 true (oF 122 47 10 3),oW 119 true (oL 123 3 122),oW 119 true (oB 124 .eql 3 121 123 3),oW 113 false (oQ 125 119 124 false),oR 126 113 true 125,oG 99 126] [0,3,5,7,8,10,11,17,18,24,25,26,27,28,29,30,54,68,90,99,104,105,111,112,113,118,119,124,125,126,129,136]) (.seq (.cond (.tmp 99) (.seq (.reg [oF 127 37 3 4,oL 128 3 127,oD 129 (.call { callee := .value (.func 39),args := #[.const (.string ⟨#[112,97,114,116]⟩),.tmp 128,.const (.int .i64 11)],argTypes := #[9,3,55] }),oG 4 129] [0,4,24,54,68,90,129,136]) .ret) (.seq (.reg [oL 131 47 10,oL 132 47 8,oC 133 61 #[.tmp 131,.tmp 132] #[47,47],oG 130 133] [0,3,5,7,8,11,17,18,24,25,26,27,28,29,30,54,68,90,129,130,133,136]) (.seq (.cond (.tmp 130) (.seq (.reg [oF 134 37 3 4,oL 135 3 134,oD 136 (.call { callee := .value (.func 39),args := #[.const (.string ⟨#[112,97,114,116]⟩),.tmp 135,.const (.int .i64 10)],argTypes := #[9,3,55] }),oG 4 136] [0,4,24,54,68,90,129,136]) .ret) .skip) .skip))) .skip))) (.seq (.reg [oU (oM 137 7) [141,142,143,144],oU (oD 138 (.nilCheck (.tmp 137))) [141,142,143,144],oU (oF 139 65 138 2) [141,142,143,144],oU (oL 140 63 139) [141,142,143,144],oU (oF 141 37 3 4) [137,138,139,140,143,144],oU (oL 142 3 141) [137,138,139,140,143,144],oU (oL 143 47 8) [137,138,139,140,141,142],oU (oC 144 52 #[.tmp 143] #[47]) [137,138,139,140,141,142],oJ 145 63 140 142,oS 47 145 144] [0,24,54,68,90,129,136]) (.seq (.reg [oD 4 (.assign (.const .nilIface))] [0,4,24,54,68,90,129,136]) .ret)))))))))))))))))
theorem s24 : TextK Proofs.Tryz.prog 1 24 146 [ResultVar.tmp 4] c24 := .mk' Proofs.Tryz.f24 _ (by kernel_rfl) rfl rfl rfl (by kernel_rfl) rfl (by kernel_rfl)
abbrev prt : ByteArray := bs [112, 97, 114, 116]
structure PartsPre (m : Image) (r : Record) : Prop where
  bs : srtB m.brokers
  br : ∀ b ∈ m.brokers, 1 ≤ b.id ∧ b.id ≤ 64
  bl : m.brokers.length ≤ 1000
  ts : srtT m.topics
  ti : ∀ b ∈ m.topics, 1 ≤ b.id ∧ b.id ≤ 1073741824
  tl : m.topics.length ≤ 1000
  pl : ∀ t ∈ m.topics, t.parts.length ≤ 1000
  big : r.toPart.Big
  tn : big62 r.topic
  pn : 0 ≤ r.part
  ep : ∀ t ∈ m.topics, ∀ p ∈ t.parts, 0 ≤ p.epoch ∧ p.epoch ≤ 1000000
theorem parts_none (m : Image) (r : Record) (h : PartsPre m r) (hf : m.topic r.topic = none) : TurnsE pg 24 m r (m, 8) := by
  have ht := itopic_ok m r.topic h.ts h.ti (by have := h.tl; omega) h.tn
  rw [hf] at ht
  refine turns_E ⟨some (tpc, r.topic, 8), cellsO m, ?_, pv_cells m, rfl⟩
  refine s24.callM (os := [.own (cellsO m)]) mo (by simp) fun ho hx => ?_
  clear ho hx
  unfold c24; dsimp only [oA, oB, oC, oD, oF, oG, oJ, oK, oL, oM, oN, oO, oP, oQ, oR, oS, oU, oW, oX]
  have G := @new_ok
  refine wk ?_
  exact fn1
theorem parts_bad (m : Image) (r : Record) (h : PartsPre m r) {t : Topic} (hf : m.topic r.topic = some t) {b : Bad} (hr : rightP m r.toPart = some b) (hbc : b.2.2 ≠ 0) : TurnsE pg 24 m r (m, b.2.2) := by
  have ht := itopic_ok m r.topic h.ts h.ti (by have := h.tl; omega) h.tn
  rw [hf] at ht
  obtain ⟨hi, hti, hid⟩ := pos_hit (f := Topic.id) h.ts hf
  have hlen : posOf Topic.id m.topics r.topic ≤ 1000 := by have := h.tl; omega
  generalize posOf Topic.id m.topics r.topic = i at *
  have hrt := iright_ok m r.toPart h.bs h.br (by have := h.bl; omega) h.big
  rw [hr] at hrt
  obtain ⟨op, a, c⟩ := b
  have hwr := wrap_ok prt r.part (some (Er.fault op a (.code c)))
  have hf2 : errE (some (Er.fault op a (.code c))) = errF op a c := (errO_E (some (op, a, c))).symm
  rw [hf2] at hwr
  obtain ⟨ty, v, he⟩ := encE_if (.fault prt r.part (Er.fault op a (.code c)))
  simp only [Option.map_some, errE_some, he] at hwr
  refine ⟨some (.fault prt r.part (Er.fault op a (.code c))), cellsO m, ?_, pv_cells m, by simp only [cdE, Er.cd]; rw [if_neg hbc]⟩
  simp only [errE_some, he]
  simp only [Record.toPart, encP_eq] at hrt
  refine s24.callM (os := [.own (cellsO m)]) mo (by simp) fun ho hx => ?_
  clear ho hx
  unfold c24; dsimp only [oA, oB, oC, oD, oF, oG, oJ, oK, oL, oM, oN, oO, oP, oQ, oR, oS, oU, oW, oX]
  have hil : i < m.topics.length := hi
  have F := hil
  refine wkF ?_
  exact fn1
end
end Go.Am
end
section
set_option maxRecDepth 100000
set_option maxHeartbeats 0
namespace Go.Am
open Go
noncomputable section
theorem parts_10 (m : Image) (r : Record) (h : PartsPre m r) {t : Topic} (hf : m.topic r.topic = some t) (hr : rightP m r.toPart = none) (hk : r.kind = 8) (hn : r.part ≠ t.parts.length) : TurnsE pg 24 m r (m, 10) := by
  have ht := itopic_ok m r.topic h.ts h.ti (by have := h.tl; omega) h.tn
  rw [hf] at ht
  obtain ⟨hi, hti, hid⟩ := pos_hit (f := Topic.id) h.ts hf
  have hlen : posOf Topic.id m.topics r.topic ≤ 1000 := by have := h.tl; omega
  generalize posOf Topic.id m.topics r.topic = i at *
  subst hti
  have hpl := h.pl _ (List.getElem_mem hi)
  have hrt := iright_ok m r.toPart h.bs h.br (by have := h.bl; omega) h.big
  rw [hr] at hrt
  refine turns_E ⟨some (prt, r.part, 10), cellsO m, ?_, pv_cells m, rfl⟩
  simp only [Record.toPart, encP_eq, errO_none] at hrt
  refine s24.callM (os := [.own (cellsO m)]) mo (by simp) fun ho hx => ?_
  clear ho hx
  unfold c24; dsimp only [oA, oB, oC, oD, oF, oG, oJ, oK, oL, oM, oN, oO, oP, oQ, oR, oS, oU, oW, oX]
  have hil : i < m.topics.length := hi
  have q1 : (r.kind == 8) = true := by simp [hk]
  clear hf hid
  have G := @new_ok
  have F := And.intro hil (And.intro q1 hn)
  refine wkF ?_
  exact fn1
theorem parts_8 (m : Image) (r : Record) (h : PartsPre m r) {t : Topic} (hf : m.topic r.topic = some t) (hr : rightP m r.toPart = none) (hk : r.kind ≠ 8) (hn : (t.parts.length : Int) ≤ r.part) : TurnsE pg 24 m r (m, 8) := by
  have ht := itopic_ok m r.topic h.ts h.ti (by have := h.tl; omega) h.tn
  rw [hf] at ht
  obtain ⟨hi, hti, hid⟩ := pos_hit (f := Topic.id) h.ts hf
  have hlen : posOf Topic.id m.topics r.topic ≤ 1000 := by have := h.tl; omega
  generalize posOf Topic.id m.topics r.topic = i at *
  subst hti
  have hpl := h.pl _ (List.getElem_mem hi)
  have hrt := iright_ok m r.toPart h.bs h.br (by have := h.bl; omega) h.big
  rw [hr] at hrt
  refine turns_E ⟨some (prt, r.part, 8), cellsO m, ?_, pv_cells m, rfl⟩
  simp only [Record.toPart, encP_eq, errO_none] at hrt
  refine s24.callM (os := [.own (cellsO m)]) mo (by simp) fun ho hx => ?_
  clear ho hx
  unfold c24; dsimp only [oA, oB, oC, oD, oF, oG, oJ, oK, oL, oM, oN, oO, oP, oQ, oR, oS, oU, oW, oX]
  have hil : i < m.topics.length := hi
  have q1 : (r.kind == 8) = false := by simpa using hk
  clear hf hid
  have G := @new_ok
  have F := And.intro hil (And.intro q1 hn)
  refine wkF ?_
  exact fn1
theorem mixL_same' {α : Type} (f : α → V) (l : List α) (i : Nat) : mixL f f l i = l.map f := by
  rw [mixL, ← List.map_append, List.take_append_drop]
theorem pvL_mixTO (m : Image) {i : Nat} (hi : i < m.topics.length) {id : Int} (hs : srtT m.topics) (hid : m.topics[i].id = id) (q : List Part) (y : V) (hy : pv y = .sl (q.map encP)) :
    pvL (mixM encTO encTO m.topics i (.agg [I m.topics[i].id, St m.topics[i].name, y])) = (m.topics.map fun t => if t.id = id then { t with parts := q } else t).map encT := by
  rw [(hit_filters (f := Topic.id) hs hi hid).2.2.2]
  simp only [mixM, pvL_append, List.map_append, List.map_cons, ← pvL_TO']
  congr 1
  simp [pvL, pv, hy]
theorem parts_new (m : Image) (r : Record) (h : PartsPre m r) {t : Topic} (hf : m.topic r.topic = some t) (hr : rightP m r.toPart = none) (hk : r.kind = 8) (hn : r.part = t.parts.length) : TurnsE pg 24 m r (m.putPart r.topic r.part.toNat r.toPart, 0) := by
  have ht := itopic_ok m r.topic h.ts h.ti (by have := h.tl; omega) h.tn
  rw [hf] at ht
  obtain ⟨hi, hti, hid⟩ := pos_hit (f := Topic.id) h.ts hf
  have hlen : posOf Topic.id m.topics r.topic ≤ 1000 := by have := h.tl; omega
  generalize posOf Topic.id m.topics r.topic = i at *
  subst hti
  have hpl := h.pl _ (List.getElem_mem hi)
  have hrt := iright_ok m r.toPart h.bs h.br (by have := h.bl; omega) h.big
  rw [hr] at hrt
  have hal := aloneP_ok r.toPart ⟨h.big.l1, h.big.l2, h.big.l3, h.big.l4⟩
  refine turns_E ⟨none, [.uq (m.brokers.map encB), .uq (mixM encTO encTO m.topics i (.agg [I m.topics[i].id, St m.topics[i].name, .uq (m.topics[i].parts.map encPO ++ [encP r.toPart])])), .uq (m.configs.map encC), .uq (m.done.map encD), I m.last], ?_, ?_, rfl⟩
  · simp only [Record.toPart, encP_eq, errO_none] at hrt hal ⊢
    refine s24.callM (os := [.own (cellsO m)]) mo (by simp) fun ho hx => ?_
    clear ho hx
    rw [cellsO_eq, ← mixL_same' encTO m.topics i]
    unfold c24; dsimp only [oA, oB, oC, oD, oF, oG, oJ, oK, oL, oM, oN, oO, oP, oQ, oR, oS, oU, oW, oX]
    have hil : i < m.topics.length := hi
    have q1 : (r.kind == 8) = true := by simp [hk]
    clear hf hid
    have pvm : pvL (mixL encTO encTO m.topics i) = m.topics.map encT := by rw [mixL_same', pvL_TO']
    repeat' first | (with_reducible first | refine fF ?_ | refine fS ?_ | refine fR ?_ | refine fQ ?_ | refine fC ?_ | refine fT ?_ | refine awRet ?_) | ((with_reducible refine awReg fun K hok hK => ?_); clear hok; (try simp (maxSteps := 10000000) (disch := first | omega | simp) [hil, q1, hn, pvm, isConst]); (repeat' first | (with_reducible refine hK _ (by simp) ?_) | ((first | ((with_reducible refine callS' fun K2 hK2 => ?_); (try simp (maxSteps := 10000000) (disch := first | omega | simp) [hil, q1, hn, pvm, isConst]); (first | refine hK2 _ _ ht rfl fun hk9 => ?_ | refine hK2 _ _ hrt rfl fun hk9 => ?_ | refine hK2 _ _ hal rfl fun hk9 => ?_); clear hk9; clear hK2 K2) | ((with_reducible refine sideF' fun K2 hK2 => ?_); (try simp (maxSteps := 10000000) (disch := first | omega | simp) [hil, q1, hn, pvm, isConst]); (first | refine hK2 _ _ _ ht (by simp) ?_ | refine hK2 _ _ _ hrt (by simp) ?_ | refine hK2 _ _ _ hal (by simp) ?_); clear hK2 K2) | ((with_reducible refine sideQ' ?_ ?_ fun K2 hK2 => ?_); exact rfl; exact rfl; (try simp (maxSteps := 10000000) (disch := first | omega | simp) [hil, q1, hn, pvm, isConst]); with_reducible refine hK2 _ _ ?_; clear hK2 K2) | ((with_reducible refine side' ?_ fun K2 hK2 => ?_); exact rfl; (try simp (maxSteps := 10000000) (disch := first | omega | simp) [hil, q1, hn, pvm, isConst]); refine hK2 _ _ (by simp) ?_; clear hK2 K2)); (try simp (maxSteps := 10000000) (disch := first | omega | simp) [hil, q1, hn, pvm, isConst]))) <;> clear hK K) | ((with_reducible refine awCond fun A B hA hB => ?_); simp (maxSteps := 10000000) (disch := first | omega | simp) [hil, q1, hn, pvm, isConst]; (first | refine ⟨fun h => hA ?_, fun h => hB ?_⟩ | refine hA ?_ | refine hB ?_) <;> (clear hA hB A B; (try (exfalso; omega))))
    (refine aEnR (aRes [] fun K hK => ?_); simp (maxSteps := 10000000) (disch := first | omega | simp) []; refine hK _ ?_ (by simp); clear hK; first | done | (simp (maxSteps := 10000000) (disch := first | omega | simp) [*]; done) | (simp (maxSteps := 10000000) (disch := first | omega | simp) [*]; omega) | (simp_all []; done) | (simp_all []; omega))
  · have e : m.putPart r.topic r.part.toNat r.toPart = { m with topics := m.topics.map fun t => if t.id = r.topic then { t with parts := m.topics[i].parts ++ [r.toPart] } else t } := by
      unfold Image.putPart
      rw [(hit_filters (f := Topic.id) h.ts hi hid).2.2.2, (hit_filters (f := Topic.id) h.ts hi hid).2.2.2, hn]
      simp [setAt]
    rw [e]
    have := pvL_mixTO m hi h.ts hid (m.topics[i].parts ++ [r.toPart]) (.uq (m.topics[i].parts.map encPO ++ [encP r.toPart])) (by simp [pv])
    simp only [pvL, pv, this, cellsM_eq, pvL_B, pvL_C, pvL_D]
end
end Go.Am
end
section
set_option maxRecDepth 100000
set_option maxHeartbeats 0
namespace Go.Am
open Go
noncomputable section
theorem Wk.frzQ {l : List (Nat × E)} {r : Nat} {q : Path} {X D Y : V} (h : Am.ofA l r = .p X) (hD : X.getP q = some D) (hne : D ≠ .any) (hY : X.setP q (pv D) = Y) : Wk (Am.ofA l) (Am.ofA ((r, .p Y) :: blurK r q l)) := by
  have hc : cont (Am.ofA l) r = X := by simp [cont, h, E.cont]
  have := Wk.freeze (Γ := Am.ofA l) (r := r) (q := q) (D := D) (by rw [hc]; exact hD) hne
  rw [upd_ofA, hc, hY] at this
  exact this
def elemT (t : Topic) (k : Nat) (z : V) : V := .agg [I t.id, St t.name, .uq (mixM encPO encPO t.parts k z)]
def cellsE (m : Image) (i k : Nat) (hi : i < m.topics.length) (z : V) : List V := [.uq (m.brokers.map encB), .uq (mixM encTO encTO m.topics i (elemT m.topics[i] k z)), .uq (m.configs.map encC), .uq (m.done.map encD), I m.last]
theorem cellsE_0 (m : Image) (i k : Nat) (hi : i < m.topics.length) (hk : k < m.topics[i].parts.length) : cellsE m i k hi (encPO m.topics[i].parts[k]) = cellsO m := by
  unfold cellsE elemT
  have e1 : mixM encPO encPO m.topics[i].parts k (encPO m.topics[i].parts[k]) = m.topics[i].parts.map encPO := by
    rw [mixM_next hk, mixL_same']
  rw [e1]
  have e2 : mixM encTO encTO m.topics i (.agg [I m.topics[i].id, St m.topics[i].name, .uq (m.topics[i].parts.map encPO)]) = m.topics.map encTO := by
    have : V.agg [I m.topics[i].id, St m.topics[i].name, .uq (m.topics[i].parts.map encPO)] = encTO m.topics[i] := rfl
    rw [this, mixM_next hi, mixL_same']
  rw [e2]; rfl
theorem frz_cell {m : Image} {i k : Nat} {hi : i < m.topics.length} (hk : k < m.topics[i].parts.length) {z : List V} {j : Nat} {D : V} (hz : z[j]? = some D) (hne : D ≠ .any) {l : List (Nat × E)} (h : Am.ofA l 0 = .p (.own (cellsE m i k hi (.agg z)))) :
    Wk (Am.ofA l) (Am.ofA ((0, .p (.own (cellsE m i k hi (.agg (z.set j (pv D)))))) :: blurK 0 [(0, 1), (i, 2), (k, j)] l)) := by
  refine Wk.frzQ h (D := D) ?_ hne ?_
  · simp [V.getP, V.cell, V.row, cellsE, elemT, mixM_get hi, mixM_get hk, V.cells, hz]
  · simp [V.setP, V.cell, V.row, cellsE, elemT, mixM_get hi, mixM_get hk, V.cells, hz, V.setCell, V.setRow, V.recell, mixM_mod hi, mixM_mod hk, hi, hk]
theorem frz_two (m : Image) (i k : Nat) (hi : i < m.topics.length) (hk : k < m.topics[i].parts.length) (x : V) :
    Wk (Am.ofA [(3, .p x), (0, .p (.own (cellsO m)))]) (Am.ofA [(3, .p x), (0, .p (.own (cellsE m i k hi (encP m.topics[i].parts[k]))))]) := by
  rw [← cellsE_0 m i k hi hk]
  generalize m.topics[i].parts[k] = p
  have h1 := frz_cell (hi := hi) hk (z := [.uq (p.ids.map I), .uq (p.isr.map I), I p.leader, I p.epoch, .uq (p.add.map I), .uq (p.drop.map I)]) (j := 0) rfl (by simp) (l := [(3, .p x), (0, .p (.own (cellsE m i k hi (.agg [.uq (p.ids.map I), .uq (p.isr.map I), I p.leader, I p.epoch, .uq (p.add.map I), .uq (p.drop.map I)]))))]) (by simp)
  refine h1.trans ?_
  clear h1
  simp only [List.set_cons_zero, pv, pvL_I]
  refine (frz_cell (hi := hi) hk (z := [.sl (p.ids.map I), .uq (p.isr.map I), I p.leader, I p.epoch, .uq (p.add.map I), .uq (p.drop.map I)]) (j := 1) (D := .uq (p.isr.map I)) rfl (by simp) (by simp)).trans ?_
  simp only [List.set_cons_zero, List.set_cons_succ, pv, pvL_I]
  refine (frz_cell (hi := hi) hk (z := [.sl (p.ids.map I), .sl (p.isr.map I), I p.leader, I p.epoch, .uq (p.add.map I), .uq (p.drop.map I)]) (j := 4) (D := .uq (p.add.map I)) rfl (by simp) (by simp)).trans ?_
  simp only [List.set_cons_zero, List.set_cons_succ, pv, pvL_I]
  refine (frz_cell (hi := hi) hk (z := [.sl (p.ids.map I), .sl (p.isr.map I), I p.leader, I p.epoch, .sl (p.add.map I), .uq (p.drop.map I)]) (j := 5) (D := .uq (p.drop.map I)) rfl (by simp) (by simp)).trans ?_
  simp only [List.set_cons_zero, List.set_cons_succ, pv, pvL_I]
  exact Wk.ofA (by simp)
theorem pv_cellsE (m : Image) (i k : Nat) (hi : i < m.topics.length) (hk : k < m.topics[i].parts.length) : pvL (cellsE m i k hi (encP m.topics[i].parts[k])) = cellsM m := by
  have e1 : pvL (mixM encPO encPO m.topics[i].parts k (encP m.topics[i].parts[k])) = m.topics[i].parts.map encP := by
    have : pvL (mixM encPO encPO m.topics[i].parts k (encPO m.topics[i].parts[k])) = m.topics[i].parts.map encP := by rw [mixM_next hk, mixL_same', pvL_PO']
    rw [← this]
    simp only [mixM, pvL_append, pvL]
    congr 2
    simp
  have e2 : pvL (mixM encTO encTO m.topics i (elemT m.topics[i] k (encP m.topics[i].parts[k]))) = m.topics.map encT := by
    have : pvL (mixM encTO encTO m.topics i (encTO m.topics[i])) = m.topics.map encT := by rw [mixM_next hi, mixL_same', pvL_TO']
    rw [← this]
    simp only [mixM, pvL_append, pvL]
    congr 2
    simp only [elemT, pv, pvL, e1]
    simp
  simp only [cellsE, pvL, pv, e2, cellsM_eq, pvL_B, pvL_C, pvL_D]
end
end Go.Am
end
section
set_option maxRecDepth 100000
set_option maxHeartbeats 0
namespace Go.Am
open Go
noncomputable section
theorem pv_E1 {l : List Part} {k : Nat} (hk : k < l.length) : pvL (mixM encPO encPO l k (encP l[k])) = l.map encP := by
  have : pvL (mixM encPO encPO l k (encPO l[k])) = l.map encP := by rw [mixM_next hk, mixL_same', pvL_PO']
  rw [← this]
  simp only [mixM, pvL_append, pvL]
  congr 2
  simp
theorem pv_E2 (m : Image) (i k : Nat) (hi : i < m.topics.length) (hk : k < m.topics[i].parts.length) : pvL (mixM encTO encTO m.topics i (.agg [I m.topics[i].id, St m.topics[i].name, .uq (mixM encPO encPO m.topics[i].parts k (encP m.topics[i].parts[k]))])) = m.topics.map encT := by
  have : pvL (mixM encTO encTO m.topics i (encTO m.topics[i])) = m.topics.map encT := by rw [mixM_next hi, mixL_same', pvL_TO']
  rw [← this]
  have e1 := pv_E1 hk
  generalize mixM encPO encPO m.topics[i].parts k (encP m.topics[i].parts[k]) = q at e1 ⊢
  simp only [mixM, pvL_append, pvL]
  congr 2
  simp only [pv, pvL, e1]
  simp
structure ChPre (m : Image) (r : Record) (i k : Nat) : Prop where
  pre : PartsPre m r
  hi : i < m.topics.length
  hk : k < m.topics[i].parts.length
  ht : ACall pg 59 [encM m, I r.topic] (.tup [I i, B true])
  hid : m.topics[i].id = r.topic
  kind : r.kind ≠ 8
  part : r.part = k
  right : rightP m r.toPart = none
theorem ch_of (m : Image) (r : Record) (h : PartsPre m r) {t : Topic} (hf : m.topic r.topic = some t) (hr : rightP m r.toPart = none) (hk : r.kind ≠ 8) (hn : r.part < t.parts.length) : ∃ i k, ∃ hc : ChPre m r i k, m.topics[i]'hc.hi = t ∧ r.part.toNat = k := by
  have ht := itopic_ok m r.topic h.ts h.ti (by have := h.tl; omega) h.tn
  rw [hf] at ht
  obtain ⟨hi, hti, hid⟩ := pos_hit (f := Topic.id) h.ts hf
  obtain ⟨k, hk2⟩ := Int.eq_ofNat_of_zero_le h.pn
  subst hti
  exact ⟨_, k, ⟨h, hi, by omega, ht, hid, hk, hk2, hr⟩, rfl, by omega⟩
theorem parts_11a {m : Image} {r : Record} {i k : Nat} (h : ChPre m r i k) (e1 : r.epoch ≠ ((m.topics[i]'h.hi).parts[k]'h.hk).epoch) (e2 : r.epoch ≠ ((m.topics[i]'h.hi).parts[k]'h.hk).epoch + 1) : TurnsE pg 24 m r (m, 11) := by
  have hil := h.hi
  have hkl := h.hk
  have hpl := h.pre.pl _ (List.getElem_mem hil)
  have htl := h.pre.tl
  have hep := h.pre.ep _ (List.getElem_mem hil) _ (List.getElem_mem hkl)
  have ht := h.ht
  have hrt := iright_ok m r.toPart h.pre.bs h.pre.br (by have := h.pre.bl; omega) h.pre.big
  rw [h.right] at hrt
  refine turns_E ⟨some (prt, r.part, 11), cellsE m i k hil (encP m.topics[i].parts[k]), ?_, pv_cellsE m i k hil hkl, rfl⟩
  simp only [Record.toPart, encP_eq, errO_none] at hrt
  have q1 : (r.kind == 8) = false := by simpa using h.kind
  have hrp := h.part
  have v1 := pv_E2 m i k hil hkl
  have v2 := pv_E1 hkl
  simp only [encP_eq] at v1 v2
  have hk3 : (m.topics[i].parts.length ≤ k) = False := eq_false (by omega)
  have q2 : (r.epoch != m.topics[i].parts[k].epoch) = true := by simpa using e1
  have q3 : (r.epoch != m.topics[i].parts[k].epoch + 1) = true := by simpa using e2
  refine s24.callM (os := [.own (cellsO m)]) mo (by simp) fun ho hx => ?_
  clear ho hx
  unfold c24; dsimp only [oA, oB, oC, oD, oF, oG, oJ, oK, oL, oM, oN, oO, oP, oQ, oR, oS, oU, oW, oX]
  iterate 1 (
      (repeat with_reducible first | refine fQ ?_ | refine fR ?_ | refine awBlock ?_)
      ((with_reducible refine awReg fun K hok hK => ?_); clear hok; (try simp (maxSteps := 10000000) (disch := first | omega | simp) []); (repeat' first | (with_reducible refine hK _ (by simp) ?_) | ((first | ((with_reducible refine sideQ' ?_ ?_ fun K2 hK2 => ?_); exact rfl; exact rfl; (try simp (maxSteps := 10000000) (disch := first | omega | simp) []); with_reducible refine hK2 _ _ ?_; clear hK2 K2) | ((with_reducible refine side' ?_ fun K2 hK2 => ?_); exact rfl; (try simp (maxSteps := 10000000) (disch := first | omega | simp) []); refine hK2 _ _ (by simp) ?_; clear hK2 K2)); (try simp (maxSteps := 10000000) (disch := first | omega | simp) []))) <;> clear hK K))
  refine awWk (ofA [(3, .p (.own (encR r).cells)), (0, .p (.own (cellsE m i k hil (encP m.topics[i].parts[k]))))]) ((Wk.ofA (by simp)).trans (frz_two m i k hil hkl _)) ?_
  simp only [cellsE, elemT]
  have G := @new_ok
  have F := And.intro hil (And.intro hkl (And.intro hk3 (And.intro hrp (And.intro q1 (And.intro q2 (And.intro q3 (And.intro v1 v2)))))))
  refine wkF ?_
  exact fn1
end
end Go.Am
end
section
set_option maxRecDepth 100000
set_option maxHeartbeats 0
namespace Go.Am
open Go
noncomputable section
theorem parts_11b {m : Image} {r : Record} {i k : Nat} (h : ChPre m r i k) (e1 : r.epoch = ((m.topics[i]'h.hi).parts[k]'h.hk).epoch) (e2 : r.leader ≠ ((m.topics[i]'h.hi).parts[k]'h.hk).leader) : TurnsE pg 24 m r (m, 11) := by
  have hil := h.hi
  have hkl := h.hk
  have hpl := h.pre.pl _ (List.getElem_mem hil)
  have htl := h.pre.tl
  have hep := h.pre.ep _ (List.getElem_mem hil) _ (List.getElem_mem hkl)
  have ht := h.ht
  have hrt := iright_ok m r.toPart h.pre.bs h.pre.br (by have := h.pre.bl; omega) h.pre.big
  rw [h.right] at hrt
  have q2 : (r.epoch != m.topics[i].parts[k].epoch) = false := by simpa using e1
  have q3 : (r.leader != m.topics[i].parts[k].leader) = true := by simpa using e2
  have q4 : (r.epoch == m.topics[i].parts[k].epoch) = true := by simpa using e1
  refine turns_E ⟨some (prt, r.part, 11), cellsE m i k hil (encP m.topics[i].parts[k]), ?_, pv_cellsE m i k hil hkl, rfl⟩
  simp only [Record.toPart, encP_eq, errO_none] at hrt
  have q1 : (r.kind == 8) = false := by simpa using h.kind
  have hrp := h.part
  have v1 := pv_E2 m i k hil hkl
  have v2 := pv_E1 hkl
  simp only [encP_eq] at v1 v2
  have hk3 : (m.topics[i].parts.length ≤ k) = False := eq_false (by omega)
  refine s24.callM (os := [.own (cellsO m)]) mo (by simp) fun ho hx => ?_
  clear ho hx
  unfold c24; dsimp only [oA, oB, oC, oD, oF, oG, oJ, oK, oL, oM, oN, oO, oP, oQ, oR, oS, oU, oW, oX]
  iterate 1 (
      (repeat with_reducible first | refine fQ ?_ | refine fR ?_ | refine awBlock ?_)
      ((with_reducible refine awReg fun K hok hK => ?_); clear hok; (try simp (maxSteps := 10000000) (disch := first | omega | simp) []); (repeat' first | (with_reducible refine hK _ (by simp) ?_) | ((first | ((with_reducible refine sideQ' ?_ ?_ fun K2 hK2 => ?_); exact rfl; exact rfl; (try simp (maxSteps := 10000000) (disch := first | omega | simp) []); with_reducible refine hK2 _ _ ?_; clear hK2 K2) | ((with_reducible refine side' ?_ fun K2 hK2 => ?_); exact rfl; (try simp (maxSteps := 10000000) (disch := first | omega | simp) []); refine hK2 _ _ (by simp) ?_; clear hK2 K2)); (try simp (maxSteps := 10000000) (disch := first | omega | simp) []))) <;> clear hK K))
  refine awWk (ofA [(3, .p (.own (encR r).cells)), (0, .p (.own (cellsE m i k hil (encP m.topics[i].parts[k]))))]) ((Wk.ofA (by simp)).trans (frz_two m i k hil hkl _)) ?_
  simp only [cellsE, elemT]
  have G := @new_ok
  have F := And.intro hil (And.intro hkl (And.intro hk3 (And.intro hrp (And.intro q1 (And.intro q2 (And.intro q3 (And.intro q4 (And.intro v1 v2))))))))
  refine wkF ?_
  exact fn1
theorem parts_10b {m : Image} {r : Record} {i k : Nat} (h : ChPre m r i k) (hps : ∀ t ∈ m.topics, ∀ p ∈ t.parts, p.Small) (hs : ((m.topics[i]'h.hi).parts[k]'h.hk).same r.toPart = true) (e1 : r.epoch = ((m.topics[i]'h.hi).parts[k]'h.hk).epoch) (e2 : r.leader = ((m.topics[i]'h.hi).parts[k]'h.hk).leader) : TurnsE pg 24 m r (m, 10) := by
  have hil := h.hi
  have hkl := h.hk
  have hpl := h.pre.pl _ (List.getElem_mem hil)
  have htl := h.pre.tl
  have hep := h.pre.ep _ (List.getElem_mem hil) _ (List.getElem_mem hkl)
  have ht := h.ht
  have hrt := iright_ok m r.toPart h.pre.bs h.pre.br (by have := h.pre.bl; omega) h.pre.big
  rw [h.right] at hrt
  have hsm : m.topics[i].parts[k].Small := hps _ (List.getElem_mem hil) _ (List.getElem_mem hkl)
  have hns : r.toPart.Small := ⟨h.pre.big.l1, h.pre.big.l2, h.pre.big.l3, h.pre.big.l4⟩
  have hsa := same_ok m.topics[i].parts[k] r.toPart hsm hns
  rw [hs] at hsa
  have q2 : (r.epoch != m.topics[i].parts[k].epoch) = false := by simpa using e1
  have q3 : (r.leader != m.topics[i].parts[k].leader) = false := by simpa using e2
  refine turns_E ⟨some (prt, r.part, 10), cellsE m i k hil (encP m.topics[i].parts[k]), ?_, pv_cellsE m i k hil hkl, rfl⟩
  simp only [Record.toPart, encP_eq, errO_none] at hrt hsa
  have q1 : (r.kind == 8) = false := by simpa using h.kind
  have hrp := h.part
  have v1 := pv_E2 m i k hil hkl
  have v2 := pv_E1 hkl
  simp only [encP_eq] at v1 v2
  have hk3 : (m.topics[i].parts.length ≤ k) = False := eq_false (by omega)
  refine s24.callM (os := [.own (cellsO m)]) mo (by simp) fun ho hx => ?_
  clear ho hx
  unfold c24; dsimp only [oA, oB, oC, oD, oF, oG, oJ, oK, oL, oM, oN, oO, oP, oQ, oR, oS, oU, oW, oX]
  iterate 1 (
      (repeat with_reducible first | refine fF ?_ | refine fQ ?_ | refine fR ?_ | refine fC ?_ | refine awBlock ?_)
      ((with_reducible refine awReg fun K hok hK => ?_); clear hok; (try simp (maxSteps := 10000000) (disch := first | omega | simp) []); (repeat' first | (with_reducible refine hK _ (by simp) ?_) | ((first | ((with_reducible refine sideQ' ?_ ?_ fun K2 hK2 => ?_); exact rfl; exact rfl; (try simp (maxSteps := 10000000) (disch := first | omega | simp) []); with_reducible refine hK2 _ _ ?_; clear hK2 K2) | ((with_reducible refine side' ?_ fun K2 hK2 => ?_); exact rfl; (try simp (maxSteps := 10000000) (disch := first | omega | simp) []); refine hK2 _ _ (by simp) ?_; clear hK2 K2)); (try simp (maxSteps := 10000000) (disch := first | omega | simp) []))) <;> clear hK K))
  refine awWk (ofA [(3, .p (.own (encR r).cells)), (0, .p (.own (cellsE m i k hil (encP m.topics[i].parts[k]))))]) ((Wk.ofA (by simp)).trans (frz_two m i k hil hkl _)) ?_
  simp only [cellsE, elemT]
  have G := @new_ok
  have F := And.intro hil (And.intro hkl (And.intro hk3 (And.intro hrp (And.intro q1 (And.intro q2 (And.intro q3 (And.intro v1 v2)))))))
  refine wkF ?_
  exact fn1
theorem pv_put (m : Image) (r : Record) {i k : Nat} (hi : i < m.topics.length) (hk : k < m.topics[i].parts.length) (hs : srtT m.topics) (hid : m.topics[i].id = r.topic) (hp : r.part = k) :
    pvL [.uq (m.brokers.map encB), .uq (mixM encTO encTO m.topics i (.agg [I m.topics[i].id, St m.topics[i].name, .uq (mixM encPO encPO m.topics[i].parts k (encP r.toPart))])), .uq (m.configs.map encC), .uq (m.done.map encD), I m.last] = cellsM (m.putPart r.topic r.part.toNat r.toPart) := by
  have e1 : pv (.uq (mixM encPO encPO m.topics[i].parts k (encP r.toPart))) = .sl ((setAt m.topics[i].parts k r.toPart).map encP) := by
    simp only [pv, setAt, mixM, pvL_append, pvL, List.map_append, List.map_cons, pvL_PO']
    congr 3
  have e2 := pvL_mixTO m hi hs hid (setAt m.topics[i].parts k r.toPart) _ e1
  have e3 : m.putPart r.topic r.part.toNat r.toPart = { m with topics := m.topics.map fun t => if t.id = r.topic then { t with parts := setAt m.topics[i].parts k r.toPart } else t } := by
    unfold Image.putPart
    rw [(hit_filters (f := Topic.id) hs hi hid).2.2.2, (hit_filters (f := Topic.id) hs hi hid).2.2.2, hp]
    simp
  rw [e3]
  generalize mixM encPO encPO m.topics[i].parts k (encP r.toPart) = q at *
  simp only [pvL, pv, e2, cellsM_eq, pvL_B, pvL_C, pvL_D]
theorem parts_seta {m : Image} {r : Record} {i k : Nat} (h : ChPre m r i k) (hps : ∀ t ∈ m.topics, ∀ p ∈ t.parts, p.Small) (hs : ((m.topics[i]'h.hi).parts[k]'h.hk).same r.toPart = false) (e1 : r.epoch = ((m.topics[i]'h.hi).parts[k]'h.hk).epoch) (e2 : r.leader = ((m.topics[i]'h.hi).parts[k]'h.hk).leader) : TurnsE pg 24 m r (m.putPart r.topic r.part.toNat r.toPart, 0) := by
  have hil := h.hi
  have hkl := h.hk
  have hpl := h.pre.pl _ (List.getElem_mem hil)
  have htl := h.pre.tl
  have hep := h.pre.ep _ (List.getElem_mem hil) _ (List.getElem_mem hkl)
  have ht := h.ht
  have hrt := iright_ok m r.toPart h.pre.bs h.pre.br (by have := h.pre.bl; omega) h.pre.big
  rw [h.right] at hrt
  have hsm : m.topics[i].parts[k].Small := hps _ (List.getElem_mem hil) _ (List.getElem_mem hkl)
  have hns : r.toPart.Small := ⟨h.pre.big.l1, h.pre.big.l2, h.pre.big.l3, h.pre.big.l4⟩
  have hsa := same_ok m.topics[i].parts[k] r.toPart hsm hns
  rw [hs] at hsa
  have hal := aloneP_ok r.toPart hns
  have q2 : (r.epoch != m.topics[i].parts[k].epoch) = false := by simpa using e1
  have q3 : (r.leader != m.topics[i].parts[k].leader) = false := by simpa using e2
  refine turns_E ⟨none, [.uq (m.brokers.map encB), .uq (mixM encTO encTO m.topics i (.agg [I m.topics[i].id, St m.topics[i].name, .uq (mixM encPO encPO m.topics[i].parts k (encP r.toPart))])), .uq (m.configs.map encC), .uq (m.done.map encD), I m.last], ?_, pv_put m r hil hkl h.pre.ts h.hid h.part, rfl⟩
  simp only [Record.toPart, encP_eq, errO_none] at hrt hsa hal ⊢
  have q1 : (r.kind == 8) = false := by simpa using h.kind
  have hrp := h.part
  have v1 := pv_E2 m i k hil hkl
  have v2 := pv_E1 hkl
  simp only [encP_eq] at v1 v2
  have hk3 : (m.topics[i].parts.length ≤ k) = False := eq_false (by omega)
  refine s24.callM (os := [.own (cellsO m)]) mo (by simp) fun ho hx => ?_
  clear ho hx
  unfold c24; dsimp only [oA, oB, oC, oD, oF, oG, oJ, oK, oL, oM, oN, oO, oP, oQ, oR, oS, oU, oW, oX]
  iterate 1 (
      (repeat with_reducible first | refine thN ?_ | refine inN ?_ | refine fF ?_ | refine fQ ?_ | refine fR ?_ | refine fC ?_ | refine awBlock ?_)
      ((with_reducible refine awReg fun K hok hK => ?_); clear hok; (try simp (maxSteps := 10000000) (disch := first | omega | simp) []); (repeat' first | (with_reducible refine hK _ (by simp) ?_) | ((first | ((with_reducible refine sideQ' ?_ ?_ fun K2 hK2 => ?_); exact rfl; exact rfl; (try simp (maxSteps := 10000000) (disch := first | omega | simp) []); with_reducible refine hK2 _ _ ?_; clear hK2 K2) | ((with_reducible refine side' ?_ fun K2 hK2 => ?_); exact rfl; (try simp (maxSteps := 10000000) (disch := first | omega | simp) []); refine hK2 _ _ (by simp) ?_; clear hK2 K2)); (try simp (maxSteps := 10000000) (disch := first | omega | simp) []))) <;> clear hK K))
  refine awWk (ofA [(3, .p (.own (encR r).cells)), (0, .p (.own (cellsE m i k hil (encP m.topics[i].parts[k]))))]) ((Wk.ofA (by simp)).trans (frz_two m i k hil hkl _)) ?_
  simp only [cellsE, elemT]
  repeat' first | (with_reducible first | refine thN ?_ | refine inN ?_ | refine fF ?_ | refine fS ?_ | refine fR ?_ | refine fQ ?_ | refine fC ?_ | refine awBlock ?_ | refine awRet ?_ | refine awSkip ?_) | ((with_reducible refine awReg fun K hok hK => ?_); clear hok; (try simp (maxSteps := 10000000) (disch := first | omega | simp) [hil, hkl, hk3, hrp, q1, q2, q3, v1, v2, isConst]); (repeat' first | (with_reducible refine hK _ (by simp) ?_) | ((first | ((with_reducible refine callS' fun K2 hK2 => ?_); (try simp (maxSteps := 10000000) (disch := first | omega | simp) [hil, hkl, hk3, hrp, q1, q2, q3, v1, v2, isConst]); (first | refine hK2 _ _ ht rfl fun hk9 => ?_ | refine hK2 _ _ hrt rfl fun hk9 => ?_ | refine hK2 _ _ hsa rfl fun hk9 => ?_ | refine hK2 _ _ hal rfl fun hk9 => ?_); clear hk9; clear hK2 K2) | ((with_reducible refine sideF' fun K2 hK2 => ?_); (try simp (maxSteps := 10000000) (disch := first | omega | simp) [hil, hkl, hk3, hrp, q1, q2, q3, v1, v2, isConst]); (first | refine hK2 _ _ _ ht (by simp) ?_ | refine hK2 _ _ _ hrt (by simp) ?_ | refine hK2 _ _ _ hsa (by simp) ?_ | refine hK2 _ _ _ hal (by simp) ?_); clear hK2 K2) | ((with_reducible refine sideQ' ?_ ?_ fun K2 hK2 => ?_); exact rfl; exact rfl; (try simp (maxSteps := 10000000) (disch := first | omega | simp) [hil, hkl, hk3, hrp, q1, q2, q3, v1, v2, isConst]); with_reducible refine hK2 _ _ ?_; clear hK2 K2) | ((with_reducible refine side' ?_ fun K2 hK2 => ?_); exact rfl; (try simp (maxSteps := 10000000) (disch := first | omega | simp) [hil, hkl, hk3, hrp, q1, q2, q3, v1, v2, isConst]); refine hK2 _ _ (by simp) ?_; clear hK2 K2)); (try simp (maxSteps := 10000000) (disch := first | omega | simp) [hil, hkl, hk3, hrp, q1, q2, q3, v1, v2, isConst]))) <;> clear hK K) | ((with_reducible refine awCond fun A B hA hB => ?_); simp (maxSteps := 10000000) (disch := first | omega | simp) [hil, hkl, hk3, hrp, q1, q2, q3, v1, v2, isConst]; (first | refine ⟨fun h => hA ?_, fun h => hB ?_⟩ | refine hA ?_ | refine hB ?_) <;> (clear hA hB A B; (try (exfalso; omega))))
  (refine aEnR (aRes [] fun K hK => ?_); simp (maxSteps := 10000000) (disch := first | omega | simp) []; refine hK _ ?_ (by simp); clear hK; first | done | (simp (maxSteps := 10000000) (disch := first | omega | simp) [*]; done) | (simp (maxSteps := 10000000) (disch := first | omega | simp) [*]; omega) | (simp_all []; done) | (simp_all []; omega))
theorem parts_setb {m : Image} {r : Record} {i k : Nat} (h : ChPre m r i k) (hps : ∀ t ∈ m.topics, ∀ p ∈ t.parts, p.Small) (hs : ((m.topics[i]'h.hi).parts[k]'h.hk).same r.toPart = false) (e1 : r.epoch = ((m.topics[i]'h.hi).parts[k]'h.hk).epoch + 1) (e2 : r.leader = ((m.topics[i]'h.hi).parts[k]'h.hk).leader) : TurnsE pg 24 m r (m.putPart r.topic r.part.toNat r.toPart, 0) := by
  have hil := h.hi
  have hkl := h.hk
  have hpl := h.pre.pl _ (List.getElem_mem hil)
  have htl := h.pre.tl
  have hep := h.pre.ep _ (List.getElem_mem hil) _ (List.getElem_mem hkl)
  have ht := h.ht
  have hrt := iright_ok m r.toPart h.pre.bs h.pre.br (by have := h.pre.bl; omega) h.pre.big
  rw [h.right] at hrt
  have hsm : m.topics[i].parts[k].Small := hps _ (List.getElem_mem hil) _ (List.getElem_mem hkl)
  have hns : r.toPart.Small := ⟨h.pre.big.l1, h.pre.big.l2, h.pre.big.l3, h.pre.big.l4⟩
  have hsa := same_ok m.topics[i].parts[k] r.toPart hsm hns
  rw [hs] at hsa
  have hal := aloneP_ok r.toPart hns
  have q2 : (r.epoch != m.topics[i].parts[k].epoch) = true := by simp; omega
  have q4 : (r.epoch != m.topics[i].parts[k].epoch + 1) = false := by simpa using e1
  have q3 : (r.leader != m.topics[i].parts[k].leader) = false := by simpa using e2
  refine turns_E ⟨none, [.uq (m.brokers.map encB), .uq (mixM encTO encTO m.topics i (.agg [I m.topics[i].id, St m.topics[i].name, .uq (mixM encPO encPO m.topics[i].parts k (encP r.toPart))])), .uq (m.configs.map encC), .uq (m.done.map encD), I m.last], ?_, pv_put m r hil hkl h.pre.ts h.hid h.part, rfl⟩
  simp only [Record.toPart, encP_eq, errO_none] at hrt hsa hal ⊢
  have q1 : (r.kind == 8) = false := by simpa using h.kind
  have hrp := h.part
  have v1 := pv_E2 m i k hil hkl
  have v2 := pv_E1 hkl
  simp only [encP_eq] at v1 v2
  have hk3 : (m.topics[i].parts.length ≤ k) = False := eq_false (by omega)
  refine s24.callM (os := [.own (cellsO m)]) mo (by simp) fun ho hx => ?_
  clear ho hx
  unfold c24; dsimp only [oA, oB, oC, oD, oF, oG, oJ, oK, oL, oM, oN, oO, oP, oQ, oR, oS, oU, oW, oX]
  iterate 1 (
      (repeat with_reducible first | refine thN ?_ | refine inN ?_ | refine fF ?_ | refine fQ ?_ | refine fR ?_ | refine fC ?_ | refine awBlock ?_)
      ((with_reducible refine awReg fun K hok hK => ?_); clear hok; (try simp (maxSteps := 10000000) (disch := first | omega | simp) []); (repeat' first | (with_reducible refine hK _ (by simp) ?_) | ((first | ((with_reducible refine sideQ' ?_ ?_ fun K2 hK2 => ?_); exact rfl; exact rfl; (try simp (maxSteps := 10000000) (disch := first | omega | simp) []); with_reducible refine hK2 _ _ ?_; clear hK2 K2) | ((with_reducible refine side' ?_ fun K2 hK2 => ?_); exact rfl; (try simp (maxSteps := 10000000) (disch := first | omega | simp) []); refine hK2 _ _ (by simp) ?_; clear hK2 K2)); (try simp (maxSteps := 10000000) (disch := first | omega | simp) []))) <;> clear hK K))
  refine awWk (ofA [(3, .p (.own (encR r).cells)), (0, .p (.own (cellsE m i k hil (encP m.topics[i].parts[k]))))]) ((Wk.ofA (by simp)).trans (frz_two m i k hil hkl _)) ?_
  simp only [cellsE, elemT]
  repeat' first | (with_reducible first | refine thN ?_ | refine inN ?_ | refine fF ?_ | refine fS ?_ | refine fR ?_ | refine fQ ?_ | refine fC ?_ | refine awBlock ?_ | refine awRet ?_ | refine awSkip ?_) | ((with_reducible refine awReg fun K hok hK => ?_); clear hok; (try simp (maxSteps := 10000000) (disch := first | omega | simp) [hil, hkl, hk3, hrp, q1, q2, q3, q4, v1, v2, isConst]); (repeat' first | (with_reducible refine hK _ (by simp) ?_) | ((first | ((with_reducible refine callS' fun K2 hK2 => ?_); (try simp (maxSteps := 10000000) (disch := first | omega | simp) [hil, hkl, hk3, hrp, q1, q2, q3, q4, v1, v2, isConst]); (first | refine hK2 _ _ ht rfl fun hk9 => ?_ | refine hK2 _ _ hrt rfl fun hk9 => ?_ | refine hK2 _ _ hsa rfl fun hk9 => ?_ | refine hK2 _ _ hal rfl fun hk9 => ?_); clear hk9; clear hK2 K2) | ((with_reducible refine sideF' fun K2 hK2 => ?_); (try simp (maxSteps := 10000000) (disch := first | omega | simp) [hil, hkl, hk3, hrp, q1, q2, q3, q4, v1, v2, isConst]); (first | refine hK2 _ _ _ ht (by simp) ?_ | refine hK2 _ _ _ hrt (by simp) ?_ | refine hK2 _ _ _ hsa (by simp) ?_ | refine hK2 _ _ _ hal (by simp) ?_); clear hK2 K2) | ((with_reducible refine sideQ' ?_ ?_ fun K2 hK2 => ?_); exact rfl; exact rfl; (try simp (maxSteps := 10000000) (disch := first | omega | simp) [hil, hkl, hk3, hrp, q1, q2, q3, q4, v1, v2, isConst]); with_reducible refine hK2 _ _ ?_; clear hK2 K2) | ((with_reducible refine side' ?_ fun K2 hK2 => ?_); exact rfl; (try simp (maxSteps := 10000000) (disch := first | omega | simp) [hil, hkl, hk3, hrp, q1, q2, q3, q4, v1, v2, isConst]); refine hK2 _ _ (by simp) ?_; clear hK2 K2)); (try simp (maxSteps := 10000000) (disch := first | omega | simp) [hil, hkl, hk3, hrp, q1, q2, q3, q4, v1, v2, isConst]))) <;> clear hK K) | ((with_reducible refine awCond fun A B hA hB => ?_); simp (maxSteps := 10000000) (disch := first | omega | simp) [hil, hkl, hk3, hrp, q1, q2, q3, q4, v1, v2, isConst]; (first | refine ⟨fun h => hA ?_, fun h => hB ?_⟩ | refine hA ?_ | refine hB ?_) <;> (clear hA hB A B; (try (exfalso; omega))))
  (refine aEnR (aRes [] fun K hK => ?_); simp (maxSteps := 10000000) (disch := first | omega | simp) []; refine hK _ ?_ (by simp); clear hK; first | done | (simp (maxSteps := 10000000) (disch := first | omega | simp) [*]; done) | (simp (maxSteps := 10000000) (disch := first | omega | simp) [*]; omega) | (simp_all []; done) | (simp_all []; omega))
theorem parts_setc {m : Image} {r : Record} {i k : Nat} (h : ChPre m r i k) (hps : ∀ t ∈ m.topics, ∀ p ∈ t.parts, p.Small) (hs : ((m.topics[i]'h.hi).parts[k]'h.hk).same r.toPart = false) (e1 : r.epoch = ((m.topics[i]'h.hi).parts[k]'h.hk).epoch + 1) (e2 : r.leader ≠ ((m.topics[i]'h.hi).parts[k]'h.hk).leader) : TurnsE pg 24 m r (m.putPart r.topic r.part.toNat r.toPart, 0) := by
  have hil := h.hi
  have hkl := h.hk
  have hpl := h.pre.pl _ (List.getElem_mem hil)
  have htl := h.pre.tl
  have hep := h.pre.ep _ (List.getElem_mem hil) _ (List.getElem_mem hkl)
  have ht := h.ht
  have hrt := iright_ok m r.toPart h.pre.bs h.pre.br (by have := h.pre.bl; omega) h.pre.big
  rw [h.right] at hrt
  have hsm : m.topics[i].parts[k].Small := hps _ (List.getElem_mem hil) _ (List.getElem_mem hkl)
  have hns : r.toPart.Small := ⟨h.pre.big.l1, h.pre.big.l2, h.pre.big.l3, h.pre.big.l4⟩
  have hsa := same_ok m.topics[i].parts[k] r.toPart hsm hns
  rw [hs] at hsa
  have hal := aloneP_ok r.toPart hns
  have q2 : (r.epoch != m.topics[i].parts[k].epoch) = true := by simp; omega
  have q4 : (r.epoch != m.topics[i].parts[k].epoch + 1) = false := by simpa using e1
  have q3 : (r.leader != m.topics[i].parts[k].leader) = true := by simpa using e2
  have q5 : (r.epoch == m.topics[i].parts[k].epoch) = false := by simp; omega
  refine turns_E ⟨none, [.uq (m.brokers.map encB), .uq (mixM encTO encTO m.topics i (.agg [I m.topics[i].id, St m.topics[i].name, .uq (mixM encPO encPO m.topics[i].parts k (encP r.toPart))])), .uq (m.configs.map encC), .uq (m.done.map encD), I m.last], ?_, pv_put m r hil hkl h.pre.ts h.hid h.part, rfl⟩
  simp only [Record.toPart, encP_eq, errO_none] at hrt hsa hal ⊢
  have q1 : (r.kind == 8) = false := by simpa using h.kind
  have hrp := h.part
  have v1 := pv_E2 m i k hil hkl
  have v2 := pv_E1 hkl
  simp only [encP_eq] at v1 v2
  have hk3 : (m.topics[i].parts.length ≤ k) = False := eq_false (by omega)
  refine s24.callM (os := [.own (cellsO m)]) mo (by simp) fun ho hx => ?_
  clear ho hx
  unfold c24; dsimp only [oA, oB, oC, oD, oF, oG, oJ, oK, oL, oM, oN, oO, oP, oQ, oR, oS, oU, oW, oX]
  iterate 1 (
      (repeat with_reducible first | refine thN ?_ | refine inN ?_ | refine fF ?_ | refine fQ ?_ | refine fR ?_ | refine fC ?_ | refine awBlock ?_)
      ((with_reducible refine awReg fun K hok hK => ?_); clear hok; (try simp (maxSteps := 10000000) (disch := first | omega | simp) []); (repeat' first | (with_reducible refine hK _ (by simp) ?_) | ((first | ((with_reducible refine sideQ' ?_ ?_ fun K2 hK2 => ?_); exact rfl; exact rfl; (try simp (maxSteps := 10000000) (disch := first | omega | simp) []); with_reducible refine hK2 _ _ ?_; clear hK2 K2) | ((with_reducible refine side' ?_ fun K2 hK2 => ?_); exact rfl; (try simp (maxSteps := 10000000) (disch := first | omega | simp) []); refine hK2 _ _ (by simp) ?_; clear hK2 K2)); (try simp (maxSteps := 10000000) (disch := first | omega | simp) []))) <;> clear hK K))
  refine awWk (ofA [(3, .p (.own (encR r).cells)), (0, .p (.own (cellsE m i k hil (encP m.topics[i].parts[k]))))]) ((Wk.ofA (by simp)).trans (frz_two m i k hil hkl _)) ?_
  simp only [cellsE, elemT]
  repeat' first | (with_reducible first | refine thN ?_ | refine inN ?_ | refine fF ?_ | refine fS ?_ | refine fR ?_ | refine fQ ?_ | refine fC ?_ | refine awBlock ?_ | refine awRet ?_ | refine awSkip ?_) | ((with_reducible refine awReg fun K hok hK => ?_); clear hok; (try simp (maxSteps := 10000000) (disch := first | omega | simp) [hil, hkl, hk3, hrp, q1, q2, q3, q4, q5, v1, v2, isConst]); (repeat' first | (with_reducible refine hK _ (by simp) ?_) | ((first | ((with_reducible refine callS' fun K2 hK2 => ?_); (try simp (maxSteps := 10000000) (disch := first | omega | simp) [hil, hkl, hk3, hrp, q1, q2, q3, q4, q5, v1, v2, isConst]); (first | refine hK2 _ _ ht rfl fun hk9 => ?_ | refine hK2 _ _ hrt rfl fun hk9 => ?_ | refine hK2 _ _ hsa rfl fun hk9 => ?_ | refine hK2 _ _ hal rfl fun hk9 => ?_); clear hk9; clear hK2 K2) | ((with_reducible refine sideF' fun K2 hK2 => ?_); (try simp (maxSteps := 10000000) (disch := first | omega | simp) [hil, hkl, hk3, hrp, q1, q2, q3, q4, q5, v1, v2, isConst]); (first | refine hK2 _ _ _ ht (by simp) ?_ | refine hK2 _ _ _ hrt (by simp) ?_ | refine hK2 _ _ _ hsa (by simp) ?_ | refine hK2 _ _ _ hal (by simp) ?_); clear hK2 K2) | ((with_reducible refine sideQ' ?_ ?_ fun K2 hK2 => ?_); exact rfl; exact rfl; (try simp (maxSteps := 10000000) (disch := first | omega | simp) [hil, hkl, hk3, hrp, q1, q2, q3, q4, q5, v1, v2, isConst]); with_reducible refine hK2 _ _ ?_; clear hK2 K2) | ((with_reducible refine side' ?_ fun K2 hK2 => ?_); exact rfl; (try simp (maxSteps := 10000000) (disch := first | omega | simp) [hil, hkl, hk3, hrp, q1, q2, q3, q4, q5, v1, v2, isConst]); refine hK2 _ _ (by simp) ?_; clear hK2 K2)); (try simp (maxSteps := 10000000) (disch := first | omega | simp) [hil, hkl, hk3, hrp, q1, q2, q3, q4, q5, v1, v2, isConst]))) <;> clear hK K) | ((with_reducible refine awCond fun A B hA hB => ?_); simp (maxSteps := 10000000) (disch := first | omega | simp) [hil, hkl, hk3, hrp, q1, q2, q3, q4, q5, v1, v2, isConst]; (first | refine ⟨fun h => hA ?_, fun h => hB ?_⟩ | refine hA ?_ | refine hB ?_) <;> (clear hA hB A B; (try (exfalso; omega))))
  (refine aEnR (aRes [] fun K hK => ?_); simp (maxSteps := 10000000) (disch := first | omega | simp) []; refine hK _ ?_ (by simp); clear hK; first | done | (simp (maxSteps := 10000000) (disch := first | omega | simp) [*]; done) | (simp (maxSteps := 10000000) (disch := first | omega | simp) [*]; omega) | (simp_all []; done) | (simp_all []; omega))
end
end Go.Am
end
section
set_option maxRecDepth 100000
set_option maxHeartbeats 0
namespace Go.Am
open Go
noncomputable section
theorem parts_ok (m : Image) (r : Record) (h : PartsPre m r) (hps : ∀ t ∈ m.topics, ∀ p ∈ t.parts, p.Small) : TurnsE pg 24 m r (m.partRec r) := by
  have hrc := right_code m r.toPart
  unfold Image.partRec
  cases hf : m.topic r.topic with
  | none => exact parts_none m r h hf
  | some t =>
    simp only
    cases hr : rightP m r.toPart with
    | some b =>
      rw [hr] at hrc
      have hbc : b.2.2 ≠ 0 := by
        unfold rightP at hr
        split at hr
        · cases hr; simp
        · split at hr
          · cases hr; simp
          · split at hr
            · cases hr; simp
            · split at hr
              · cases hr; simp
              · cases hr
      have e : m.right r.toPart = b.2.2 := by rw [← hrc]; simp only [cdO]; rw [if_neg hbc]
      rw [e, if_pos hbc]
      exact parts_bad m r h hf hr hbc
    | none =>
      rw [hr] at hrc
      rw [if_neg (by rw [← hrc]; simp [cdO])]
      by_cases hk : r.kind = 8
      · rw [if_pos hk]
        by_cases hn : r.part ≠ t.parts.length
        · rw [if_pos hn]; exact parts_10 m r h hf hr hk hn
        · rw [if_neg hn]; exact parts_new m r h hf hr hk (by omega)
      · rw [if_neg hk]
        by_cases hn : (t.parts.length : Int) ≤ r.part
        · rw [if_pos hn]; exact parts_8 m r h hf hr hk hn
        · rw [if_neg hn]
          obtain ⟨i, k, hc, hti, hk2⟩ := ch_of m r h hf hr hk (by omega)
          have hkl := hc.hk
          have e : (t.parts[r.part.toNat]?).getD zP = (m.topics[i]'hc.hi).parts[k]'hc.hk := by
            rw [← hti, hk2, List.getElem?_eq_getElem hkl]; rfl
          rw [e]
          by_cases c1 : r.epoch = ((m.topics[i]'hc.hi).parts[k]'hc.hk).epoch
          · by_cases c2 : r.leader = ((m.topics[i]'hc.hi).parts[k]'hc.hk).leader
            · rw [if_neg (by omega)]
              cases hs : ((m.topics[i]'hc.hi).parts[k]'hc.hk).same r.toPart with
              | true => rw [if_pos rfl]; exact parts_10b hc hps hs c1 c2
              | false => rw [if_neg (by simp)]; exact parts_seta hc hps hs c1 c2
            · rw [if_pos (by omega)]; exact parts_11b hc c1 c2
          · by_cases c3 : r.epoch = ((m.topics[i]'hc.hi).parts[k]'hc.hk).epoch + 1
            · rw [if_neg (by omega)]
              have hs : ((m.topics[i]'hc.hi).parts[k]'hc.hk).same r.toPart = false := by
                simp only [Part.same, Bool.and_eq_false_iff, beq_eq_false_iff_ne]
                left; left; left; left; right
                simp only [Record.toPart]
                exact fun h => c1 h.symm
              rw [hs, if_neg (by simp)]
              by_cases c2 : r.leader = ((m.topics[i]'hc.hi).parts[k]'hc.hk).leader
              · exact parts_setb hc hps hs c3 c2
              · exact parts_setc hc hps hs c3 c2
            · rw [if_pos (by omega)]; exact parts_11a hc c1 c3
end
end Go.Am
end
