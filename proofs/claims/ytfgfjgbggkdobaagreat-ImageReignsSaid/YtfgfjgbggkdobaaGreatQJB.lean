/- Part of the proof of a law of the image. -/
import Derived.Test.YtfgfjgbggkdobaaGreatQDG
import Derived.Test.YtfgfjgbggkdobaaGreatQIC
import Derived.Test.YtfgfjgbggkdobaaGreatQJA
import Derived.Test.YtfgfjgbggkdobaaGreatQPK
import Derived.Test.YtfgfjgbggkdobaaGreatQW0
set_option linter.all false
section
set_option maxRecDepth 100000
set_option maxHeartbeats 0
namespace Go.Am
open Go
noncomputable section
def c26 : SC := (.seq (.reg [oO 3 37 1,oD 4 (.assign (.const .nilIface))] [0,3,27,65]) (.seq (.reg [oU (oM 10 0) [13,14],oU (oD 11 (.nilCheck (.tmp 10))) [13,14],oU (oL 12 30 11) [13,14],oU (oF 13 37 3 3) [10,11,12],oU (oL 14 3 13) [10,11,12],oC 15 59 #[.tmp 12,.tmp 14] #[30,3],oM 9 15,oU (oX 16 9 0) [17],oU (oX 17 9 1) [16,5],oU (oG 5 16) [17],oG 6 17] [0,3,6,9,15,17,27,65]) (.seq (.reg [oM 18 6,oD 19 (.unOp .not 4 (.tmp 18)),oM 20 19,oW 20 true (oF 21 37 3 3),oW 20 true (oL 22 3 21),oW 20 true (oK 23 .neq 3 22 0 3),oQ 24 20 23 false] [0,3,19,20,23,24,27,65]) (.seq (.cond (.tmp 24) (.seq (.reg [oF 25 37 3 3,oL 26 3 25,oD 27 (.call { callee := .value (.func 39),args := #[.const (.string ⟨#[116,111,112,105,99]⟩),.tmp 26,.const (.int .i64 8)],argTypes := #[9,3,55] }),oG 4 27] [0,4,27,65]) .ret) .skip) (.seq (.reg [oU (oM 29 0) [32,33,34,35],oU (oD 30 (.nilCheck (.tmp 29))) [32,33,34,35],oU (oL 31 30 30) [32,33,34,35],oU (oF 32 37 3 3) [29,30,31,34,35],oU (oL 33 3 32) [29,30,31,34,35],oU (oF 34 37 3 11) [29,30,31,32,33],oU (oL 35 9 34) [29,30,31,32,33],oC 36 66 #[.tmp 31,.tmp 33,.tmp 35] #[30,3,9],oM 28 36,oU (oX 37 28 0) [38],oU (oX 38 28 1) [37,7],oU (oG 7 37) [38],oG 8 38] [0,3,7,8,27,28,36,37,38,65]) (.seq (.block 0 (.seq (.reg [oF 57 37 3 9,oL 58 4 57,oM 59 58,oW 59 true (oM 60 8),oW 59 true (oD 61 (.unOp .not 4 (.tmp 60))),oQ 62 59 61 false,oG 56 62] [0,3,7,8,27,28,36,37,38,56,57,58,59,61,62,65]) (.seq (.cond (.tmp 56) (.seq (.reg [oF 63 37 3 3,oL 64 3 63,oD 65 (.call { callee := .value (.func 39),args := #[.const (.string ⟨#[99,111,110,102,105,103]⟩),.tmp 64,.const (.int .i64 8)],argTypes := #[9,3,55] }),oG 4 65] [0,4,27,65]) .ret) (.seq (.reg [oF 67 37 3 9,oL 68 4 67,oG 66 68] [0,3,7,8,27,28,36,37,38,65,66,67,68]) (.seq (.cond (.tmp 66) (.seq (.reg [oM 69 0,oM 70 0,oD 71 (.nilCheck (.tmp 70)),oF 72 30 71 2,oL 73 27 72,oM 74 7,oM 75 7,oK 76 .add 3 75 1 3,oC 77 67 #[.tmp 73,.tmp 74,.tmp 76] #[27,3,3],oD 78 (.nilCheck (.tmp 69)),oF 79 30 78 2,oS 27 79 77] [0,27,65]) .skip) (.seq (.reg [oM 81 8,oG 80 81] [0,3,7,8,27,28,36,37,38,65,80,81]) (.seq (.cond (.tmp 80) (.seq (.reg [oU (oM 82 0) [86,87,88],oU (oD 83 (.nilCheck (.tmp 82))) [86,87,88],oU (oF 84 30 83 2) [86,87,88],oU (oL 85 27 84) [86,87,88],oU (oM 86 7) [82,83,84,85,87,88],oU (oF 87 37 3 12) [82,83,84,85,86],oU (oL 88 9 87) [82,83,84,85,86],oJ 89 27 85 86,oF 90 67 89 2,oS 9 90 88] [0,27,65]) .skip) (.seq (.reg [oM 39 0,oM 40 0,oM 44 7,oU (oD 41 (.nilCheck (.tmp 40))) [45,46,47,48,49,50,51,52],oU (oF 42 30 41 2) [45,46,47,48,49,50,51,52],oU (oL 43 27 42) [45,46,47,48,49,50,51,52],oU (oF 45 37 3 3) [41,42,43,47,48,49,50],oU (oL 46 3 45) [41,42,43,47,48,49,50],oU (oF 47 37 3 11) [41,42,43,45,46,49,50],oU (oL 48 9 47) [41,42,43,45,46,49,50],oU (oF 49 37 3 12) [41,42,43,45,46,47,48],oU (oL 50 9 49) [41,42,43,45,46,47,48],oU (oD 51 (.build 67 #[(0,.tmp 46),(1,.tmp 48),(2,.tmp 50)])) [41,42,43],oU (oD 52 (.buildSlice 27 1 #[(0,.tmp 51)])) [41,42,43],oC 53 68 #[.tmp 43,.tmp 44,.tmp 52] #[27,3,27],oD 54 (.nilCheck (.tmp 39)),oF 55 30 54 2,oS 27 55 53] [0,27,65]) .skip)) .skip))) .skip))) .skip))) (.seq (.reg [oD 4 (.assign (.const .nilIface))] [0,4,27,65]) .ret)))))))
theorem s26 : TextK Proofs.Tryz.prog 1 26 91 [ResultVar.tmp 4] c26 := .mk' Proofs.Tryz.f26 _ (by kernel_rfl) rfl rfl rfl (by kernel_rfl) rfl (by kernel_rfl)
structure CfPre (m : Image) (r : Record) : Prop where
  ts : srtT m.topics
  ti : ∀ b ∈ m.topics, 1 ≤ b.id ∧ b.id ≤ 1073741824
  tl : m.topics.length ≤ 1000
  cs : srtC m.configs
  ct : ∀ c ∈ m.configs, 0 ≤ c.topic ∧ c.topic ≤ 1073741824
  cl : m.configs.length ≤ 1000
  tn : 0 ≤ r.topic ∧ r.topic ≤ 1073741824
theorem iconfig_ok (m : Image) (t : Int) (k : ByteArray) (hs : srtC m.configs) (hc : ∀ c ∈ m.configs, 0 ≤ c.topic ∧ c.topic ≤ 1073741824) (hl : m.configs.length ≤ 1000) (ht : 0 ≤ t ∧ t ≤ 1073741824) :
    ACall pg 66 [encM m, I t, St k] (.tup [I (posC m.configs t k), B (m.config t k).isSome]) := by
  have hb := bsearchC_ok m.configs ⟨t, k, ⟨#[]⟩⟩ 96 [] rfl (fun c => cmpC c ⟨t, k, ⟨#[]⟩⟩) (fun c hcm => by
    have := hc c hcm
    simpa using cmpC_ok c ⟨t, k, ⟨#[]⟩⟩ (by simp only; omega)) (posC m.configs t k) List.countP_le_length (by omega) (fun i hi => by
    rw [(cmp_ah _ _ _ _).1]; exact (count_pre (clo_C hs t k)).2.2 i hi)
  have e : (if h : posC m.configs t k < m.configs.length then cmpC m.configs[posC m.configs t k] ⟨t, k, ⟨#[]⟩⟩ == 0 else false) = (m.config t k).isSome := by
    unfold Image.config
    rw [conf_find hs]
    show _ = (if h : posC m.configs t k < m.configs.length then (if neC t k m.configs[posC m.configs t k] = true then none else some m.configs[posC m.configs t k]) else none).isSome
    split
    · rename_i hi
      have h2 := (cmp_ah m.configs[posC m.configs t k] t k ⟨#[]⟩).2
      cases hn : neC t k m.configs[posC m.configs t k] with
      | true =>
        have : cmpC m.configs[posC m.configs t k] ⟨t, k, ⟨#[]⟩⟩ ≠ 0 := fun h => by have := h2.1 h; rw [hn] at this; cases this
        simpa using this
      | false => simp [h2.2 hn]
    · rfl
  rw [e] at hb
  have hpl : posC m.configs t k ≤ 1000 := by unfold posC; have := List.countP_le_length (p := ahC t k) (l := m.configs); omega
  refine s66.call mo (by simp) fun hxs => ?_
  clear hxs
  generalize posC m.configs t k = i at *
  generalize (m.config t k).isSome = b at *
  unfold c66; dsimp only [oC, oD, oF, oG, oI, oL, oM, oO, oX, oZ]
  refine wk ?_
  all_goals exact fn0
abbrev cfg : ByteArray := bs [99, 111, 110, 102, 105, 103]
theorem cf_none (m : Image) (r : Record) (h : CfPre m r) (hf : m.topic r.topic = none) (h0 : r.topic ≠ 0) : Turns pg 26 m r (m, 8) := by
  have ht := itopic_ok m r.topic h.ts h.ti (by have := h.tl; omega) (by have := h.tn; unfold big62; omega)
  rw [hf] at ht
  refine ⟨some (tpc, r.topic, 8), cellsO m, ?_, pv_cells m, rfl⟩
  refine s26.callM (os := [.own (cellsO m)]) mo (by simp) fun ho hx => ?_
  clear ho hx
  unfold c26; dsimp only [oC, oD, oF, oG, oJ, oK, oL, oM, oO, oQ, oS, oU, oW, oX]
  have G := @new_ok
  have F := h0
  refine wkF ?_
  exact fn1
theorem cf_miss (m : Image) (r : Record) (h : CfPre m r) (hf : (m.topic r.topic).isSome = true ∨ r.topic = 0) (hg : r.flag = true) (hc : m.config r.topic r.key = none) : Turns pg 26 m r (m, 8) := by
  have ht := itopic_ok m r.topic h.ts h.ti (by have := h.tl; omega) (by have := h.tn; unfold big62; omega)
  have hcf := iconfig_ok m r.topic r.key h.cs h.ct h.cl h.tn
  rw [hc] at hcf
  refine ⟨some (cfg, r.topic, 8), cellsO m, ?_, pv_cells m, rfl⟩
  refine s26.callM (os := [.own (cellsO m)]) mo (by simp) fun ho hx => ?_
  clear ho hx
  unfold c26; dsimp only [oC, oD, oF, oG, oJ, oK, oL, oM, oO, oQ, oS, oU, oW, oX]
  cases hb : (m.topic r.topic).isSome with
  | true =>
    rw [hb] at ht
    have G := @new_ok
    have F := hg
    refine wkF ?_
    exact fn1
  | false =>
    rw [hb] at ht
    have h0 : r.topic = 0 := by rcases hf with hf | hf; rw [hb] at hf; cases hf; exact hf
    have q0 : (r.topic != 0) = false := by simp [h0]
    have G := @new_ok
    have F := And.intro hg q0
    refine wkF ?_
    exact fn1
end
end Go.Am
end
section
set_option maxRecDepth 100000
set_option maxHeartbeats 0
namespace Go.Am
open Go
noncomputable section
theorem cf_del (m : Image) (r : Record) (h : CfPre m r) (hf : (m.topic r.topic).isSome = true ∨ r.topic = 0) (hg : r.flag = true) {c : Config} (hc : m.config r.topic r.key = some c) : Turns pg 26 m r ({ m with configs := putC m.configs r }, 0) := by
  have ht := itopic_ok m r.topic h.ts h.ti (by have := h.tl; omega) (by have := h.tn; unfold big62; omega)
  have hcf := iconfig_ok m r.topic r.key h.cs h.ct h.cl h.tn
  have hcl := h.cl
  have hpl : posC m.configs r.topic r.key ≤ m.configs.length := List.countP_le_length
  unfold Image.config at hc
  rw [conf_find h.cs] at hc
  obtain ⟨hi, hn⟩ : ∃ hi : posC m.configs r.topic r.key < m.configs.length, neC r.topic r.key m.configs[posC m.configs r.topic r.key] = false := by
    split at hc
    · rename_i hi
      split at hc
      · cases hc
      · rename_i hn; exact ⟨hi, Bool.eq_false_iff.2 hn⟩
    · cases hc
  have hcs : (m.config r.topic r.key).isSome = true := by unfold Image.config; rw [conf_find h.cs]; rw [dif_pos (show m.configs.countP (ahC r.topic r.key) < m.configs.length from hi), if_neg (by rw [show neC r.topic r.key m.configs[m.configs.countP (ahC r.topic r.key)] = false from hn]; simp)]; rfl
  rw [hcs] at hcf
  have hpv : pvL ((m.configs.map encC).take (posC m.configs r.topic r.key) ++ (m.configs.map encC).drop (posC m.configs r.topic r.key + 1)) = (putC m.configs r).map encC := by
    rw [del_there r h.cs hg hi hn]
    simp only [pvL_append, pvL_take, pvL_drop, pvL_C, List.map_append, List.map_take, List.map_drop] <;> rfl
  have hd := delC_ok (m.configs.map encC) (posC m.configs r.topic r.key) (by simpa using hi) (by intro y hy; obtain ⟨c, _, rfl⟩ := List.mem_map.1 hy; rfl)
  have hil : posC m.configs r.topic r.key < m.configs.length := hi
  clear hc hcs hn
  generalize hpp : posC m.configs r.topic r.key = i at *
  refine ⟨none, [.uq (m.brokers.map encB), .uq (m.topics.map encTO), .sl (pvL ((m.configs.map encC).take i ++ (m.configs.map encC).drop (i + 1))), .uq (m.done.map encD), I m.last], ?_, ?_, rfl⟩
  · refine s26.callM (os := [.own (cellsO m)]) mo (by simp) fun ho hx => ?_
    clear ho hx
    unfold c26; dsimp only [oC, oD, oF, oG, oJ, oK, oL, oM, oO, oQ, oS, oU, oW, oX]
    clear hpv
    cases hb : (m.topic r.topic).isSome with
    | true =>
      rw [hb] at ht
      have F := hg
      refine wkF ?_
      exact fn0
    | false =>
      rw [hb] at ht
      have h0 : r.topic = 0 := by rcases hf with hf | hf; rw [hb] at hf; cases hf; exact hf
      have q0 : (r.topic != 0) = false := by simp [h0]
      have F := And.intro hg q0
      refine wkF ?_
      exact fn0
  · simp only [pvL, pv, hpv, cellsM_eq, pvL_B, pvL_TO', pvL_D]
theorem cf_new (m : Image) (r : Record) (h : CfPre m r) (hf : (m.topic r.topic).isSome = true ∨ r.topic = 0) (hg : r.flag = false) (hc : m.config r.topic r.key = none) : Turns pg 26 m r ({ m with configs := putC m.configs r }, 0) := by
  have ht := itopic_ok m r.topic h.ts h.ti (by have := h.tl; omega) (by have := h.tn; unfold big62; omega)
  have hcf := iconfig_ok m r.topic r.key h.cs h.ct h.cl h.tn
  have hcl := h.cl
  have hpl : posC m.configs r.topic r.key ≤ m.configs.length := List.countP_le_length
  rw [hc] at hcf
  have hpv : pvL ((m.configs.map encC).take (posC m.configs r.topic r.key) ++ encC (newC r) :: (m.configs.map encC).drop (posC m.configs r.topic r.key)) = (putC m.configs r).map encC := by
    rw [put_fresh r h.cs hg hc]
    simp only [pvL_append, pvL_take, pvL, pvL_drop, pvL_C, List.map_append, List.map_cons, List.map_take, List.map_drop]
    congr 2
  have hin := insC_ok (m.configs.map encC) (encC (newC r)) (posC m.configs r.topic r.key) (by simpa using hpl) (by simp; omega) (by intro y hy; rcases List.mem_cons.1 hy with rfl | hy; rfl; obtain ⟨c, _, rfl⟩ := List.mem_map.1 hy; rfl)
  clear hc
  generalize hpp : posC m.configs r.topic r.key = i at *
  refine ⟨none, [.uq (m.brokers.map encB), .uq (m.topics.map encTO), .uq ((m.configs.map encC).take i ++ encC (newC r) :: (m.configs.map encC).drop i), .uq (m.done.map encD), I m.last], ?_, ?_, rfl⟩
  · refine s26.callM (os := [.own (cellsO m)]) mo (by simp) fun ho hx => ?_
    clear ho hx
    rw [show encC (newC r) = .agg [I r.topic, St r.key, St r.value] from rfl] at hin ⊢
    unfold c26; dsimp only [oC, oD, oF, oG, oJ, oK, oL, oM, oO, oQ, oS, oU, oW, oX]
    clear hpv
    cases hb : (m.topic r.topic).isSome with
    | true =>
      rw [hb] at ht
      have F := hg
      refine wkF ?_
      exact fn0
    | false =>
      rw [hb] at ht
      have h0 : r.topic = 0 := by rcases hf with hf | hf; rw [hb] at hf; cases hf; exact hf
      have q0 : (r.topic != 0) = false := by simp [h0]
      have F := And.intro hg q0
      refine wkF ?_
      exact fn0
  · simp only [pvL, pv, hpv, cellsM_eq, pvL_B, pvL_TO', pvL_D]
theorem cf_set (m : Image) (r : Record) (h : CfPre m r) (hf : (m.topic r.topic).isSome = true ∨ r.topic = 0) (hg : r.flag = false) {c : Config} (hc : m.config r.topic r.key = some c) : Turns pg 26 m r ({ m with configs := putC m.configs r }, 0) := by
  have ht := itopic_ok m r.topic h.ts h.ti (by have := h.tl; omega) (by have := h.tn; unfold big62; omega)
  have hcf := iconfig_ok m r.topic r.key h.cs h.ct h.cl h.tn
  have hcl := h.cl
  have hpl : posC m.configs r.topic r.key ≤ m.configs.length := List.countP_le_length
  unfold Image.config at hc
  rw [conf_find h.cs] at hc
  obtain ⟨hi, hn⟩ : ∃ hi : posC m.configs r.topic r.key < m.configs.length, neC r.topic r.key m.configs[posC m.configs r.topic r.key] = false := by
    split at hc
    · rename_i hi
      split at hc
      · cases hc
      · rename_i hn; exact ⟨hi, Bool.eq_false_iff.2 hn⟩
    · cases hc
  have hcs : (m.config r.topic r.key).isSome = true := by unfold Image.config; rw [conf_find h.cs]; rw [dif_pos (show m.configs.countP (ahC r.topic r.key) < m.configs.length from hi), if_neg (by rw [show neC r.topic r.key m.configs[m.configs.countP (ahC r.topic r.key)] = false from hn]; simp)]; rfl
  rw [hcs] at hcf
  have hpv : pvL (mixM encC encC m.configs (posC m.configs r.topic r.key) (encC (newC r))) = (putC m.configs r).map encC := by
    rw [put_there r h.cs hg hi hn]
    simp only [mixM, pvL_append, pvL, pvL_C, List.map_append, List.map_cons]
    congr 2
  have hil : posC m.configs r.topic r.key < m.configs.length := hi
  have hkk : m.configs[posC m.configs r.topic r.key].topic = r.topic ∧ m.configs[posC m.configs r.topic r.key].key = r.key := by
    have hn2 := hn
    simp only [neC, Bool.or_eq_false_iff, bne_eq_false_iff_eq, Bool.not_eq_false'] at hn2
    exact ⟨hn2.1, (eqS_iff _ _).1 hn2.2⟩
  obtain ⟨k1, k2⟩ := hkk
  have pvm : pvL (mixL encC encC m.configs (posC m.configs r.topic r.key)) = m.configs.map encC := by rw [mixL_same', pvL_C]
  clear hc hcs hn
  generalize hpp : posC m.configs r.topic r.key = i at *
  refine ⟨none, [.uq (m.brokers.map encB), .uq (m.topics.map encTO), .uq (mixM encC encC m.configs i (encC (newC r))), .uq (m.done.map encD), I m.last], ?_, ?_, rfl⟩
  · refine s26.callM (os := [.own (cellsO m)]) mo (by simp) fun ho hx => ?_
    clear ho hx
    rw [cellsO_eq, ← mixL_same' encC m.configs i, show encC (newC r) = .agg [I r.topic, St r.key, St r.value] from rfl]
    unfold c26; dsimp only [oC, oD, oF, oG, oJ, oK, oL, oM, oO, oQ, oS, oU, oW, oX]
    clear hpv
    cases hb : (m.topic r.topic).isSome with
    | true =>
      rw [hb] at ht
      have F := And.intro hg (And.intro hil (And.intro pvm (And.intro k1 k2)))
      refine wkF ?_
      exact fn0
    | false =>
      rw [hb] at ht
      have h0 : r.topic = 0 := by rcases hf with hf | hf; rw [hb] at hf; cases hf; exact hf
      have q0 : (r.topic != 0) = false := by simp [h0]
      have F := And.intro hg (And.intro hil (And.intro pvm (And.intro k1 (And.intro k2 q0))))
      refine wkF ?_
      exact fn0
  · simp only [pvL, pv, hpv, cellsM_eq, pvL_B, pvL_TO', pvL_D]
theorem configs_ok (m : Image) (r : Record) (h : CfPre m r) : Turns pg 26 m r (m.configRec r) := by
  unfold Image.configRec
  by_cases h1 : (m.topic r.topic).isNone ∧ r.topic ≠ 0
  · rw [if_pos h1]
    exact cf_none m r h (by simpa using h1.1) h1.2
  · rw [if_neg h1]
    have hf : (m.topic r.topic).isSome = true ∨ r.topic = 0 := by
      cases hx : m.topic r.topic with
      | some t => exact .inl rfl
      | none => right; rw [hx] at h1; exact Decidable.byContradiction fun h0 => h1 ⟨rfl, h0⟩
    cases hg : r.flag with
    | true =>
      cases hc : m.config r.topic r.key with
      | none => rw [if_pos ⟨rfl, rfl⟩]; exact cf_miss m r h hf hg hc
      | some c => rw [if_neg (by simp)]; exact cf_del m r h hf hg hc
    | false =>
      rw [if_neg (by simp)]
      cases hc : m.config r.topic r.key with
      | none => exact cf_new m r h hf hg hc
      | some c => exact cf_set m r h hf hg hc
end
end Go.Am
end
