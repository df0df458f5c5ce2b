/- Part of the proof of a law of the image. -/
import Derived.Test.YtfgfjgbggkdobaaGreatQApp
import Derived.Test.YtfgfjgbggkdobaaGreatQData
import Derived.Test.YtfgfjgbggkdobaaGreatQIN
import Derived.Test.YtfgfjgbggkdobaaGreatQMN
import Derived.Test.YtfgfjgbggkdobaaGreatQPK
import Derived.Test.YtfgfjgbggkdobaaGreatQW0
import Derived.Test.YtfgfjgbggkdobaaGreatChecked
import Derived.WalkKit
import Derived.Lib.Overlaps
import Derived.Lib.AppendZerosOnto
set_option linter.all false
section
set_option maxRecDepth 100000
set_option maxHeartbeats 0
namespace Go.Am
open Go
noncomputable section
def c96 : SC := (.seq (.reg [oO 2 67 0,oO 3 67 1,oI 4 0] [2,3,15]) (.seq (.block 0 (.seq (.reg [oF 6 67 2 0,oL 7 3 6,oF 8 67 3 0,oL 9 3 8,oB 10 .neq 3 7 9 3,oG 5 10] [2,3,5,10,15]) (.seq (.cond (.tmp 5) (.seq (.reg [oF 11 67 2 0,oL 12 3 11,oF 13 67 3 0,oL 14 3 13,oB 15 .sub 3 12 14 3,oG 4 15] [4,15]) .ret) (.seq (.reg [oF 17 67 2 1,oL 18 9 17,oF 19 67 3 1,oL 20 9 19,oB 21 .lss 9 18 20 9,oG 16 21] [2,3,15,16,21]) (.seq (.cond (.tmp 16) (.seq (.reg [oD 4 (.assign (.const (.int .i64 (-1))))] [4,15]) .ret) (.seq (.reg [oF 23 67 2 1,oL 24 9 23,oF 25 67 3 1,oL 26 9 25,oB 27 .gtr 9 24 26 9,oG 22 27] [15,22,27]) (.seq (.cond (.tmp 22) (.seq (.reg [oI 4 1] [4,15]) .ret) .skip) .skip))) .skip))) .skip))) (.seq (.reg [oI 4 0] [4,15]) .ret)))
theorem s96 : TextK Proofs.Tryz.prog 0 96 28 [ResultVar.tmp 4] c96 := .mk' Proofs.Tryz.f96 _ (by kernel_rfl) rfl rfl rfl (by kernel_rfl) rfl (by kernel_rfl)
def c95 : SC := (.seq (.reg [oO 4 67 1,oI 6 0,oZ 7 false] [0,2,4,33]) (.seq (.reg [oM 12 0,oN 13 12 27,oG 8 13] [0,2,4,8,13,33]) (.seq (.reg [oM 14 8,oI 9 0,oG 10 14] [0,2,4,8,9,10,11,13,14,23,33,34]) (.seq (.block 0 (.seq (.loop (.seq (.reg [oM 15 9,oM 16 10,oB 17 .lss 3 15 16 3] [0,2,4,8,9,10,11,13,14,17,23,33,34]) (.seq (.cond (.tmp 17) .skip (.exit 0)) (.seq (.block 1 (.seq (.reg [oM 18 9,oM 19 10,oB 20 .add 3 18 19 3,oD 21 (.convert 3 154 (.tmp 20)),oD 22 (.binOp .shr 154 (.tmp 21) (.const (.int .u64 1)) 154),oD 23 (.convert 154 3 (.tmp 22)),oG 11 23] [0,2,4,8,9,10,11,13,14,23,33,34]) (.seq (.reg [oU (oM 24 2) [25,26,27,28,29],oU (oM 25 0) [24,26,29],oU (oM 26 11) [24,25,29],oU (oJ 27 27 25 26) [24,29],oU (oL 28 67 27) [24,29],oU (oL 29 67 4) [24,25,26,27,28],oD 30 (.call { callee := .value (.tmp 24),args := #[.tmp 28,.tmp 29],argTypes := #[67,67] }),oK 31 .lss 3 30 0 3] [0,2,4,8,9,10,11,13,14,23,31,33,34]) (.seq (.cond (.tmp 31) (.seq (.reg [oM 32 11,oK 33 .add 3 32 1 3,oG 9 33] [0,2,4,8,9,10,11,13,14,23,33,34]) .skip) (.seq (.reg [oM 34 11,oG 10 34] [0,2,4,8,9,10,11,13,14,23,33,34]) .skip)) .skip)))) .skip)))) .skip)) (.seq (.reg [oU (oM 35 9) [36,37,38,39,40,41,42,43,44,45,46,47,48],oU (oM 36 9) [35,37],oU (oM 37 8) [35,36],oU (oB 38 .lss 3 36 37 3) [35],oU (oM 39 38) [35],oU (oW 39 true (oM 40 2)) [35,41,42,43,44,45],oU (oW 39 true (oM 41 0)) [35,40,42,45],oU (oW 39 true (oM 42 9)) [35,40,41,45],oU (oW 39 true (oJ 43 27 41 42)) [35,40,45],oU (oW 39 true (oL 44 67 43)) [35,40,45],oU (oW 39 true (oL 45 67 4)) [35,40,41,42,43,44],oU (oW 39 true (oD 46 (.call { callee := .value (.tmp 40),args := #[.tmp 44,.tmp 45],argTypes := #[67,67] }))) [35],oU (oW 39 true (oK 47 .eql 3 46 0 3)) [35,6],oU (oQ 48 39 47 false) [35,6],oU (oG 6 35) [47,48],oG 7 48] [6,7,9,33,35,38,39,47,48]) .ret)))))
theorem s95 : TextK Proofs.Tryz.prog 0 95 49 [ResultVar.tmp 6, ResultVar.tmp 7] c95 := .mk' Proofs.Tryz.f95 _ (by kernel_rfl) rfl rfl rfl (by kernel_rfl) rfl (by kernel_rfl)
def c66 : SC := (.seq (.reg [oO 3 30 0,oI 6 0,oZ 7 false] [1,2,3]) (.seq (.reg [oF 8 30 3 2,oL 9 27 8,oM 10 1,oM 11 2,oD 12 (.build 67 #[(0,.tmp 10),(1,.tmp 11)]),oC 13 95 #[.tmp 9,.tmp 12,.func 96] #[27,67,135],oX 14 13 0,oX 15 13 1,oG 6 14,oG 7 15] [6,7,13,14,15]) .ret))
theorem s66 : TextK Proofs.Tryz.prog 0 66 16 [ResultVar.tmp 6, ResultVar.tmp 7] c66 := .mk' Proofs.Tryz.f66 _ (by kernel_rfl) rfl rfl rfl (by kernel_rfl) rfl (by kernel_rfl)
def cmpC (a b : Config) : Int := if a.topic ≠ b.topic then a.topic - b.topic else if lessS a.key b.key then -1 else if !(lessS a.key b.key || eqS a.key b.key) then 1 else 0
theorem cmpC_ok (a b : Config) (h : -9223372036854775808 ≤ a.topic - b.topic ∧ a.topic - b.topic ≤ 9223372036854775807) : ACall pg 96 [encC a, encC b] (I (cmpC a b)) := by
  refine s96.call mo (by simp) fun hxs => ?_
  clear hxs
  unfold c96; dsimp only [oB, oD, oF, oG, oI, oL, oO]
  by_cases h1 : a.topic = b.topic
  · have q1 : (a.topic != b.topic) = false := by simp [h1]
    cases h2 : lessS a.key b.key with
    | true =>
      have e : cmpC a b = -1 := by unfold cmpC; rw [if_neg (by simp [h1]), h2]; rfl
      rw [e]
      have F := And.intro q1 h2
      refine wkF ?_
      all_goals exact fn0
    | false =>
      cases h3 : eqS a.key b.key with
      | true =>
        have e : cmpC a b = 0 := by unfold cmpC; rw [if_neg (by simp [h1]), h2, h3]; rfl
        rw [e]
        have F := And.intro q1 (And.intro h2 h3)
        refine wkF ?_
        all_goals exact fn0
      | false =>
        have e : cmpC a b = 1 := by unfold cmpC; rw [if_neg (by simp [h1]), h2, h3]; rfl
        rw [e]
        have F := And.intro q1 (And.intro h2 h3)
        refine wkF ?_
        all_goals exact fn0
  · have q1 : (a.topic != b.topic) = true := by simpa using h1
    have e : cmpC a b = a.topic - b.topic := by unfold cmpC; rw [if_pos h1]
    rw [e]
    have F := q1
    refine wkF ?_
    all_goals exact fn0
theorem bsearchC_ok (l : List Config) (n : Config) (f : FuncId) (caps : List V) (hp : pureL caps = true) (c : Config → Int) (hc : ∀ x ∈ l, ACall pg f ([encC x, encC n] ++ caps) (I (c x))) (k : Nat) (hk : k ≤ l.length) (hl : l.length ≤ 1000000) (hi : ∀ i (h : i < l.length), i < k ↔ c l[i] < 0) :
    ACall pg 95 [.sl (l.map encC), encC n, .clo f caps] (.tup [I k, B (if h : k < l.length then c l[k] == 0 else false)]) := by
  refine s95.call mo (by simp) fun hxs => ?_
  clear hxs
  unfold c95; dsimp only [oB, oD, oG, oI, oJ, oK, oL, oM, oN, oO, oQ, oU, oW, oZ]
  have hv := pvL_pure caps hp
  simp only [encC_eq] at hc
  have F := And.intro hp hv
  refine wkF ?_
  refine awWhile (fun (s : Nat × Nat) => s.2 - s.1) (fun s => s.1 ≤ k ∧ k ≤ s.2 ∧ s.2 ≤ l.length) (fun s => [(10, .p (I s.2)), (9, .p (I s.1)), (8, .p (I l.length)), (4, .p (.own (encC n).cells)), (2, .p (.clo f caps)), (0, .p (.sl (l.map encC)))]) (0, l.length) (Wk.ofA (by simp)) (by simp; omega) fun s hs => ?_
  obtain ⟨i, j⟩ := s
  simp only at hs
  by_cases hlt : i < j
  · have e1 : IntKind.u64.wrap ((i : Int) + j) = i + j := by simp [IntKind.wrap, IntKind.bits, IntKind.signed]; omega
    obtain ⟨t, ht1, ht2, e2⟩ : ∃ t : Nat, i ≤ t ∧ t < j ∧ IntKind.i64.wrap (((i : Int) + j).fdiv (2 ^ min 1 IntKind.u64.bits)) = t := by
      refine ⟨(i + j) / 2, by omega, by omega, ?_⟩
      have : (2 : Int) ^ min 1 IntKind.u64.bits = 2 := by decide
      rw [this, Int.fdiv_eq_ediv_of_nonneg _ (by omega), i64_wrap (by omega)]; omega
    have hmid : t < l.length := by omega
    have hik := hi t hmid
    repeat' first | (with_reducible first | refine thN ?_ | refine thE ?_ | refine inN ?_ | refine inH ?_ | refine fS ?_ | refine fR ?_ | refine fQ ?_ | refine fE ?_ | refine awBlock ?_ | refine awExit ?_ | refine awRet ?_ | refine awSkip ?_) | ((with_reducible refine awReg fun K hok hK => ?_); clear hok; (try simp (maxSteps := 10000000) (disch := first | omega | simp) [e1, e2, hp, hv]); (repeat' first | (with_reducible refine hK _ (by simp) ?_) | ((with_reducible refine gdT (fun h => ?_) (fun h => ?_)) <;> (simp (maxSteps := 10000000) (disch := first | omega | simp) [h, e1, e2, hp, hv]; (try simp at h); (try (exfalso; omega)))) | ((first | ((with_reducible refine callCS' fun K2 hK2 => ?_); (try simp (maxSteps := 10000000) (disch := first | omega | simp) [e1, e2, hp, hv]); (refine hK2 _ _ _ _ (hc _ (List.getElem_mem hmid)) rfl fun hk9 => ?_); clear hk9; clear hK2 K2) | ((with_reducible refine sideCS' fun K2 hK2 => ?_); (try simp (maxSteps := 10000000) (disch := first | omega | simp) [e1, e2, hp, hv]); (refine hK2 _ _ _ _ (hc _ (List.getElem_mem hmid)) rfl ?_); clear hK2 K2) | ((with_reducible refine gdU ?_)) | ((with_reducible refine sideQ' ?_ ?_ fun K2 hK2 => ?_); exact rfl; exact rfl; (try simp (maxSteps := 10000000) (disch := first | omega | simp) [e1, e2, hp, hv]); with_reducible refine hK2 _ _ ?_; clear hK2 K2) | ((with_reducible refine side' ?_ fun K2 hK2 => ?_); exact rfl; (try simp (maxSteps := 10000000) (disch := first | omega | simp) [e1, e2, hp, hv]); refine hK2 _ _ (by simp) ?_; clear hK2 K2)); (try simp (maxSteps := 10000000) (disch := first | omega | simp) [e1, e2, hp, hv]))) <;> clear hK K) | ((with_reducible refine awCond fun A B hA hB => ?_); simp (maxSteps := 10000000) (disch := first | omega | simp) [e1, e2, hp, hv]; (first | refine ⟨fun h => hA ?_, fun h => hB ?_⟩ | refine hA ?_ | refine hB ?_) <;> (clear hA hB A B; (try (exfalso; omega))))
    · have := hik.2 h
      refine ⟨(t + 1, j), by simp only; omega, by simp only; omega, Wk.ofA (by simp)⟩
    · have : ¬ t < k := fun hh => by have := hik.1 hh; omega
      refine ⟨(i, t), by simp only; omega, by simp only; omega, Wk.ofA (by simp)⟩
  · have : i = k ∧ j = k := by omega
    obtain ⟨rfl, rfl⟩ := this
    by_cases hkl : j < l.length
    · repeat' first | (with_reducible first | refine thN ?_ | refine thE ?_ | refine inN ?_ | refine inH ?_ | refine fS ?_ | refine fR ?_ | refine fQ ?_ | refine fE ?_ | refine awBlock ?_ | refine awExit ?_ | refine awRet ?_ | refine awSkip ?_) | ((with_reducible refine awReg fun K hok hK => ?_); clear hok; (try simp (maxSteps := 10000000) (disch := first | omega | simp) [hp, hv]); (repeat' first | (with_reducible refine hK _ (by simp) ?_) | ((with_reducible refine gdT (fun h => ?_) (fun h => ?_)) <;> (simp (maxSteps := 10000000) (disch := first | omega | simp) [h, hp, hv]; (try simp at h); (try (exfalso; omega)))) | ((first | ((with_reducible refine callCS' fun K2 hK2 => ?_); (try simp (maxSteps := 10000000) (disch := first | omega | simp) [hp, hv]); (refine hK2 _ _ _ _ (hc _ (List.getElem_mem hkl)) rfl fun hk9 => ?_); clear hk9; clear hK2 K2) | ((with_reducible refine sideCS' fun K2 hK2 => ?_); (try simp (maxSteps := 10000000) (disch := first | omega | simp) [hp, hv]); (refine hK2 _ _ _ _ (hc _ (List.getElem_mem hkl)) rfl ?_); clear hK2 K2) | ((with_reducible refine gdU ?_)) | ((with_reducible refine sideQ' ?_ ?_ fun K2 hK2 => ?_); exact rfl; exact rfl; (try simp (maxSteps := 10000000) (disch := first | omega | simp) [hp, hv]); with_reducible refine hK2 _ _ ?_; clear hK2 K2) | ((with_reducible refine side' ?_ fun K2 hK2 => ?_); exact rfl; (try simp (maxSteps := 10000000) (disch := first | omega | simp) [hp, hv]); refine hK2 _ _ (by simp) ?_; clear hK2 K2)); (try simp (maxSteps := 10000000) (disch := first | omega | simp) [hp, hv]))) <;> clear hK K) | ((with_reducible refine awCond fun A B hA hB => ?_); simp (maxSteps := 10000000) (disch := first | omega | simp) [hp, hv]; (first | refine ⟨fun h => hA ?_, fun h => hB ?_⟩ | refine hA ?_ | refine hB ?_) <;> (clear hA hB A B; (try (exfalso; omega))))
      (refine aEnR (aRes [] fun K hK => ?_); simp (maxSteps := 10000000) (disch := first | omega | simp) [hkl]; refine hK _ ?_ (by simp); clear hK; first | done | (simp (maxSteps := 10000000) (disch := first | omega | simp) [hkl, *]; done) | (simp (maxSteps := 10000000) (disch := first | omega | simp) [hkl, *]; omega) | (simp_all [hkl]; done) | (simp_all [hkl]; omega))
    · have F := And.intro hp hv
      refine wkF ?_
      (refine aEnR (aRes [] fun K hK => ?_); simp (maxSteps := 10000000) (disch := first | omega | simp) [hkl]; refine hK _ ?_ (by simp); clear hK; first | done | (simp (maxSteps := 10000000) (disch := first | omega | simp) [hkl, *]; done) | (simp (maxSteps := 10000000) (disch := first | omega | simp) [hkl, *]; omega) | (simp_all [hkl]; done) | (simp_all [hkl]; omega))
def posC (l : List Config) (t : Int) (k : ByteArray) : Nat := l.countP (ahC t k)
theorem cmp_ah (c : Config) (t : Int) (k v : ByteArray) : (cmpC c ⟨t, k, v⟩ < 0 ↔ ahC t k c = true) ∧ (cmpC c ⟨t, k, v⟩ = 0 ↔ neC t k c = false) := by
  unfold cmpC ahC neC
  by_cases h1 : c.topic = t
  · rw [if_neg (by simp [h1])]
    simp only [h1]
    cases h2 : lessS c.key k with
    | true =>
      have : (c.key.toList == k.toList) = false := by
        cases h3 : (c.key.toList == k.toList) with
        | false => rfl
        | true => exfalso; unfold lessS at h2; rw [beq_iff_eq.1 h3, bl_irrefl] at h2; cases h2
      simp [this]
    | false =>
      cases h3 : (c.key.toList == k.toList) with
      | true => simp [eqS, h3]
      | false => simp [eqS, h3]
  · rw [if_pos h1]
    have e : (c.topic == t) = false := by simpa using h1
    simp only [e, bne, Bool.not_false, Bool.true_or, Bool.false_and, Bool.or_false, decide_eq_true_eq]
    constructor
    · omega
    · constructor
      · intro h; omega
      · intro h; cases h
end
end Go.Am
end
section
set_option maxRecDepth 100000
set_option maxHeartbeats 0
namespace Go.Am
open Go Go.Proofs Go.RowKit Go.Lib
noncomputable section
theorem ins_shiftC (b cap vb vc i n : Nat) (cur curx : Array Value) (e ex : TypeId) (w : World) (hb : w.heap[b]? = some (.cells cur e (0, 0))) (hx : w.heap[vb]? = some (.cells curx ex (0, 0))) (hne : vb ≠ b) (hi : i < n) (hroom : n + 1 ≤ cap)
    (hcap : cap ≤ 9223372036854775807) (hcur : cur.size = cap * 3) (hxs : 3 ≤ curx.size) (h1c : ∀ v ∈ cur.toList.take (n * 3), v.oneCell' = true) (h1x : ∀ v ∈ curx.toList.take 3, v.oneCell' = true) :
    Calls pg 68 #[.slice (some ⟨b, 0, none⟩) n cap, .int .i64 i, .slice (some ⟨vb, 0, none⟩) 1 vc] w fun r w' => r = .returned (.slice (some ⟨b, 0, none⟩) (n + 1) cap) ∧ But b w w' ∧
      ∃ cur2 : Array Value, w'.heap[b]? = some (.cells cur2 e (0, 0)) ∧ cur2.size = cap * 3 ∧ cur2.toList.take ((n + 1) * 3) = cur.toList.take (i * 3) ++ curx.toList.take 3 ++ (cur.toList.take (n * 3)).drop (i * 3) := by
  have mixed := mo
  have hov : ∀ lb cb, (callFunc 97 #[.slice (some ⟨vb, 0, none⟩) 1 vc, .slice (some ⟨b, (i + 1) * 3, none⟩) lb cb]).run Tryz.prog w = .ok (.value (.bool false)) w := fun lb cb => by
    rw [run_callFunc_extern Tryz.func97 (by kernel_rfl) (by kernel_rfl) (by kernel_rfl) (e := Extern.SlicesOverlaps.overlaps #[27, 27] #[4]) (by kernel_rfl),
      Lib.run_overlaps_apart w 27 4 67 Tryz.underlying27 3 Tryz.sizeOf67 ⟨vb, 0, none⟩ ⟨b, (i + 1) * 3, none⟩ 1 vc lb cb hne ex e curx.size cur.size (by simp [World.shape?, hx]) (by simp [World.shape?, hb]) (by omega) (by simp [World.frozen?, hx]) (by simp [World.frozen?, hx])]
    rfl
  have hz2 : ¬ ((i : Int) = (n : Int)) := by omega
  have hw1 : IntKind.i64.wrap ((n : Int) + 1) = (n : Int) + 1 := by rw [IntKind.wrap_i64]; omega
  have hw2 : IntKind.i64.wrap ((i : Int) + 1) = (i : Int) + 1 := by rw [IntKind.wrap_i64]; omega
  have hz3 : ¬ ((cap : Int) < (n : Int) + 1) := by omega
  have htn : ((i : Int) + 1).toNat = i + 1 := by omega
  have hinf : (Tryz.prog.info? 67).map (·.size) = some 3 := by kernel_rfl
  obtain ⟨mv, hmv⟩ : ∃ mv, mv = (cur.toList.take (n * 3)).drop (i * 3) := ⟨_, rfl⟩
  obtain ⟨xs, hxs'⟩ : ∃ xs, xs = curx.toList.take 3 := ⟨_, rfl⟩
  have hxl : xs.length = 3 := by rw [hxs']; simp; omega
  have hml : mv.length = (n - i) * 3 := by rw [hmv]; simp; omega
  obtain ⟨c1, hc1⟩ : ∃ c1 : Array Value, c1 = (cur.toList.take ((i + 1) * 3) ++ mv ++ cur.toList.drop ((i + 1) * 3 + mv.length)).toArray := ⟨_, rfl⟩
  have hc1s : c1.size = cap * 3 := by rw [hc1]; simp [hml]; omega
  obtain ⟨c2, hc2⟩ : ∃ c2 : Array Value, c2 = (c1.toList.take (i * 3) ++ xs ++ c1.toList.drop (i * 3 + xs.length)).toArray := ⟨_, rfl⟩
  have hc2s : c2.size = cap * 3 := by rw [hc2]; simp [hxl, hc1s]; omega
  have hb1 : w.drew.heap[b]? = some (.cells cur e (0, 0)) := hb
  have hcp1 : ∀ ty dc sc, (Builtin.copy_ #[27, 27] ty #[.slice (some ⟨b, (i + 1) * 3, none⟩) (n - i) dc, .slice (some ⟨b, i * 3, none⟩) (n + 1 - i) sc]).run Tryz.prog w.drew = .ok (goInt ((n - i : Nat) : Int)) (w.drew.setRow b c1) := fun ty dc sc => by
    have := run_copy_rowE (P := Tryz.prog) w.drew 27 27 ty 67 b ((i + 1) * 3) (n - i) dc ⟨b, i * 3, none⟩ (n + 1 - i) sc 3 (n - i) cur e mv Tryz.underlying27 hinf hb1 (by simp only [Nat.min_def]; split <;> omega) hml
      (fun j v hj => by
        rw [Addr.add_lit, hmv, List.getElem?_drop, List.getElem?_take] at *
        split at hj
        · simp only [World.cell?, hb1]; simpa using hj
        · cases hj) (by rw [hml, hcur]; omega) (fun v hv => h1c v (by rw [hmv] at hv; exact List.mem_of_mem_drop hv))
    rw [this, ← hc1]
  have hb2 : ∀ W : World, W.heap = (w.drew.setRow b c1).heap → W.heap[b]? = some (.cells c1 e (0, 0)) := fun W hW => by rw [hW]; exact setRow_heap w.drew b cur c1 e (0, 0) hb1
  have hx2 : ∀ W : World, W.heap = (w.drew.setRow b c1).heap → W.heap[vb]? = some (.cells curx ex (0, 0)) := fun W hW => by rw [hW, (But.setRow w.drew b c1).block vb hne]; exact hx
  have hcp2 : ∀ W : World, W.heap = (w.drew.setRow b c1).heap → ∀ ty dc, (Builtin.copy_ #[27, 27] ty #[.slice (some ⟨b, i * 3, none⟩) (n + 1 - i) dc, .slice (some ⟨vb, 0, none⟩) 1 vc]).run Tryz.prog W = .ok (goInt ((1 : Nat) : Int)) (W.setRow b c2) := fun W hW ty dc => by
    have := run_copy_rowE (P := Tryz.prog) W 27 27 ty 67 b (i * 3) (n + 1 - i) dc ⟨vb, 0, none⟩ 1 vc 3 1 c1 e xs Tryz.underlying27 hinf (hb2 W hW) (by simp only [Nat.min_def]; split <;> omega) (by omega)
      (fun j v hj => by
        rw [Addr.add_lit, hxs', List.getElem?_take] at *
        split at hj
        · simp only [World.cell?, hx2 W hW]; simpa using hj
        · cases hj) (by rw [hxl, hc1s]; omega) (fun v hv => h1x v (by rw [← hxs']; exact hv))
    rw [this, ← hc2]
  have hfin : But b w ((w.drew.setRow b c1).setRow b c2) ∧ ((w.drew.setRow b c1).setRow b c2).heap[b]? = some (.cells c2 e (0, 0)) := by
    refine ⟨((But.drew w b).trans (But.setRow _ b c1)).trans (But.setRow _ b c2), setRow_heap _ b c1 c2 e (0, 0) (hb2 _ rfl)⟩
  have hval : c2.toList.take ((n + 1) * 3) = cur.toList.take (i * 3) ++ curx.toList.take 3 ++ (cur.toList.take (n * 3)).drop (i * 3) := by
    rw [← hmv, ← hxs']
    have e1 : c1.toList.take (i * 3) = cur.toList.take (i * 3) := by
      rw [hc1]
      show (cur.toList.take ((i + 1) * 3) ++ mv ++ _).take (i * 3) = _
      rw [List.append_assoc, List.take_append_of_le_length (by simp; omega), List.take_take, Nat.min_eq_left (by omega)]
    have e2 : c1.toList.drop (i * 3 + xs.length) = mv ++ cur.toList.drop ((i + 1) * 3 + mv.length) := by
      rw [hc1]
      show (cur.toList.take ((i + 1) * 3) ++ mv ++ _).drop _ = _
      rw [List.append_assoc]
      exact List.drop_left' (by simp; omega)
    rw [hc2, e1, e2]
    show (cur.toList.take (i * 3) ++ xs ++ (mv ++ _)).take _ = _
    rw [← List.append_assoc]
    exact List.take_left' (by simp [hxl, hml]; omega)
  have hq1 : (0 : Int) ≤ (i : Int) + 1 := by omega
  have hin : i ≤ n := by omega
  have hq2 : ¬ (cap = i + 1) := by omega
  have hq3 : (i : Int) ≤ (n : Int) + 1 := by omega
  have hq4 : ¬ (cap = i) := by omega
  clear hmv hxs' hc1 hc2
  go_enter Tryz.func68, Tryz.ntmps68
  go_wp2_with (simp only [hov])
  go_region_law_o (refine step_copy_runI rfl _ _ 27 27 rfl _ _ (by simp [Act.eval, Act.put]) (by simp [Act.eval, Act.put]) (hcp1 _ _ _) ?_)
  go_wp2_with (at_builtin; refine wpList_copy_runI _ rfl _ _ 27 27 rfl _ _ rfl rfl (hcp2 _ rfl _ _) ?_)
  go_ret
  exact ⟨rfl, hfin.1, c2, hfin.2, hc2s, hval⟩
theorem ins_growC (b cap vb vc i n : Nat) (cur curx : Array Value) (e ex : TypeId) (w : World) (hb : w.heap[b]? = some (.cells cur e (0, 0))) (hx : w.heap[vb]? = some (.cells curx ex (0, 0))) (hi : i < n) (hnc : n ≤ cap) (hroom : cap < n + 1)
    (hn : n ≤ 1000000) (hcur : cur.size = cap * 3) (hxs : 3 ≤ curx.size) (h1c : ∀ v ∈ cur.toList.take (n * 3), v.oneCell' = true) (h1x : ∀ v ∈ curx.toList.take 3, v.oneCell' = true) :
    Calls pg 68 #[.slice (some ⟨b, 0, none⟩) n cap, .int .i64 i, .slice (some ⟨vb, 0, none⟩) 1 vc] w fun r w' => ∃ G, r = .returned (.slice (some ⟨w.heap.size, 0, none⟩) (n + 1) G) ∧ n + 1 ≤ G ∧ G ≤ maxLen ∧ New w w' ∧
      ∃ cur2 : Array Value, w'.heap[w.heap.size]? = some (.cells cur2 67 (0, 0)) ∧ cur2.size = G * 3 ∧ cur2.toList.take ((n + 1) * 3) = cur.toList.take (i * 3) ++ curx.toList.take 3 ++ (cur.toList.take (n * 3)).drop (i * 3) := by
  have mixed := mo
  obtain ⟨i0, hi0, hz0, hzs, hzb⟩ : ∃ i0 : TypeInfo, Tryz.prog.info? 67 = some i0 ∧ i0.zero = some (.agg #[.int .i64 0, .string ⟨#[]⟩, .string ⟨#[]⟩]) ∧ i0.size = 3 ∧ i0.bytes = 40 := ⟨(Tryz.prog.info? 67).get (by kernel_rfl), by kernel_rfl, by kernel_rfl, by kernel_rfl, by kernel_rfl⟩
  have hinf : (Tryz.prog.info? 67).map (·.size) = some 3 := by rw [hi0]; simp [hzs]
  have hz2 : ¬ ((i : Int) = (n : Int)) := by omega
  have hw1 : IntKind.i64.wrap ((n : Int) + 1) = (n : Int) + 1 := by rw [IntKind.wrap_i64]; omega
  have hw2 : IntKind.i64.wrap ((i : Int) + 1) = (i : Int) + 1 := by rw [IntKind.wrap_i64]; omega
  have hw3 : IntKind.i64.wrap ((n : Int) + 1 - (i : Int)) = (n : Int) + 1 - (i : Int) := by rw [IntKind.wrap_i64]; omega
  have hz3 : (cap : Int) < (n : Int) + 1 := by omega
  have htn : ((i : Int) + 1).toNat = i + 1 := by omega
  have hbw : b < w.heap.size := (Array.getElem?_eq_some_iff.1 hb).1
  have hvw : vb < w.heap.size := (Array.getElem?_eq_some_iff.1 hx).1
  obtain ⟨mv, hmv⟩ : ∃ mv, mv = (cur.toList.take (n * 3)).drop (i * 3) := ⟨_, rfl⟩
  obtain ⟨xs, hxs'⟩ : ∃ xs, xs = curx.toList.take 3 := ⟨_, rfl⟩
  have hxl : xs.length = 3 := by rw [hxs']; simp; omega
  have hml : mv.length = (n - i) * 3 := by rw [hmv]; simp; omega
  have hold : (Builtin.firstCells i0.size i (.slice (some ⟨b, 0, none⟩) i cap)).run Tryz.prog w.drew = .ok (cur.toList.take (i * 3)).toArray w.drew := by
    rw [hzs]
    exact run_firstCells_some w.drew 3 i ⟨b, 0, none⟩ i cap (cur.toList.take (i * 3)) (by simp; omega) (fun j v hj => by
      rw [Addr.add_lit]
      rw [List.getElem?_take] at hj
      split at hj
      · have hb1 : w.drew.heap[b]? = some (.cells cur e (0, 0)) := hb
        simp only [World.cell?, hb1]; simpa using hj
      · cases hj)
  have hik : i + (n + 1 - i) = n + 1 := by omega
  have hkk : (n : Int) + 1 - (i : Int) = ((n + 1 - i : Nat) : Int) := by omega
  have hbig : (n + 1) * 40 ≤ 140737488355328 := by omega
  have hrz : ∀ ty, (Builtin.append_ #[27, 3] ty #[.slice (some ⟨b, 0, none⟩) i cap, .int .i64 ((n : Int) + 1 - (i : Int))]).run Tryz.prog w =
      .ok (.slice (some ⟨w.heap.size, 0, none⟩) (n + 1) (grownCap w (n + 1) cap 67)) (w.drew.alloc (.cells ((cur.toList.take (i * 3)).toArray ++ Builtin.zeroCells #[.int .i64 0, .string ⟨#[]⟩, .string ⟨#[]⟩] (n + 1 - i) ++ Builtin.zeroCells #[.int .i64 0, .string ⟨#[]⟩, .string ⟨#[]⟩] (grownCap w (n + 1) cap 67 - (n + 1))) 67)) := fun ty => by
    have h := Lib.run_append_grow_zeros w 27 3 ty 67 i0 _ .i64 .i64 Tryz.underlying27 Tryz.underlying3 hi0 hz0 (some ⟨b, 0, none⟩) i cap (cur.toList.take (i * 3)) hold (n + 1 - i) (by omega) (by omega) (by omega) (by omega) (by rw [hzb]; omega) (by rw [hzb, hik]; exact growslice_fits hroom hbig)
    rw [hik] at h
    rw [hkk]
    exact h
  obtain ⟨G, hG⟩ : ∃ G, G = grownCap w (n + 1) cap 67 := ⟨_, rfl⟩
  rw [← hG] at hrz
  have hGn : n + 1 ≤ G := by rw [hG]; exact grownCap_ge w _ _ _
  have hG63 : G ≤ maxLen := by
    rw [hG]; exact grownCap_le_maxLen w (n + 1) cap 67 (by unfold maxLen; omega)
  have hG63' : G ≤ 9223372036854775807 := hG63
  obtain ⟨ROW, hROW⟩ : ∃ ROW : Array Value, ROW = (cur.toList.take (i * 3)).toArray ++ Builtin.zeroCells #[.int .i64 0, .string ⟨#[]⟩, .string ⟨#[]⟩] (n + 1 - i) ++ Builtin.zeroCells #[.int .i64 0, .string ⟨#[]⟩, .string ⟨#[]⟩] (G - (n + 1)) := ⟨_, rfl⟩
  rw [← hROW] at hrz
  have hRs : ROW.size = G * 3 := by
    rw [hROW]
    simp [zeroCells_size]; omega
  obtain ⟨r2, hr2⟩ : ∃ r2 : Array Value, r2 = (ROW.toList.take (i * 3) ++ xs ++ ROW.toList.drop (i * 3 + xs.length)).toArray := ⟨_, rfl⟩
  have hr2s : r2.size = G * 3 := by rw [hr2]; simp [hxl, hRs]; omega
  obtain ⟨r3, hr3⟩ : ∃ r3 : Array Value, r3 = (r2.toList.take ((i + 1) * 3) ++ mv ++ r2.toList.drop ((i + 1) * 3 + mv.length)).toArray := ⟨_, rfl⟩
  have hr3s : r3.size = G * 3 := by rw [hr3]; simp [hml, hr2s]; omega
  have hNn : ∀ W : World, W.heap = (w.alloc (.cells ROW 67)).heap → W.heap[w.heap.size]? = some (.cells ROW 67 (0, 0)) := fun W hW => by rw [hW]; show (w.heap.push _)[w.heap.size]? = _; simp
  have hold2 : ∀ (W : World) (k : Nat), W.heap = (w.alloc (.cells ROW 67)).heap → k < w.heap.size → W.heap[k]? = w.heap[k]? := fun W k hW hk => by rw [hW]; exact Below.heap_alloc w _ k hk
  have hcpA : ∀ W : World, W.heap = (w.alloc (.cells ROW 67)).heap → ∀ ty dc, (Builtin.copy_ #[27, 27] ty #[.slice (some ⟨w.heap.size, i * 3, none⟩) (n + 1 - i) dc, .slice (some ⟨vb, 0, none⟩) 1 vc]).run Tryz.prog W = .ok (goInt ((1 : Nat) : Int)) (W.setRow w.heap.size r2) := fun W hW ty dc => by
    have := run_copy_rowE (P := Tryz.prog) W 27 27 ty 67 w.heap.size (i * 3) (n + 1 - i) dc ⟨vb, 0, none⟩ 1 vc 3 1 ROW 67 xs Tryz.underlying27 hinf (hNn W hW) (by simp only [Nat.min_def]; split <;> omega) (by omega)
      (fun j v hj => by
        rw [Addr.add_lit, hxs', List.getElem?_take] at *
        split at hj
        · simp only [World.cell?, hold2 W vb hW hvw, hx]; simpa using hj
        · cases hj) (by rw [hxl, hRs]; omega) (fun v hv => h1x v (by rw [← hxs']; exact hv))
    rw [this, ← hr2]
  have hcpB : ∀ W : World, W.heap = ((w.alloc (.cells ROW 67)).setRow w.heap.size r2).heap → ∀ ty dc sc, (Builtin.copy_ #[27, 27] ty #[.slice (some ⟨w.heap.size, (i + 1) * 3, none⟩) (n - i) dc, .slice (some ⟨b, i * 3, none⟩) (n - i) sc]).run Tryz.prog W = .ok (goInt ((n - i : Nat) : Int)) (W.setRow w.heap.size r3) := fun W hW ty dc sc => by
    have hbb : W.heap[b]? = some (.cells cur e (0, 0)) := by rw [hW, (But.setRow _ w.heap.size r2).block b (by omega), hold2 _ b rfl hbw]; exact hb
    have hnn : W.heap[w.heap.size]? = some (.cells r2 67 (0, 0)) := by rw [hW]; exact setRow_heap _ _ ROW r2 67 (0, 0) (hNn _ rfl)
    have := run_copy_rowE (P := Tryz.prog) W 27 27 ty 67 w.heap.size ((i + 1) * 3) (n - i) dc ⟨b, i * 3, none⟩ (n - i) sc 3 (n - i) r2 67 mv Tryz.underlying27 hinf hnn (by simp only [Nat.min_def]; split <;> omega) hml
      (fun j v hj => by
        rw [Addr.add_lit, hmv, List.getElem?_drop, List.getElem?_take] at *
        split at hj
        · simp only [World.cell?, hbb]; simpa using hj
        · cases hj) (by rw [hml, hr2s]; omega) (fun v hv => h1c v (by rw [hmv] at hv; exact List.mem_of_mem_drop hv))
    rw [this, ← hr3]
  have hfin : ((((w.alloc (.cells ROW 67)).setRow w.heap.size r2).setRow w.heap.size r3)).heap[w.heap.size]? = some (.cells r3 67 (0, 0)) := setRow_heap _ _ r2 r3 67 (0, 0) (setRow_heap _ _ ROW r2 67 (0, 0) (hNn _ rfl))
  have hss : (((w.alloc (.cells ROW 67)).setRow w.heap.size r2).setRow w.heap.size r3) = (w.alloc (.cells ROW 67)).setRow w.heap.size r3 := setRow_setRow _ _ _ _
  have hval : r3.toList.take ((n + 1) * 3) = cur.toList.take (i * 3) ++ curx.toList.take 3 ++ (cur.toList.take (n * 3)).drop (i * 3) := by
    rw [← hmv, ← hxs']
    have e0 : ROW.toList.take (i * 3) = cur.toList.take (i * 3) := by
      rw [hROW]
      simp only [Array.toList_append]
      rw [List.append_assoc]
      exact List.take_left' (by simp; omega)
    have e1 : r2.toList.take ((i + 1) * 3) = cur.toList.take (i * 3) ++ xs := by
      rw [hr2]
      show (ROW.toList.take (i * 3) ++ xs ++ _).take _ = _
      rw [e0]
      exact List.take_left' (by simp [hxl]; omega)
    rw [hr3, e1]
    show (cur.toList.take (i * 3) ++ xs ++ mv ++ _).take _ = _
    exact List.take_left' (by simp [hxl, hml]; omega)
  have hq1 : (0 : Int) ≤ (i : Int) + 1 := by omega
  have hin : i ≤ n := by omega
  have hq2 : ¬ (G = i + 1) := by omega
  have hq3 : (i : Int) ≤ (n : Int) + 1 := by omega
  have hq4 : ¬ (G = i) := by omega
  have hq5 : ¬ (cap = i) := by omega
  have hq6 : (i : Int) ≤ (n : Int) := by omega
  clear hkk hik hold hROW hG hmv hxs' hr2 hr3 e hb
  go_enter Tryz.func68, Tryz.ntmps68
  go_wp2_with (first
    | (at_builtin; refine Lib.wpList_append_run _ rfl _ _ _ _ rfl _ _ rfl rfl _ _ (hrz _) ?_)
    | (refine wpList_copy_runI _ rfl _ _ 27 27 rfl _ _ rfl rfl (hcpA _ (by exact rfl) _ _) ?_))
  go_region_law_o (refine step_copy_runI rfl _ _ 27 27 rfl (.slice (some ⟨w.heap.size, (i + 1) * 3, none⟩) (n - i) (G - (i + 1))) (.slice (some ⟨b, i * 3, none⟩) (n - i) (cap - i)) (by simp [Act.eval, Act.put]) (by simp [Act.eval, Act.put]) (hcpB ((w.alloc (.cells ROW 67)).drew.setRow w.heap.size r2).drew rfl 3 (G - (i + 1)) (cap - i)) ?_)
  go_wp2
  go_ret
  exact ⟨G, rfl, hGn, hG63, .of ROW r3 67 rfl rfl rfl (by rw [← hss]; rfl), r3, hfin, hr3s, hval⟩
end
end Go.Am
end
section
set_option maxRecDepth 100000
set_option maxHeartbeats 0
namespace Go.Am
open Go Go.Proofs Go.RowKit Go.Lib
noncomputable section
theorem ins_endC (base : Option Addr) (n cap vb vc : Nat) (w w1 : World) (v1 : Value) (hn : n ≤ cap) (hcap : cap ≤ 9223372036854775807) (hnil : base = none → n = 0 ∧ cap = 0)
    (hr : (Builtin.append_ #[27, 27] 27 #[.slice base n cap, .slice (some ⟨vb, 0, none⟩) 1 vc]).run Tryz.prog w = .ok v1 w1) :
    Calls pg 68 #[.slice base n cap, .int .i64 n, .slice (some ⟨vb, 0, none⟩) 1 vc] w fun r w' => r = .returned v1 ∧ w' = w1 := by
  have mixed := mo
  have hnn : n ≤ n := Nat.le_refl n
  have hn0 : (0 : Int) ≤ n := by omega
  cases base with
  | none =>
    obtain ⟨rfl, rfl⟩ := hnil rfl
    go_enter Tryz.func68, Tryz.ntmps68
    go_wp2_with (refine Lib.wpList_append_run _ rfl _ _ _ _ rfl _ _ rfl rfl _ _ hr ?_)
    go_ret
    exact ⟨rfl, rfl⟩
  | some ad =>
    obtain ⟨b, o, s⟩ := ad
    go_enter Tryz.func68, Tryz.ntmps68
    go_wp2_with (refine Lib.wpList_append_run _ rfl _ _ _ _ rfl _ _ rfl rfl _ _ hr ?_)
    all_goals (go_ret; exact ⟨rfl, rfl⟩)
theorem insC_ok (L : List V) (x : V) (i : Nat) (hi : i ≤ L.length) (hL : L.length ≤ 1000000) (hes : ∀ y ∈ x :: L, y.cells.length = 3) :
    ACallM pg 68 [.uq L, I i, .uq [x]] [] (.uq (L.take i ++ x :: L.drop i)) [.any, .any, .any] := by
  refine ⟨by kernel_rfl, fun S w vo vs fo hR hnd hfS hlt hRx hSlt _ => ?_⟩
  cases hRx
  obtain ⟨v0, us, f0, f', rfl, rfl, h0, h1⟩ := R.uncons hR
  cases h1 with
  | c h2 =>
  cases h2 with
  | @uq _ cx fx _ _ _ vb vc ex es2 curx x1 x2 x3 x4 x5 x6 x7 x8 x9 x10 =>
  cases x10
  have hes2 : es2 = 3 := by rw [← x2 x (by simp)]; exact hes x (by simp)
  subst hes2
  simp only [List.append_nil] at hR hnd hfS hlt
  have hnd2 := List.nodup_append.1 hnd
  have hvbin : vb ∈ f0 ++ vb :: fx := by simp
  have hvlt := hlt vb hvbin
  have hfx : ∀ k, k ∈ fx → k ∈ f0 ++ vb :: fx := fun k hk => by simp [hk]
  have hf0 : ∀ k, k ∈ f0 → k ∈ f0 ++ vb :: fx := fun k hk => by simp [hk]
  have hndx : (vb :: fx).Nodup := hnd2.2.1
  rw [List.nodup_cons] at hndx
  have hcxl : cx.length = 3 := by rw [← x3.length]; have := hes x (by simp); simpa using this
  have hcx2 : curx.toList.take 3 = cx := by simpa using x9
  have hsx : 3 ≤ curx.size := by rw [x8]; have : 1 ≤ vc := x6; omega
  have hnews : ∀ j u, cx[j]? = some u → w.cell? ((⟨vb, 0, none⟩ : Addr).add j) = some u := by
    intro j u hu
    rw [Addr.add_lit]
    simp only [World.cell?, x5, Nat.zero_add]
    have hj : j < 3 := by
      rcases Nat.lt_or_ge j cx.length with h' | h'
      · omega
      · simp [List.getElem?_eq_none h'] at hu
    rw [← hcx2, List.getElem?_take_of_lt hj] at hu
    simpa using hu
  obtain ⟨i0, hi0, hz0, hzs, hzb⟩ : ∃ i0 : TypeInfo, Tryz.prog.info? 67 = some i0 ∧ i0.zero = some (.agg #[.int .i64 0, .string ⟨#[]⟩, .string ⟨#[]⟩]) ∧ i0.size = 3 ∧ i0.bytes = 40 := ⟨(Tryz.prog.info? 67).get (by kernel_rfl), by kernel_rfl, by kernel_rfl, by kernel_rfl, by kernel_rfl⟩
  have fin : ∀ {r : Ending} {v : Value} {w' : World} {fp : List Nat}, r = .returned v → R S w' [.uq (L.take i ++ x :: L.drop i)] [v] fp → fp.Nodup → (∀ k, k ∈ fp → k < w'.heap.size ∧ (k ∈ f0 ++ vb :: fx ∨ w.heap.size ≤ k)) → (∀ k o, k ∈ fp → ¬ S k o) → Far (f0 ++ vb :: fx) w w' →
      ∃ v S' fp fo', r = .returned v ∧ R S' w' [.uq (L.take i ++ x :: L.drop i)] [v] fp ∧ R S' w' [.any, .any, .any] [v0, .int .i64 i, .slice (some ⟨vb, 0, none⟩) 1 vc] fo' ∧ (fp ++ fo').Nodup ∧ (∀ b, b ∈ fp ++ fo' → b < w'.heap.size ∧ (b ∈ f0 ++ vb :: fx ∨ w.heap.size ≤ b)) ∧ (∀ b o, b ∈ fp ++ fo' → ¬ S' b o) ∧
        (∀ b o, S b o → S' b o) ∧ (∀ b o, S' b o → S b o ∨ b ∈ f0 ++ vb :: fx ∨ w.heap.size ≤ b) ∧ (∀ b o, S' b o → b < w'.heap.size) ∧ Far (f0 ++ vb :: fx) w w' := by
    intro r v w' fp e hR' hn hm hap hF
    exact ⟨v, S, fp, [], e, hR', .any (.any (.any .nil)), by simpa using hn, by simpa using hm, by simpa using hap, fun _ _ h => h, fun _ _ h => .inl h, fun b o h => by have := hSlt b o h; have := hF.size; omega, hF⟩
  simp only [List.append_nil]
  by_cases hin : i = L.length
  · subst hin
    obtain ⟨v', w', fy', r1, r2, r3, r4, r5, r6⟩ := R.app2 (P := Tryz.prog) (t := 27) (ty := 27) (e := 67) (i := i0) (l := L) (l2 := [x]) Tryz.underlying27 hi0 hz0 (by rw [hzs]; rfl) (by rw [hzs]; decide) h0 hnd2.1 (fun b o hb => hfS b o (hf0 b hb)) hSlt (fun b hb => hlt b (hf0 b hb))
      (fun y hy => by rw [hzs]; exact hes y (by simp [hy])) (fun y hy => by rw [hzs]; exact hes y (by simp at hy; simp [hy])) (by simpa using x3) hndx.2 (fun b hb hb' => hnd2.2.2 b hb' b (by simp [hb]) rfl) (fun b hb => hlt b (hfx b hb)) x4 (x := .slice (some ⟨vb, 0, none⟩) 1 vc)
      ⟨by simp, _, _, rfl, hnews⟩ (by simp [maxLen]; omega) (by rw [hzb]; simp; omega)
    have hcall : ∃ base n cap, v0 = .slice base n cap ∧ n = L.length ∧ n ≤ cap ∧ cap ≤ 9223372036854775807 ∧ (base = none → n = 0 ∧ cap = 0) := by
      cases h0 with
      | uq0 hh => exact ⟨_, _, _, rfl, rfl, Nat.le_refl _, by omega, fun _ => ⟨rfl, rfl⟩⟩
      | uq b cap e es cur g1 g2 g3 g4 g5 g6 g7 g8 g9 g10 => exact ⟨_, _, _, rfl, rfl, g6, g7.1, fun e => by cases e⟩
    obtain ⟨base, n, cap, rfl, rfl, hnc, hc63, hnil⟩ := hcall
    refine (ins_endC base L.length cap vb vc w w' v' hnc hc63 hnil r1).mono ?_
    rintro r w1 ⟨rfl, rfl⟩
    refine fin rfl (by simpa using r2) r3 (fun k hk => ⟨r5 k hk, ?_⟩) (fun k o hk hs => ?_) ⟨r6.os, r6.tape, r6.output, r6.size, fun k hk hk' => r6.block k hk (fun h => hk' (hf0 k h))⟩
    · rcases r4 k hk with h | h | h
      · exact .inl (hf0 k h)
      · exact .inl (hfx k h)
      · exact .inr h
    · rcases r4 k hk with h | h | h
      · exact hfS k o (hf0 k h) hs
      · exact hfS k o (hfx k h) hs
      · have := hSlt k o hs; omega
  · have hlt' : i < L.length := by omega
    cases h0 with
    | uq0 hh => simp at hlt'
    | @uq _ cs fq _ _ _ b cap e es cur g1 g2 g3 g4 g5 g6 g7 g8 g9 g10 =>
    cases g10
    simp only [List.append_nil] at hnd hfS hlt hnd2 hvbin hfx hf0 fin ⊢
    have hes1 : es = 3 := by
      have hm := List.getElem_mem hlt'
      rw [← g2 _ hm]; exact hes _ (by simp [hm])
    subst hes1
    have hbin : b ∈ b :: fq ++ vb :: fx := by simp
    have hbv : vb ≠ b := fun e => hnd2.2.2 b (by simp) vb (by simp) e.symm
    have hbq : b ∉ fq ∧ fq.Nodup := by have := hnd2.1; rw [List.nodup_cons] at this; exact this
    have hbx : b ∉ fx := fun h => hnd2.2.2 b (by simp) b (by simp [h]) rfl
    have hqx : ∀ k, k ∈ fq → k ∉ fx := fun k hk hk' => hnd2.2.2 k (by simp [hk]) k (by simp [hk']) rfl
    have hcsl : cs.length = L.length * 3 := by rw [← g3.length]; exact flat_len (fun y hy => hes y (by simp [hy]))
    have e1 : L.flatMap V.cells = (L.take i).flatMap V.cells ++ (L.drop i).flatMap V.cells := by rw [← List.flatMap_append, List.take_append_drop]
    rw [e1] at g3
    obtain ⟨c1, c2, q1, q2, hc, hq, k1, k2⟩ := R.split g3
    have hc1 : c1.length = i * 3 := by rw [← k1.length, flat_len (es := 3) (fun y hy => hes y (by have := List.mem_of_mem_take hy; simp [this]))]; simp; omega
    have ht1 : cur.toList.take (i * 3) = c1 := by
      have : cs.take (i * 3) = c1 := by rw [hc, ← hc1]; exact List.take_left
      rw [← this, ← g9, List.take_take, Nat.min_eq_left (by omega)]
    have hd2 : (cur.toList.take (L.length * 3)).drop (i * 3) = c2 := by rw [g9, hc, ← hc1]; exact List.drop_left
    have hall : ∀ y ∈ L.take i ++ x :: L.drop i, y.cells.length = 3 := by
      intro y hy
      rcases List.mem_append.1 hy with hy | hy
      · exact hes y (by have := List.mem_of_mem_take hy; simp [this])
      · rcases List.mem_cons.1 hy with rfl | hy
        · exact hes _ (by simp)
        · exact hes y (by have := List.mem_of_mem_drop hy; simp [this])
    have hlen : (L.take i ++ x :: L.drop i).length = L.length + 1 := by simp; omega
    have hone : ∀ u ∈ c1 ++ cx ++ c2, u.oneCell' = true := by
      intro u hu
      rcases List.mem_append.1 hu with hu | hu
      · rcases List.mem_append.1 hu with hu | hu
        · exact g4 u (by rw [hc]; simp [hu])
        · exact x4 u hu
      · exact g4 u (by rw [hc]; simp [hu])
    have hne : L.take i ++ x :: L.drop i ≠ [] := by simp
    have build : ∀ (w' : World), (∀ k, k ∈ fq → w'.heap[k]? = w.heap[k]?) → (∀ k, k ∈ fx → w'.heap[k]? = w.heap[k]?) → (∀ b' o, S b' o → w'.cell? ⟨b', o, none⟩ = w.cell? ⟨b', o, none⟩) →
        ∀ (B G : Nat) (e' : TypeId) (cur2 : Array Value), w'.heap[B]? = some (.cells cur2 e' (0, 0)) → L.length + 1 ≤ G → G ≤ maxLen → cur2.size = G * 3 → cur2.toList.take ((L.length + 1) * 3) = c1 ++ cx ++ c2 →
          R S w' [.uq (L.take i ++ x :: L.drop i)] [.slice (some ⟨B, 0, none⟩) (L.length + 1) G] (B :: (q1 ++ fx ++ q2)) := by
      intro w' hq' hx' hS' B G e' cur2 hB hG1 hG2 hsz hval
      have r1 := k1.mono (fun _ _ h => h) hS' (fun k hk => hq' k (by rw [hq]; simp [hk]))
      have r2 := x3.mono (fun _ _ h => h) hS' (fun k hk => hx' k hk)
      have r3 := k2.mono (fun _ _ h => h) hS' (fun k hk => hq' k (by rw [hq]; simp [hk]))
      have rr := R.append (R.append r1 r2) r3
      have := R.uq (S := S) (w := w') (xs := []) (vs := []) (fp := []) (l := L.take i ++ x :: L.drop i) (cs := c1 ++ cx ++ c2) (fq := q1 ++ fx ++ q2) B G e' 3 cur2 (by decide) hall (by simpa [List.flatMap_append, List.append_assoc] using rr) hone hB (by omega) ⟨hG2, fun e => absurd e hne⟩ hsz (by rw [hlen]; exact hval) .nil
      rw [hlen] at this
      simpa using this
    have hndf : (q1 ++ fx ++ q2).Nodup := by
      have h1 := hbq.2
      rw [hq, List.nodup_append] at h1
      rw [List.nodup_append, List.nodup_append]
      refine ⟨⟨h1.1, hndx.2, fun y hy z hz e => hqx y (by rw [hq]; simp [hy]) (e ▸ hz)⟩, h1.2.1, fun y hy z hz e => ?_⟩
      subst e
      rcases List.mem_append.1 hy with hy | hy
      · exact h1.2.2 y hy y hz rfl
      · exact hqx y (by rw [hq]; simp [hz]) hy
    have hsub : ∀ k, k ∈ q1 ++ fx ++ q2 → k ∈ b :: fq ++ vb :: fx := by
      intro k hk
      rw [hq]
      rcases List.mem_append.1 hk with hk | hk
      · rcases List.mem_append.1 hk with hk | hk <;> simp [hk]
      · simp [hk]
    have hbnot : b ∉ q1 ++ fx ++ q2 := by
      intro h
      rcases List.mem_append.1 h with h | h
      · rcases List.mem_append.1 h with h | h
        · exact hbq.1 (by rw [hq]; simp [h])
        · exact hbx h
      · exact hbq.1 (by rw [hq]; simp [h])
    have hSb : ∀ b' o', S b' o' → b' ≠ b := fun b' o' hs e => hfS b o' hbin (e ▸ hs)
    by_cases hroom : L.length + 1 ≤ cap
    · refine (ins_shiftC b cap vb vc i L.length cur curx e ex w g5 x5 hbv hlt' hroom g7.1 g8 hsx (by rw [g9]; exact g4) (by rw [hcx2]; exact x4)).mono ?_
      rintro r w' ⟨rfl, hB, cur2, z1, z2, z3⟩
      rw [ht1, hcx2, hd2] at z3
      have hR' := build w' (fun k hk => hB.block k (fun e => hbq.1 (e ▸ hk))) (fun k hk => hB.block k (fun e => hbx (e ▸ hk))) (fun b' o hs => hB.cell (hSb b' o hs)) b cap e cur2 z1 hroom g7.1 z2 z3
      refine fin rfl hR' (List.nodup_cons.2 ⟨hbnot, hndf⟩) (fun k hk => ?_) (fun k o hk => ?_) ⟨hB.os, hB.tape, hB.output, by rw [hB.size]; exact Nat.le_refl _, fun k _ hk => hB.block k (fun e => hk (e ▸ hbin))⟩
      · have hm : k ∈ b :: fq ++ vb :: fx := by
          rcases List.mem_cons.1 hk with rfl | hk
          · exact hbin
          · exact hsub k hk
        exact ⟨by rw [hB.size]; exact hlt k hm, .inl hm⟩
      · rcases List.mem_cons.1 hk with rfl | hk
        · exact hfS _ o hbin
        · exact hfS k o (hsub k hk)
    · refine (ins_growC b cap vb vc i L.length cur curx e ex w g5 x5 hlt' g6 (by omega) hL g8 hsx (by rw [g9]; exact g4) (by rw [hcx2]; exact x4)).mono ?_
      rintro r w' ⟨G, rfl, hG1, hG2, hN, cur2, z1, z2, z3⟩
      rw [ht1, hcx2, hd2] at z3
      have hbl : ∀ k, k ∈ b :: fq ++ vb :: fx → w'.heap[k]? = w.heap[k]? := fun k hk => hN.block k (hlt k hk)
      have hR' := build w' (fun k hk => hbl k (by simp [hk])) (fun k hk => hbl k (by simp [hk])) (fun b' o hs => World.cell?_of_block (w := w) (a := ⟨b', o, none⟩) (hN.block b' (hSlt b' o hs))) w.heap.size G 67 cur2 z1 hG1 hG2 z2 z3
      refine fin rfl hR' (List.nodup_cons.2 ⟨fun h => by have := hlt _ (hsub _ h); omega, hndf⟩) (fun k hk => ?_) (fun k o hk hs => ?_) ⟨hN.os, hN.tape, hN.output, by rw [hN.size]; omega, fun k hk _ => hN.block k hk⟩
      · rcases List.mem_cons.1 hk with rfl | hk
        · exact ⟨by rw [hN.size]; omega, .inr (Nat.le_refl _)⟩
        · have := hlt k (hsub k hk); exact ⟨by rw [hN.size]; omega, .inl (hsub k hk)⟩
      · rcases List.mem_cons.1 hk with rfl | hk
        · have := hSlt _ o hs; omega
        · exact hfS k o (hsub k hk) hs
end
end Go.Am
end
