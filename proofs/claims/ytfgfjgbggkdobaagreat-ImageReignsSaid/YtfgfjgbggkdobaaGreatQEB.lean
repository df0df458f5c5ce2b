/- Part of the proof of a law of the image. -/
import Derived.Test.YtfgfjgbggkdobaaGreatQAA
import Derived.Test.YtfgfjgbggkdobaaGreatQPU
import Derived.Test.YtfgfjgbggkdobaaGreatQW0
set_option linter.all false
section
set_option maxRecDepth 100000
set_option maxHeartbeats 0
namespace Go.Am
open Go
noncomputable section
def c81 : SC := (.seq (.reg [oD 2 (.assign (.const (.slice none 0 0)))] [0,7]) (.seq (.reg [oM 3 0,oD 4 (.binOp .eql 35 (.tmp 3) (.const (.slice none 0 0)) 35)] [0,4,7]) (.seq (.cond (.tmp 4) (.seq (.reg [oD 2 (.assign (.const (.slice none 0 0)))] [2,7]) .ret) .skip) (.seq (.reg [oD 5 (.buildSlice 35 0 #[]),oM 6 0,oP 7 #[.tmp 5,.tmp 6] #[35,35],oG 2 7] [2,7]) .ret))))
theorem s81 : TextK Proofs.Tryz.prog 0 81 8 [ResultVar.tmp 2] c81 := .mk' Proofs.Tryz.f81 _ (by kernel_rfl) rfl rfl rfl (by kernel_rfl) rfl (by kernel_rfl)
def c75 : SC := (.seq (.reg [oO 1 51 0,oI 2 0] [1]) (.seq (.reg [oF 3 51 1 0,oL 4 3 3,oG 2 4] [1,2,3,4]) .ret))
theorem s75 : TextK Proofs.Tryz.prog 0 75 5 [ResultVar.tmp 2] c75 := .mk' Proofs.Tryz.f75 _ (by kernel_rfl) rfl rfl rfl (by kernel_rfl) rfl (by kernel_rfl)
def c101 : SC := (.seq (.reg [oO 3 51 0,oI 5 0] [1,2,3]) (.seq (.reg [oL 6 117 2,oL 7 51 3,oD 8 (.call { callee := .value (.tmp 6),args := #[.tmp 7],argTypes := #[51] }),oM 9 1,oB 10 .sub 3 8 9 3,oG 5 10] [5,10]) .ret))
theorem s101 : TextK Proofs.Tryz.prog 0 101 11 [ResultVar.tmp 5] c101 := .mk' Proofs.Tryz.f101 _ (by kernel_rfl) rfl rfl rfl (by kernel_rfl) rfl (by kernel_rfl)
def c100 : SC := (.seq (.reg [oI 6 0,oZ 7 false] [0,1,2,33]) (.seq (.reg [oM 12 0,oN 13 12 25,oG 8 13] [0,1,2,8,13,33]) (.seq (.reg [oM 14 8,oI 9 0,oG 10 14] [0,1,2,8,9,10,11,13,14,23,33,34]) (.seq (.block 0 (.seq (.loop (.seq (.reg [oM 15 9,oM 16 10,oB 17 .lss 3 15 16 3] [0,1,2,8,9,10,11,13,14,17,23,33,34]) (.seq (.cond (.tmp 17) .skip (.exit 0)) (.seq (.block 1 (.seq (.reg [oM 18 9,oM 19 10,oB 20 .add 3 18 19 3,oD 21 (.convert 3 154 (.tmp 20)),oD 22 (.binOp .shr 154 (.tmp 21) (.const (.int .u64 1)) 154),oD 23 (.convert 154 3 (.tmp 22)),oG 11 23] [0,1,2,8,9,10,11,13,14,23,33,34]) (.seq (.reg [oM 24 2,oM 25 0,oM 26 11,oJ 27 25 25 26,oL 28 51 27,oM 29 1,oD 30 (.call { callee := .value (.tmp 24),args := #[.tmp 28,.tmp 29],argTypes := #[51,3] }),oK 31 .lss 3 30 0 3] [0,1,2,8,9,10,11,13,14,23,31,33,34]) (.seq (.cond (.tmp 31) (.seq (.reg [oM 32 11,oK 33 .add 3 32 1 3,oG 9 33] [0,1,2,8,9,10,11,13,14,23,33,34]) .skip) (.seq (.reg [oM 34 11,oG 10 34] [0,1,2,8,9,10,11,13,14,23,33,34]) .skip)) .skip)))) .skip)))) .skip)) (.seq (.reg [oM 35 9,oM 36 9,oM 37 8,oB 38 .lss 3 36 37 3,oM 39 38,oW 39 true (oM 40 2),oW 39 true (oM 41 0),oW 39 true (oM 42 9),oW 39 true (oJ 43 25 41 42),oW 39 true (oL 44 51 43),oW 39 true (oM 45 1),oW 39 true (oD 46 (.call { callee := .value (.tmp 40),args := #[.tmp 44,.tmp 45],argTypes := #[51,3] })),oW 39 true (oK 47 .eql 3 46 0 3),oQ 48 39 47 false,oG 6 35,oG 7 48] [6,7,9,33,35,38,39,47,48]) .ret)))))
theorem s100 : TextK Proofs.Tryz.prog 0 100 49 [ResultVar.tmp 6, ResultVar.tmp 7] c100 := .mk' Proofs.Tryz.f100 _ (by kernel_rfl) rfl rfl rfl (by kernel_rfl) rfl (by kernel_rfl)
def c74 : SC := (.seq (.reg [oO 5 117 2,oI 6 0,oZ 7 false] [0,1,5]) (.seq (.reg [oM 8 0,oM 9 1,oD 10 (.makeFunc (Fn.func 101) #[] #[.tmp 5]),oC 11 100 #[.tmp 8,.tmp 9,.tmp 10] #[25,3,139],oX 12 11 0,oX 13 11 1,oG 6 12,oG 7 13] [6,7,11,12,13]) .ret))
theorem s74 : TextK Proofs.Tryz.prog 0 74 14 [ResultVar.tmp 6, ResultVar.tmp 7] c74 := .mk' Proofs.Tryz.f74 _ (by kernel_rfl) rfl rfl rfl (by kernel_rfl) rfl (by kernel_rfl)
def c33 : SC := (.seq (.reg [oO 2 30 0,oI 4 0,oZ 5 false] [1,2]) (.seq (.reg [oF 6 30 2 0,oL 7 25 6,oM 8 1,oC 9 74 #[.tmp 7,.tmp 8,.func 75] #[25,3,117],oX 10 9 0,oX 11 9 1,oG 4 10,oG 5 11] [4,5,9,10,11]) .ret))
theorem s33 : TextK Proofs.Tryz.prog 0 33 12 [ResultVar.tmp 4, ResultVar.tmp 5] c33 := .mk' Proofs.Tryz.f33 _ (by kernel_rfl) rfl rfl rfl (by kernel_rfl) rfl (by kernel_rfl)
def c16 : SC := (.seq (.reg [oO 2 30 0,oA 4 51,oZ 5 false] [1,2,4]) (.seq (.reg [oL 9 30 2,oM 10 1,oC 11 33 #[.tmp 9,.tmp 10] #[30,3],oM 8 11,oX 12 8 0,oX 13 8 1,oG 6 12,oG 7 13] [2,4,6,7,8,11,12,13]) (.seq (.reg [oM 14 7,oD 15 (.unOp .not 4 (.tmp 14))] [2,4,6,8,11,12,15]) (.seq (.cond (.tmp 15) (.seq (.reg [oD 16 (.build 51 #[]),oS 51 4 16,oZ 5 false] [4,5]) .ret) .skip) (.seq (.reg [oF 17 30 2 0,oL 18 25 17,oM 19 6,oJ 20 25 18 19,oL 21 51 20,oS 51 4 21,oZ 5 true] [4,5]) .ret)))))
theorem s16 : TextK Proofs.Tryz.prog 0 16 22 [ResultVar.cell 4 51, ResultVar.tmp 5] c16 := .mk' Proofs.Tryz.f16 _ (by kernel_rfl) rfl rfl rfl (by kernel_rfl) rfl (by kernel_rfl)
theorem cloneI_ok (l : List Int) (hl : l.length ≤ 1000000) : ACall pg 81 [Li l] (.uq (l.map I)) := by
  cases l with
  | nil =>
    refine ACall.empty fun a c => ?_
    refine s81.call mo (by simp) fun hxs => ?_
    clear hxs
    unfold c81; dsimp only [oD, oG, oM, oP]
    repeat' first | (with_reducible first | refine fS ?_ | refine fR ?_ | refine fQ ?_ | refine fT ?_ | refine awRet ?_) | ((with_reducible refine awReg fun K hok hK => ?_); clear hok; (try simp (maxSteps := 10000000) (disch := first | omega | simp) []); (repeat' first | (with_reducible refine hK _ (by simp) ?_)) <;> clear hK K) | ((with_reducible refine awCond fun A B hA hB => ?_); simp (maxSteps := 10000000) (disch := first | omega | simp) []; (first | refine ⟨fun h => hA ?_, fun h => hB ?_⟩ | refine hA ?_ | refine hB ?_) <;> (clear hA hB A B; (try (exfalso; omega))))
    all_goals exact fn0
  | cons x l =>
    have hl' : l.length + 1 ≤ 1000000 := by simpa using hl
    refine s81.call mo (by simp) fun hxs => ?_
    clear hxs
    unfold c81; dsimp only [oD, oG, oM, oP]
    refine wk ?_
    all_goals exact fn0
theorem brokerId_ok (x : Broker) : ACall pg 75 [encB x] (I x.id) := by
  refine s75.call mo (by simp) fun hxs => ?_
  clear hxs
  unfold c75; dsimp only [oF, oG, oI, oL, oO]
  refine wk ?_
  exact fn0
abbrev capB : V := .ip [.clo 75 []] 0
theorem findB1_ok (x : Broker) (n : Int) (h : -9223372036854775808 ≤ x.id - n ∧ x.id - n ≤ 9223372036854775807) : ACall pg 101 [encB x, I n, capB] (I (x.id - n)) := by
  refine s101.call mo (by simp) fun hxs => ?_
  clear hxs
  unfold c101; dsimp only [oB, oD, oG, oI, oL, oM, oO]
  have e := i64_wrap h
  have := brokerId_ok x
  have F := e
  refine wkF ?_
  (refine aEnR (aRes [] fun K hK => ?_); simp (maxSteps := 10000000) (disch := first | omega | simp) [e]; refine hK _ ?_ (by simp); clear hK; first | done | (simp (maxSteps := 10000000) (disch := first | omega | simp) [e, *]; done) | (simp (maxSteps := 10000000) (disch := first | omega | simp) [e, *]; omega) | (simp_all [e]; done) | (simp_all [e]; omega))
theorem bsearchB_ok (l : List Broker) (n : Int) (f : FuncId) (caps : List V) (hp : pureL caps = true) (c : Broker → Int) (hc : ∀ x ∈ l, ACall pg f ([encB x, I n] ++ caps) (I (c x))) (k : Nat) (hk : k ≤ l.length) (hl : l.length ≤ 1000000) (hi : ∀ i (h : i < l.length), i < k ↔ c l[i] < 0) :
    ACall pg 100 [.sl (l.map encB), I n, .clo f caps] (.tup [I k, B (if h : k < l.length then c l[k] == 0 else false)]) := by
  refine s100.call mo (by simp) fun hxs => ?_
  clear hxs
  unfold c100; dsimp only [oB, oD, oG, oI, oJ, oK, oL, oM, oN, oQ, oW, oZ]
  have hv := pvL_pure caps hp
  have F := And.intro hp hv
  refine wkF ?_
  refine awWhile (fun (s : Nat × Nat) => s.2 - s.1) (fun s => s.1 ≤ k ∧ k ≤ s.2 ∧ s.2 ≤ l.length) (fun s => [(10, .p (I s.2)), (9, .p (I s.1)), (8, .p (I l.length)), (2, .p (.clo f caps)), (1, .p (I n)), (0, .p (.sl (l.map encB)))]) (0, l.length) (Wk.ofA (by simp)) (by simp; omega) fun s hs => ?_
  obtain ⟨i, j⟩ := s
  simp only at hs
  by_cases hlt : i < j
  · have e1 : IntKind.u64.wrap ((i : Int) + j) = i + j := by simp [IntKind.wrap, IntKind.bits, IntKind.signed]; omega
    obtain ⟨t, ht1, ht2, e2⟩ : ∃ t : Nat, i ≤ t ∧ t < j ∧ IntKind.i64.wrap (((i : Int) + j).fdiv (2 ^ min 1 IntKind.u64.bits)) = t := by
      refine ⟨(i + j) / 2, by omega, by omega, ?_⟩
      have : (2 : Int) ^ min 1 IntKind.u64.bits = 2 := by decide
      rw [this, Int.fdiv_eq_ediv_of_nonneg _ (by omega), i64_wrap (by omega)]; omega
    have hmid : t < l.length := by omega
    have hik := hi t hmid
    repeat' first | (with_reducible first | refine thN ?_ | refine thE ?_ | refine inN ?_ | refine inH ?_ | refine fS ?_ | refine fR ?_ | refine fQ ?_ | refine fE ?_ | refine awBlock ?_ | refine awExit ?_ | refine awRet ?_ | refine awSkip ?_) | ((with_reducible refine awReg fun K hok hK => ?_); clear hok; (try simp (maxSteps := 10000000) (disch := first | omega | simp) [e1, e2, hp, hv]); (repeat' first | (with_reducible refine hK _ (by simp) ?_) | ((with_reducible refine gdT (fun h => ?_) (fun h => ?_)) <;> (simp (maxSteps := 10000000) (disch := first | omega | simp) [h, e1, e2, hp, hv]; (try simp at h); (try (exfalso; omega)))) | ((with_reducible refine callCS' fun K2 hK2 => ?_); (try simp (maxSteps := 10000000) (disch := first | omega | simp) [e1, e2, hp, hv]); (refine hK2 _ _ _ _ (hc _ (List.getElem_mem hmid)) rfl fun hk9 => ?_); clear hk9; clear hK2 K2; (try simp (maxSteps := 10000000) (disch := first | omega | simp) [e1, e2, hp, hv]))) <;> clear hK K) | ((with_reducible refine awCond fun A B hA hB => ?_); simp (maxSteps := 10000000) (disch := first | omega | simp) [e1, e2, hp, hv]; (first | refine ⟨fun h => hA ?_, fun h => hB ?_⟩ | refine hA ?_ | refine hB ?_) <;> (clear hA hB A B; (try (exfalso; omega))))
    · have := hik.2 h
      refine ⟨(t + 1, j), by simp only; omega, by simp only; omega, Wk.ofA (by simp)⟩
    · have : ¬ t < k := fun hh => by have := hik.1 hh; omega
      refine ⟨(i, t), by simp only; omega, by simp only; omega, Wk.ofA (by simp)⟩
  · have : i = k ∧ j = k := by omega
    obtain ⟨rfl, rfl⟩ := this
    by_cases hkl : j < l.length
    · repeat' first | (with_reducible first | refine thN ?_ | refine thE ?_ | refine inN ?_ | refine inH ?_ | refine fS ?_ | refine fR ?_ | refine fQ ?_ | refine fE ?_ | refine awBlock ?_ | refine awExit ?_ | refine awRet ?_ | refine awSkip ?_) | ((with_reducible refine awReg fun K hok hK => ?_); clear hok; (try simp (maxSteps := 10000000) (disch := first | omega | simp) [hp, hv]); (repeat' first | (with_reducible refine hK _ (by simp) ?_) | ((with_reducible refine gdT (fun h => ?_) (fun h => ?_)) <;> (simp (maxSteps := 10000000) (disch := first | omega | simp) [h, hp, hv]; (try simp at h); (try (exfalso; omega)))) | ((with_reducible refine callCS' fun K2 hK2 => ?_); (try simp (maxSteps := 10000000) (disch := first | omega | simp) [hp, hv]); (refine hK2 _ _ _ _ (hc _ (List.getElem_mem hkl)) rfl fun hk9 => ?_); clear hk9; clear hK2 K2; (try simp (maxSteps := 10000000) (disch := first | omega | simp) [hp, hv]))) <;> clear hK K) | ((with_reducible refine awCond fun A B hA hB => ?_); simp (maxSteps := 10000000) (disch := first | omega | simp) [hp, hv]; (first | refine ⟨fun h => hA ?_, fun h => hB ?_⟩ | refine hA ?_ | refine hB ?_) <;> (clear hA hB A B; (try (exfalso; omega))))
      (refine aEnR (aRes [] fun K hK => ?_); simp (maxSteps := 10000000) (disch := first | omega | simp) [hkl]; refine hK _ ?_ (by simp); clear hK; first | done | (simp (maxSteps := 10000000) (disch := first | omega | simp) [hkl, *]; done) | (simp (maxSteps := 10000000) (disch := first | omega | simp) [hkl, *]; omega) | (simp_all [hkl]; done) | (simp_all [hkl]; omega))
    · repeat' first | (with_reducible first | refine thN ?_ | refine thE ?_ | refine inN ?_ | refine inH ?_ | refine fS ?_ | refine fR ?_ | refine fQ ?_ | refine fE ?_ | refine awBlock ?_ | refine awExit ?_ | refine awRet ?_ | refine awSkip ?_) | ((with_reducible refine awReg fun K hok hK => ?_); clear hok; (try simp (maxSteps := 10000000) (disch := first | omega | simp) [hp, hv]); (repeat' first | (with_reducible refine hK _ (by simp) ?_) | ((with_reducible refine gdT (fun h => ?_) (fun h => ?_)) <;> (simp (maxSteps := 10000000) (disch := first | omega | simp) [h, hp, hv]; (try simp at h); (try (exfalso; omega)))) | ((with_reducible refine callCS' fun K2 hK2 => ?_); (try simp (maxSteps := 10000000) (disch := first | omega | simp) [hp, hv]); (refine hK2 _ _ _ _ (hc _ (List.getElem_mem hkl)) rfl fun hk9 => ?_); clear hk9; clear hK2 K2; (try simp (maxSteps := 10000000) (disch := first | omega | simp) [hp, hv]))) <;> clear hK K) | ((with_reducible refine awCond fun A B hA hB => ?_); simp (maxSteps := 10000000) (disch := first | omega | simp) [hp, hv]; (first | refine ⟨fun h => hA ?_, fun h => hB ?_⟩ | refine hA ?_ | refine hB ?_) <;> (clear hA hB A B; (try (exfalso; omega))))
      (refine aEnR (aRes [] fun K hK => ?_); simp (maxSteps := 10000000) (disch := first | omega | simp) [hkl]; refine hK _ ?_ (by simp); clear hK; first | done | (simp (maxSteps := 10000000) (disch := first | omega | simp) [hkl, *]; done) | (simp (maxSteps := 10000000) (disch := first | omega | simp) [hkl, *]; omega) | (simp_all [hkl]; done) | (simp_all [hkl]; omega))
abbrev big62 (n : Int) : Prop := -4611686018427387904 ≤ n ∧ n ≤ 4611686018427387904
theorem findB_ok (m : Image) (n : Int) (hs : srtB m.brokers) (hb : ∀ b ∈ m.brokers, 1 ≤ b.id ∧ b.id ≤ 64) (hl : m.brokers.length ≤ 1000000) (hn : big62 n) : ACall pg 74 [.sl (m.brokers.map encB), I n, .clo 75 []] (.tup [I (posOf Broker.id m.brokers n), B (m.broker n).isSome]) := by
  refine s74.call mo (by simp) fun hxs => ?_
  clear hxs
  unfold c74; dsimp only [oC, oD, oG, oI, oM, oO, oX, oZ]
  have hc : ∀ x ∈ m.brokers, ACall pg 101 ([encB x, I n] ++ [capB]) (I (x.id - n)) := fun x hx => findB1_ok x n (by have := hb x hx; unfold big62 at hn; omega)
  have hbs := bsearchB_ok m.brokers n _ [capB] (by simp [pureL, pureB]) (fun x => x.id - n) hc (posOf Broker.id m.brokers n) (pos_le _ _ _) hl (fun i h => by rw [pos_iff n hs i h]; omega)
  have e : (if h : posOf Broker.id m.brokers n < m.brokers.length then m.brokers[posOf Broker.id m.brokers n].id - n == 0 else false) = (m.broker n).isSome := by
    unfold Image.broker
    rw [pos_find (f := Broker.id) n hs]
    split
    · split
      · rename_i h; simp [h]
      · rename_i h; simp; omega
    · rfl
  rw [e] at hbs
  refine wk ?_
  exact fn0
theorem ibroker_ok (m : Image) (n : Int) (hs : srtB m.brokers) (hb : ∀ b ∈ m.brokers, 1 ≤ b.id ∧ b.id ≤ 64) (hl : m.brokers.length ≤ 1000000) (hn : big62 n) : ACall pg 33 [encM m, I n] (.tup [I (posOf Broker.id m.brokers n), B (m.broker n).isSome]) := by
  refine s33.call mo (by simp) fun hxs => ?_
  clear hxs
  unfold c33; dsimp only [oC, oF, oG, oI, oL, oM, oO, oX, oZ]
  have := findB_ok m n hs hb hl hn
  refine wk ?_
  exact fn0
theorem iBroker_ok (m : Image) (n : Int) (hs : srtB m.brokers) (hb : ∀ b ∈ m.brokers, 1 ≤ b.id ∧ b.id ≤ 64) (hl : m.brokers.length ≤ 1000000) (hn : big62 n) : ACall pg 16 [encM m, I n] (.tup [encB ((m.broker n).getD zB), B (m.broker n).isSome]) := by
  refine s16.call mo (by simp) fun hxs => ?_
  clear hxs
  unfold c16; dsimp only [oA, oC, oD, oF, oG, oJ, oL, oM, oO, oS, oX, oZ]
  have hp := pos_find (f := Broker.id) n hs
  cases hm : m.broker n with
  | none =>
    have := ibroker_ok m n hs hb hl hn
    have F := hm
    refine wkF ?_
    (refine aEnR (aRes [] fun K hK => ?_); simp (maxSteps := 10000000) (disch := first | omega | simp) [zB]; refine hK _ ?_ (by simp); clear hK; first | done | (simp (maxSteps := 10000000) (disch := first | omega | simp) [zB, *]; done) | (simp (maxSteps := 10000000) (disch := first | omega | simp) [zB, *]; omega) | (simp_all [zB]; done) | (simp_all [zB]; omega))
  | some b =>
    unfold Image.broker at hm
    rw [hm] at hp
    split at hp
    · rename_i h
      split at hp
      · rename_i h2
        have hb2 : m.brokers[posOf Broker.id m.brokers n] = b := by simpa using hp.symm
        have hm' : (m.broker n).isSome = true := by unfold Image.broker; rw [hm]; rfl
        have := ibroker_ok m n hs hb hl hn
        have F := And.intro hm' hb2
        refine wkF ?_
        exact fn0
      · cases hp
    · cases hp
end
end Go.Am
end
section
set_option maxRecDepth 100000
set_option maxHeartbeats 0
namespace Go.Am
open Go
noncomputable section
def c84 : SC := (.seq (.reg [oI 4 0] [0,1,5,8,10,17,18]) (.seq (.reg [oM 6 0,oN 7 6 35,oD 8 (.move (.const (.int .i64 0)))] [0,1,5,7,8,10,17,18]) (.seq (.block 0 (.seq (.loop (.seq (.reg [oB 9 .lss 3 8 7 3] [0,1,5,7,8,9,10,17,18]) (.seq (.cond (.tmp 9) .skip (.exit 0)) (.seq (.block 1 (.seq (.reg [oM 10 8,oG 5 10] [0,1,5,7,8,10,17,18]) (.seq (.reg [oM 11 1,oM 12 0,oM 13 5,oJ 14 35 12 13,oL 15 3 14,oB 16 .eql 3 11 15 3] [0,1,5,7,8,10,16,17,18]) (.seq (.cond (.tmp 16) (.seq (.reg [oM 17 5,oG 4 17] [4,5,8,10,17,18]) .ret) .skip) .skip)))) (.seq (.reg [oK 18 .add 3 8 1 3,oM 8 18] [0,1,5,7,8,10,17,18]) .skip))))) .skip)) (.seq (.reg [oD 4 (.assign (.const (.int .i64 (-1))))] [4,5,8,10,17,18]) .ret))))
theorem s84 : TextK Proofs.Tryz.prog 0 84 19 [ResultVar.tmp 4] c84 := .mk' Proofs.Tryz.f84 _ (by kernel_rfl) rfl rfl rfl (by kernel_rfl) rfl (by kernel_rfl)
def c56 : SC := (.seq (.reg [oZ 4 false] [0,1]) (.seq (.reg [oM 5 0,oM 6 1,oC 7 84 #[.tmp 5,.tmp 6] #[35,3],oK 8 .geq 3 7 0 3,oG 4 8] [4,8]) .ret))
theorem s56 : TextK Proofs.Tryz.prog 0 56 9 [ResultVar.tmp 4] c56 := .mk' Proofs.Tryz.f56 _ (by kernel_rfl) rfl rfl rfl (by kernel_rfl) rfl (by kernel_rfl)
def c92 : SC := (.seq (.reg [oZ 4 false] [0,1]) (.seq (.reg [oM 6 0,oN 7 6 35,oM 8 1,oN 9 8 35,oB 10 .neq 3 7 9 3] [0,1,10]) (.seq (.cond (.tmp 10) (.seq (.reg [oZ 4 false] [4]) .ret) .skip) (.seq (.reg [oM 11 0,oN 12 11 35,oD 13 (.move (.const (.int .i64 0)))] [0,1,12,13,25]) (.seq (.block 0 (.seq (.loop (.seq (.reg [oB 14 .lss 3 13 12 3] [0,1,12,13,14,25]) (.seq (.cond (.tmp 14) .skip (.exit 0)) (.seq (.block 1 (.seq (.reg [oM 15 13,oG 5 15] [0,1,5,12,13,15,25]) (.seq (.reg [oU (oM 16 0) [17,20,21,22,23],oU (oM 17 5) [16,20,21,22,23],oU (oJ 18 35 16 17) [20,21,22,23],oU (oL 19 3 18) [20,21,22,23],oU (oM 20 1) [16,17,18,19,21],oU (oM 21 5) [16,17,18,19,20],oU (oJ 22 35 20 21) [16,17,18,19],oU (oL 23 3 22) [16,17,18,19],oB 24 .neq 3 19 23 3] [0,1,12,13,24,25]) (.seq (.cond (.tmp 24) (.seq (.reg [oZ 4 false] [4]) .ret) .skip) .skip)))) (.seq (.reg [oK 25 .add 3 13 1 3,oM 13 25] [0,1,12,13,25]) .skip))))) .skip)) (.seq (.reg [oZ 4 true] [4]) .ret))))))
theorem s92 : TextK Proofs.Tryz.prog 0 92 26 [ResultVar.tmp 4] c92 := .mk' Proofs.Tryz.f92 _ (by kernel_rfl) rfl rfl rfl (by kernel_rfl) rfl (by kernel_rfl)
theorem index_ok (l : List Int) (v : Int) (hl : l.length ≤ 1000000) : ACall pg 84 [Li l, I v] (I (idxI l v 0)) := by
  refine s84.call mo (by simp) fun hxs => ?_
  clear hxs
  unfold c84; dsimp only [oB, oD, oG, oI, oJ, oK, oL, oM, oN]
  refine wk ?_
  refine awFor l.length (fun i (_ : Unit) => idxI (l.drop i) v i = idxI l v 0) (fun i _ => [(8, .p (I i)), (7, .p (I l.length)), (0, .p (Li l)), (1, .p (I v))]) () (Wk.ofA (by simp)) (by simp) fun i _ hi hs => ?_
  by_cases hlt : i < l.length
  · rw [drop_cons hlt] at hs
    simp only [idxI] at hs
    repeat' first | (with_reducible first | refine thN ?_ | refine thR ?_ | refine thE ?_ | refine inN ?_ | refine inR ?_ | refine inH ?_ | refine fS ?_ | refine fR ?_ | refine fQ ?_ | refine fE ?_ | refine fT ?_ | refine awBlock ?_ | refine awExit ?_ | refine awRet ?_ | refine awSkip ?_) | ((with_reducible refine awReg fun K hok hK => ?_); clear hok; (try simp (maxSteps := 10000000) (disch := first | omega | simp) []); (repeat' first | (with_reducible refine hK _ (by simp) ?_)) <;> clear hK K) | ((with_reducible refine awCond fun A B hA hB => ?_); simp (maxSteps := 10000000) (disch := first | omega | simp) []; (first | refine ⟨fun h => hA ?_, fun h => hB ?_⟩ | refine hA ?_ | refine hB ?_) <;> (clear hA hB A B; (try (exfalso; omega))))
    · rw [if_pos h] at hs
      have e := hs.symm; clear hs; (refine aEnR (aRes [] fun K hK => ?_); simp (maxSteps := 10000000) (disch := first | omega | simp) [e]; refine hK _ ?_ (by simp); clear hK; first | done | (simp (maxSteps := 10000000) (disch := first | omega | simp) [e, *]; done) | (simp (maxSteps := 10000000) (disch := first | omega | simp) [e, *]; omega) | (simp_all [e]; done) | (simp_all [e]; omega))
    · rw [if_neg h] at hs
      (refine ⟨?_, (), ?_, Wk.ofA ?_⟩; assumption; rotate_left; focus (simp []; done))
      exact hs
  · rw [drop_nil (by omega)] at hs
    simp only [idxI] at hs
    refine wk ?_
    have e := hs.symm; clear hs; (refine aEnR (aRes [] fun K hK => ?_); simp (maxSteps := 10000000) (disch := first | omega | simp) [e]; refine hK _ ?_ (by simp); clear hK; first | done | (simp (maxSteps := 10000000) (disch := first | omega | simp) [e, *]; done) | (simp (maxSteps := 10000000) (disch := first | omega | simp) [e, *]; omega) | (simp_all [e]; done) | (simp_all [e]; omega))
theorem contains_ok (l : List Int) (v : Int) (hl : l.length ≤ 1000000) : ACall pg 56 [Li l, I v] (B (l.contains v)) := by
  refine s56.call mo (by simp) fun hxs => ?_
  clear hxs
  unfold c56; dsimp only [oC, oG, oK, oM, oZ]
  have e : decide (0 ≤ idxI l v 0) = l.contains v := by
    rw [Bool.eq_iff_iff]; simp [idxI_nonneg]
  have := index_ok l v hl
  refine wk ?_
  (refine aEnR (aRes [] fun K hK => ?_); simp (maxSteps := 10000000) (disch := first | omega | simp) [e]; refine hK _ ?_ (by simp); clear hK; first | done | (simp (maxSteps := 10000000) (disch := first | omega | simp) [e, *]; done) | (simp (maxSteps := 10000000) (disch := first | omega | simp) [e, *]; omega) | (simp_all [e]; done) | (simp_all [e]; omega))
theorem equal_ok (a b : List Int) (hl : a.length ≤ 1000000) (hb : b.length ≤ 1000000) : ACall pg 92 [Li a, Li b] (B (a == b)) := by
  refine s92.call mo (by simp) fun hxs => ?_
  clear hxs
  unfold c92; dsimp only [oB, oD, oG, oJ, oK, oL, oM, oN, oU, oZ]
  repeat' first | (with_reducible first | refine thN ?_ | refine thR ?_ | refine thE ?_ | refine inN ?_ | refine inR ?_ | refine inH ?_ | refine fS ?_ | refine fR ?_ | refine fQ ?_ | refine fE ?_ | refine fT ?_ | refine awBlock ?_ | refine awExit ?_ | refine awRet ?_ | refine awSkip ?_) | ((with_reducible refine awReg fun K hok hK => ?_); clear hok; (try simp (maxSteps := 10000000) (disch := first | omega | simp) []); (repeat' first | (with_reducible refine hK _ (by simp) ?_) | ((with_reducible refine sideQ' ?_ ?_ fun K2 hK2 => ?_); exact rfl; exact rfl; (try simp (maxSteps := 10000000) (disch := first | omega | simp) []); with_reducible refine hK2 _ _ ?_; clear hK2 K2; (try simp (maxSteps := 10000000) (disch := first | omega | simp) []))) <;> clear hK K) | ((with_reducible refine awCond fun A B hA hB => ?_); simp (maxSteps := 10000000) (disch := first | omega | simp) []; (first | refine ⟨fun h => hA ?_, fun h => hB ?_⟩ | refine hA ?_ | refine hB ?_) <;> (clear hA hB A B; (try (exfalso; omega))))
  · have e : (a == b) = false := by rw [beq_eq_false_iff_ne]; intro e; subst e; simp_all
    (refine aEnR (aRes [] fun K hK => ?_); simp (maxSteps := 10000000) (disch := first | omega | simp) [e]; refine hK _ ?_ (by simp); clear hK; first | done | (simp (maxSteps := 10000000) (disch := first | omega | simp) [e, *]; done) | (simp (maxSteps := 10000000) (disch := first | omega | simp) [e, *]; omega) | (simp_all [e]; done) | (simp_all [e]; omega))
  have hl : a.length = b.length := by omega
  refine awFor a.length (fun i (_ : Unit) => a.take i = b.take i) (fun i _ => [(13, .p (I i)), (12, .p (I a.length)), (0, .p (Li a)), (1, .p (Li b))]) () (Wk.ofA (by simp)) (by simp) fun i _ hi hs => ?_
  repeat' first | (with_reducible first | refine thN ?_ | refine thR ?_ | refine thE ?_ | refine inN ?_ | refine inR ?_ | refine inH ?_ | refine fS ?_ | refine fR ?_ | refine fQ ?_ | refine fE ?_ | refine fT ?_ | refine awBlock ?_ | refine awExit ?_ | refine awRet ?_ | refine awSkip ?_) | ((with_reducible refine awReg fun K hok hK => ?_); clear hok; (try simp (maxSteps := 10000000) (disch := first | omega | simp) []); (repeat' first | (with_reducible refine hK _ (by simp) ?_) | ((with_reducible refine sideQ' ?_ ?_ fun K2 hK2 => ?_); exact rfl; exact rfl; (try simp (maxSteps := 10000000) (disch := first | omega | simp) []); with_reducible refine hK2 _ _ ?_; clear hK2 K2; (try simp (maxSteps := 10000000) (disch := first | omega | simp) []))) <;> clear hK K) | ((with_reducible refine awCond fun A B hA hB => ?_); simp (maxSteps := 10000000) (disch := first | omega | simp) []; (first | refine ⟨fun h => hA ?_, fun h => hB ?_⟩ | refine hA ?_ | refine hB ?_) <;> (clear hA hB A B; (try (exfalso; omega))))
  all_goals first
    | (have hi2 : i < a.length := by assumption
       have hi3 : i < b.length := (by omega)
       first
         | ((refine ⟨?_, (), ?_, Wk.ofA ?_⟩; assumption; rotate_left; focus (simp []; done)); exact eq_take hi2 hi3 hs (by simpa using h))
         | (have e : (a == b) = false := (by rw [beq_eq_false_iff_ne]; intro e; subst e; simp at h)
            (refine aEnR (aRes [] fun K hK => ?_); simp (maxSteps := 10000000) (disch := first | omega | simp) [e]; refine hK _ ?_ (by simp); clear hK; first | done | (simp (maxSteps := 10000000) (disch := first | omega | simp) [e, *]; done) | (simp (maxSteps := 10000000) (disch := first | omega | simp) [e, *]; omega) | (simp_all [e]; done) | (simp_all [e]; omega))))
    | (have e : a = b := (by rw [List.take_of_length_le (by omega), List.take_of_length_le (by omega)] at hs; exact hs)
       (refine aEnR (aRes [] fun K hK => ?_); simp (maxSteps := 10000000) (disch := first | omega | simp) [e]; refine hK _ ?_ (by simp); clear hK; first | done | (simp (maxSteps := 10000000) (disch := first | omega | simp) [e, *]; done) | (simp (maxSteps := 10000000) (disch := first | omega | simp) [e, *]; omega) | (simp_all [e]; done) | (simp_all [e]; omega)))
end
end Go.Am
end
