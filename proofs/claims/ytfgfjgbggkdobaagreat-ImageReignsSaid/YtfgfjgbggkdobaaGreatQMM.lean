/- Part of the proof of a law of the image. -/
import Derived.Test.YtfgfjgbggkdobaaGreatQEB
import Derived.Test.YtfgfjgbggkdobaaGreatQED
import Derived.Test.YtfgfjgbggkdobaaGreatQPU
import Derived.Test.YtfgfjgbggkdobaaGreatQW0
set_option linter.all false
section
set_option maxRecDepth 100000
set_option maxHeartbeats 0
namespace Go.Am
open Go
noncomputable section
def c86 : SC := (.seq (.reg [oO 1 65 0,oI 2 0] [1]) (.seq (.reg [oF 3 65 1 0,oL 4 3 3,oG 2 4] [1,2,3,4]) .ret))
theorem s86 : TextK Proofs.Tryz.prog 0 86 5 [ResultVar.tmp 2] c86 := .mk' Proofs.Tryz.f86 _ (by kernel_rfl) rfl rfl rfl (by kernel_rfl) rfl (by kernel_rfl)
def c104 : SC := (.seq (.reg [oO 3 65 0,oI 5 0] [1,2,3]) (.seq (.reg [oL 6 130 2,oL 7 65 3,oD 8 (.call { callee := .value (.tmp 6),args := #[.tmp 7],argTypes := #[65] }),oM 9 1,oB 10 .sub 3 8 9 3,oG 5 10] [5,10]) .ret))
theorem s104 : TextK Proofs.Tryz.prog 0 104 11 [ResultVar.tmp 5] c104 := .mk' Proofs.Tryz.f104 _ (by kernel_rfl) rfl rfl rfl (by kernel_rfl) rfl (by kernel_rfl)
def c103 : SC := (.seq (.reg [oI 6 0,oZ 7 false] [0,1,2,33]) (.seq (.reg [oM 12 0,oN 13 12 26,oG 8 13] [0,1,2,8,13,33]) (.seq (.reg [oM 14 8,oI 9 0,oG 10 14] [0,1,2,8,9,10,11,13,14,23,33,34]) (.seq (.block 0 (.seq (.loop (.seq (.reg [oM 15 9,oM 16 10,oB 17 .lss 3 15 16 3] [0,1,2,8,9,10,11,13,14,17,23,33,34]) (.seq (.cond (.tmp 17) .skip (.exit 0)) (.seq (.block 1 (.seq (.reg [oM 18 9,oM 19 10,oB 20 .add 3 18 19 3,oD 21 (.convert 3 154 (.tmp 20)),oD 22 (.binOp .shr 154 (.tmp 21) (.const (.int .u64 1)) 154),oD 23 (.convert 154 3 (.tmp 22)),oG 11 23] [0,1,2,8,9,10,11,13,14,23,33,34]) (.seq (.reg [oM 24 2,oM 25 0,oM 26 11,oJ 27 26 25 26,oL 28 65 27,oM 29 1,oD 30 (.call { callee := .value (.tmp 24),args := #[.tmp 28,.tmp 29],argTypes := #[65,3] }),oK 31 .lss 3 30 0 3] [0,1,2,8,9,10,11,13,14,23,31,33,34]) (.seq (.cond (.tmp 31) (.seq (.reg [oM 32 11,oK 33 .add 3 32 1 3,oG 9 33] [0,1,2,8,9,10,11,13,14,23,33,34]) .skip) (.seq (.reg [oM 34 11,oG 10 34] [0,1,2,8,9,10,11,13,14,23,33,34]) .skip)) .skip)))) .skip)))) .skip)) (.seq (.reg [oM 35 9,oM 36 9,oM 37 8,oB 38 .lss 3 36 37 3,oM 39 38,oW 39 true (oM 40 2),oW 39 true (oM 41 0),oW 39 true (oM 42 9),oW 39 true (oJ 43 26 41 42),oW 39 true (oL 44 65 43),oW 39 true (oM 45 1),oW 39 true (oD 46 (.call { callee := .value (.tmp 40),args := #[.tmp 44,.tmp 45],argTypes := #[65,3] })),oW 39 true (oK 47 .eql 3 46 0 3),oQ 48 39 47 false,oG 6 35,oG 7 48] [6,7,9,33,35,38,39,47,48]) .ret)))))
theorem s103 : TextK Proofs.Tryz.prog 0 103 49 [ResultVar.tmp 6, ResultVar.tmp 7] c103 := .mk' Proofs.Tryz.f103 _ (by kernel_rfl) rfl rfl rfl (by kernel_rfl) rfl (by kernel_rfl)
def c85 : SC := (.seq (.reg [oO 5 130 2,oI 6 0,oZ 7 false] [0,1,5]) (.seq (.reg [oM 8 0,oM 9 1,oD 10 (.makeFunc (Fn.func 104) #[] #[.tmp 5]),oC 11 103 #[.tmp 8,.tmp 9,.tmp 10] #[26,3,152],oX 12 11 0,oX 13 11 1,oG 6 12,oG 7 13] [6,7,11,12,13]) .ret))
theorem s85 : TextK Proofs.Tryz.prog 0 85 14 [ResultVar.tmp 6, ResultVar.tmp 7] c85 := .mk' Proofs.Tryz.f85 _ (by kernel_rfl) rfl rfl rfl (by kernel_rfl) rfl (by kernel_rfl)
def c59 : SC := (.seq (.reg [oO 2 30 0,oI 4 0,oZ 5 false] [1,2]) (.seq (.reg [oF 6 30 2 1,oL 7 26 6,oM 8 1,oC 9 85 #[.tmp 7,.tmp 8,.func 86] #[26,3,130],oX 10 9 0,oX 11 9 1,oG 4 10,oG 5 11] [4,5,9,10,11]) .ret))
theorem s59 : TextK Proofs.Tryz.prog 0 59 12 [ResultVar.tmp 4, ResultVar.tmp 5] c59 := .mk' Proofs.Tryz.f59 _ (by kernel_rfl) rfl rfl rfl (by kernel_rfl) rfl (by kernel_rfl)
def c32 : SC := (.seq (.reg [oO 2 30 0,oA 4 65,oZ 5 false] [1,2,4]) (.seq (.reg [oL 9 30 2,oM 10 1,oC 11 59 #[.tmp 9,.tmp 10] #[30,3],oM 8 11,oX 12 8 0,oX 13 8 1,oG 6 12,oG 7 13] [2,4,6,7,8,11,12,13]) (.seq (.reg [oM 14 7,oD 15 (.unOp .not 4 (.tmp 14))] [2,4,6,8,11,12,15]) (.seq (.cond (.tmp 15) (.seq (.reg [oD 16 (.build 65 #[]),oS 65 4 16,oZ 5 false] [4,5]) .ret) .skip) (.seq (.reg [oF 17 30 2 1,oL 18 26 17,oM 19 6,oJ 20 26 18 19,oL 21 65 20,oS 65 4 21,oZ 5 true] [4,5]) .ret)))))
theorem s32 : TextK Proofs.Tryz.prog 0 32 22 [ResultVar.cell 4 65, ResultVar.tmp 5] c32 := .mk' Proofs.Tryz.f32 _ (by kernel_rfl) rfl rfl rfl (by kernel_rfl) rfl (by kernel_rfl)
abbrev srtT (l : List Topic) : Prop := l.Pairwise fun a b => a.id < b.id
theorem topicId_ok (x : Topic) : ACall pg 86 [encT x] (I x.id) := by
  refine s86.call mo (by simp) fun hxs => ?_
  clear hxs
  unfold c86; dsimp only [oF, oG, oI, oL, oO]
  refine wk ?_
  exact fn0
abbrev capT : V := .ip [.clo 86 []] 0
theorem findT1_ok (x : Topic) (n : Int) (h : -9223372036854775808 ≤ x.id - n ∧ x.id - n ≤ 9223372036854775807) : ACall pg 104 [encT x, I n, capT] (I (x.id - n)) := by
  refine s104.call mo (by simp) fun hxs => ?_
  clear hxs
  unfold c104; dsimp only [oB, oD, oG, oI, oL, oM, oO]
  have e := i64_wrap h
  have := topicId_ok x
  have F := e
  refine wkF ?_
  (refine aEnR (aRes [] fun K hK => ?_); simp (maxSteps := 10000000) (disch := first | omega | simp) [e]; refine hK _ ?_ (by simp); clear hK; first | done | (simp (maxSteps := 10000000) (disch := first | omega | simp) [e, *]; done) | (simp (maxSteps := 10000000) (disch := first | omega | simp) [e, *]; omega) | (simp_all [e]; done) | (simp_all [e]; omega))
theorem bsearchT_ok (l : List Topic) (n : Int) (f : FuncId) (caps : List V) (hp : pureL caps = true) (c : Topic → Int) (hc : ∀ x ∈ l, ACall pg f ([encT x, I n] ++ caps) (I (c x))) (k : Nat) (hk : k ≤ l.length) (hl : l.length ≤ 1000000) (hi : ∀ i (h : i < l.length), i < k ↔ c l[i] < 0) :
    ACall pg 103 [.sl (l.map encT), I n, .clo f caps] (.tup [I k, B (if h : k < l.length then c l[k] == 0 else false)]) := by
  refine s103.call mo (by simp) fun hxs => ?_
  clear hxs
  unfold c103; dsimp only [oB, oD, oG, oI, oJ, oK, oL, oM, oN, oQ, oW, oZ]
  have hv := pvL_pure caps hp
  have F := And.intro hp hv
  refine wkF ?_
  refine awWhile (fun (s : Nat × Nat) => s.2 - s.1) (fun s => s.1 ≤ k ∧ k ≤ s.2 ∧ s.2 ≤ l.length) (fun s => [(10, .p (I s.2)), (9, .p (I s.1)), (8, .p (I l.length)), (2, .p (.clo f caps)), (1, .p (I n)), (0, .p (.sl (l.map encT)))]) (0, l.length) (Wk.ofA (by simp)) (by simp; omega) fun s hs => ?_
  obtain ⟨i, j⟩ := s
  simp only at hs
  by_cases hlt : i < j
  · have e1 : IntKind.u64.wrap ((i : Int) + j) = i + j := by simp [IntKind.wrap, IntKind.bits, IntKind.signed]; omega
    obtain ⟨t, ht1, ht2, e2⟩ : ∃ t : Nat, i ≤ t ∧ t < j ∧ IntKind.i64.wrap (((i : Int) + j).fdiv (2 ^ min 1 IntKind.u64.bits)) = t := by
      refine ⟨(i + j) / 2, by omega, by omega, ?_⟩
      have : (2 : Int) ^ min 1 IntKind.u64.bits = 2 := by decide
      rw [this, Int.fdiv_eq_ediv_of_nonneg _ (by omega), i64_wrap (by omega)]; omega
    have hmid : t < l.length := by omega
    have hik := hi t hmid
    repeat' first | (with_reducible first | refine thN ?_ | refine thE ?_ | refine inN ?_ | refine inH ?_ | refine fS ?_ | refine fR ?_ | refine fQ ?_ | refine fE ?_ | refine awBlock ?_ | refine awExit ?_ | refine awRet ?_ | refine awSkip ?_) | ((with_reducible refine awReg fun K hok hK => ?_); clear hok; (try simp (maxSteps := 10000000) (disch := first | omega | simp) [e1, e2, hp, hv]); (repeat' first | (with_reducible refine hK _ (by simp) ?_) | ((with_reducible refine gdT (fun h => ?_) (fun h => ?_)) <;> (simp (maxSteps := 10000000) (disch := first | omega | simp) [h, e1, e2, hp, hv]; (try simp at h); (try (exfalso; omega)))) | ((with_reducible refine callCS' fun K2 hK2 => ?_); (try simp (maxSteps := 10000000) (disch := first | omega | simp) [e1, e2, hp, hv]); (refine hK2 _ _ _ _ (hc _ (List.getElem_mem hmid)) rfl fun hk9 => ?_); clear hk9; clear hK2 K2; (try simp (maxSteps := 10000000) (disch := first | omega | simp) [e1, e2, hp, hv]))) <;> clear hK K) | ((with_reducible refine awCond fun A B hA hB => ?_); simp (maxSteps := 10000000) (disch := first | omega | simp) [e1, e2, hp, hv]; (first | refine ⟨fun h => hA ?_, fun h => hB ?_⟩ | refine hA ?_ | refine hB ?_) <;> (clear hA hB A B; (try (exfalso; omega))))
    · have := hik.2 h
      refine ⟨(t + 1, j), by simp only; omega, by simp only; omega, Wk.ofA (by simp)⟩
    · have : ¬ t < k := fun hh => by have := hik.1 hh; omega
      refine ⟨(i, t), by simp only; omega, by simp only; omega, Wk.ofA (by simp)⟩
  · have : i = k ∧ j = k := by omega
    obtain ⟨rfl, rfl⟩ := this
    by_cases hkl : j < l.length
    · repeat' first | (with_reducible first | refine thN ?_ | refine thE ?_ | refine inN ?_ | refine inH ?_ | refine fS ?_ | refine fR ?_ | refine fQ ?_ | refine fE ?_ | refine awBlock ?_ | refine awExit ?_ | refine awRet ?_ | refine awSkip ?_) | ((with_reducible refine awReg fun K hok hK => ?_); clear hok; (try simp (maxSteps := 10000000) (disch := first | omega | simp) [hp, hv]); (repeat' first | (with_reducible refine hK _ (by simp) ?_) | ((with_reducible refine gdT (fun h => ?_) (fun h => ?_)) <;> (simp (maxSteps := 10000000) (disch := first | omega | simp) [h, hp, hv]; (try simp at h); (try (exfalso; omega)))) | ((with_reducible refine callCS' fun K2 hK2 => ?_); (try simp (maxSteps := 10000000) (disch := first | omega | simp) [hp, hv]); (refine hK2 _ _ _ _ (hc _ (List.getElem_mem hkl)) rfl fun hk9 => ?_); clear hk9; clear hK2 K2; (try simp (maxSteps := 10000000) (disch := first | omega | simp) [hp, hv]))) <;> clear hK K) | ((with_reducible refine awCond fun A B hA hB => ?_); simp (maxSteps := 10000000) (disch := first | omega | simp) [hp, hv]; (first | refine ⟨fun h => hA ?_, fun h => hB ?_⟩ | refine hA ?_ | refine hB ?_) <;> (clear hA hB A B; (try (exfalso; omega))))
      (refine aEnR (aRes [] fun K hK => ?_); simp (maxSteps := 10000000) (disch := first | omega | simp) [hkl]; refine hK _ ?_ (by simp); clear hK; first | done | (simp (maxSteps := 10000000) (disch := first | omega | simp) [hkl, *]; done) | (simp (maxSteps := 10000000) (disch := first | omega | simp) [hkl, *]; omega) | (simp_all [hkl]; done) | (simp_all [hkl]; omega))
    · repeat' first | (with_reducible first | refine thN ?_ | refine thE ?_ | refine inN ?_ | refine inH ?_ | refine fS ?_ | refine fR ?_ | refine fQ ?_ | refine fE ?_ | refine awBlock ?_ | refine awExit ?_ | refine awRet ?_ | refine awSkip ?_) | ((with_reducible refine awReg fun K hok hK => ?_); clear hok; (try simp (maxSteps := 10000000) (disch := first | omega | simp) [hp, hv]); (repeat' first | (with_reducible refine hK _ (by simp) ?_) | ((with_reducible refine gdT (fun h => ?_) (fun h => ?_)) <;> (simp (maxSteps := 10000000) (disch := first | omega | simp) [h, hp, hv]; (try simp at h); (try (exfalso; omega)))) | ((with_reducible refine callCS' fun K2 hK2 => ?_); (try simp (maxSteps := 10000000) (disch := first | omega | simp) [hp, hv]); (refine hK2 _ _ _ _ (hc _ (List.getElem_mem hkl)) rfl fun hk9 => ?_); clear hk9; clear hK2 K2; (try simp (maxSteps := 10000000) (disch := first | omega | simp) [hp, hv]))) <;> clear hK K) | ((with_reducible refine awCond fun A B hA hB => ?_); simp (maxSteps := 10000000) (disch := first | omega | simp) [hp, hv]; (first | refine ⟨fun h => hA ?_, fun h => hB ?_⟩ | refine hA ?_ | refine hB ?_) <;> (clear hA hB A B; (try (exfalso; omega))))
      (refine aEnR (aRes [] fun K hK => ?_); simp (maxSteps := 10000000) (disch := first | omega | simp) [hkl]; refine hK _ ?_ (by simp); clear hK; first | done | (simp (maxSteps := 10000000) (disch := first | omega | simp) [hkl, *]; done) | (simp (maxSteps := 10000000) (disch := first | omega | simp) [hkl, *]; omega) | (simp_all [hkl]; done) | (simp_all [hkl]; omega))
theorem findT_ok (m : Image) (n : Int) (hs : srtT m.topics) (hb : ∀ b ∈ m.topics, 1 ≤ b.id ∧ b.id ≤ 1073741824) (hl : m.topics.length ≤ 1000000) (hn : big62 n) : ACall pg 85 [.sl (m.topics.map encT), I n, .clo 86 []] (.tup [I (posOf Topic.id m.topics n), B (m.topic n).isSome]) := by
  refine s85.call mo (by simp) fun hxs => ?_
  clear hxs
  unfold c85; dsimp only [oC, oD, oG, oI, oM, oO, oX, oZ]
  have hc : ∀ x ∈ m.topics, ACall pg 104 ([encT x, I n] ++ [capT]) (I (x.id - n)) := fun x hx => findT1_ok x n (by have := hb x hx; unfold big62 at hn; omega)
  have hbs := bsearchT_ok m.topics n _ [capT] (by simp [pureL, pureB]) (fun x => x.id - n) hc (posOf Topic.id m.topics n) (pos_le _ _ _) hl (fun i h => by rw [pos_iff n hs i h]; omega)
  have e : (if h : posOf Topic.id m.topics n < m.topics.length then m.topics[posOf Topic.id m.topics n].id - n == 0 else false) = (m.topic n).isSome := by
    unfold Image.topic
    rw [pos_find (f := Topic.id) n hs]
    split
    · split
      · rename_i h; simp [h]
      · rename_i h; simp; omega
    · rfl
  rw [e] at hbs
  refine wk ?_
  exact fn0
theorem itopic_ok (m : Image) (n : Int) (hs : srtT m.topics) (hb : ∀ b ∈ m.topics, 1 ≤ b.id ∧ b.id ≤ 1073741824) (hl : m.topics.length ≤ 1000000) (hn : big62 n) : ACall pg 59 [encM m, I n] (.tup [I (posOf Topic.id m.topics n), B (m.topic n).isSome]) := by
  refine s59.call mo (by simp) fun hxs => ?_
  clear hxs
  unfold c59; dsimp only [oC, oF, oG, oI, oL, oM, oO, oX, oZ]
  have := findT_ok m n hs hb hl hn
  refine wk ?_
  exact fn0
theorem iTopic_ok (m : Image) (n : Int) (hs : srtT m.topics) (hb : ∀ b ∈ m.topics, 1 ≤ b.id ∧ b.id ≤ 1073741824) (hl : m.topics.length ≤ 1000000) (hn : big62 n) : ACall pg 32 [encM m, I n] (.tup [encT ((m.topic n).getD zT), B (m.topic n).isSome]) := by
  refine s32.call mo (by simp) fun hxs => ?_
  clear hxs
  unfold c32; dsimp only [oA, oC, oD, oF, oG, oJ, oL, oM, oO, oS, oX, oZ]
  have hp := pos_find (f := Topic.id) n hs
  cases hm : m.topic n with
  | none =>
    have := itopic_ok m n hs hb hl hn
    have F := hm
    refine wkF ?_
    (refine aEnR (aRes [] fun K hK => ?_); simp (maxSteps := 10000000) (disch := first | omega | simp) [zT]; refine hK _ ?_ (by simp); clear hK; first | done | (simp (maxSteps := 10000000) (disch := first | omega | simp) [zT, *]; done) | (simp (maxSteps := 10000000) (disch := first | omega | simp) [zT, *]; omega) | (simp_all [zT]; done) | (simp_all [zT]; omega))
  | some b =>
    unfold Image.topic at hm
    rw [hm] at hp
    split at hp
    · rename_i h
      split at hp
      · rename_i h2
        have hb2 : m.topics[posOf Topic.id m.topics n] = b := by simpa using hp.symm
        have hm' : (m.topic n).isSome = true := by unfold Image.topic; rw [hm]; rfl
        have := itopic_ok m n hs hb hl hn
        have F := And.intro hm' hb2
        refine wkF ?_
        exact fn0
      · cases hp
    · cases hp
end
end Go.Am
end
section
namespace Go.Am
def idxF {α : Type} (p : α → Bool) : List α → Nat → Int
  | [], _ => -1
  | x :: l, i => if p x then (i : Int) else idxF p l (i + 1)
theorem idxF_some {α : Type} (p : α → Bool) : ∀ (l : List α) (i : Nat) (x : α), l.find? p = some x → ∃ j, idxF p l i = ((i + j : Nat) : Int) ∧ l[j]? = some x := by
  intro l
  induction l with
  | nil => intro i x h; simp at h
  | cons y l ih =>
    intro i x h
    rw [List.find?_cons] at h
    cases hp : p y with
    | true => rw [hp] at h; cases h; exact ⟨0, by simp [idxF, hp], rfl⟩
    | false =>
      rw [hp] at h
      obtain ⟨j, h1, h2⟩ := ih (i + 1) x h
      exact ⟨j + 1, by simp only [idxF, hp]; rw [if_neg (by simp), h1]; congr 1; omega, by simpa using h2⟩
theorem idxF_none {α : Type} (p : α → Bool) : ∀ (l : List α) (i : Nat), idxF p l i = -1 → (l.filter fun x => !p x) = l := by
  intro l
  induction l with
  | nil => intro i _; rfl
  | cons x l ih =>
    intro i h
    simp only [idxF] at h
    split at h
    · omega
    · rename_i hx
      rw [List.filter_cons, ih (i + 1) h]; simp [hx]
theorem idxF_hit {α : Type} (p : α → Bool) (l : List α) (h : idxF p l 0 ≠ -1) : ∃ q, idxF p l 0 = ((q : Nat) : Int) ∧ ∃ hq : q < l.length, p l[q] = true ∧ ∀ j (hj : j < q), p (l[j]'(by omega)) = false := by
  have key : ∀ (l : List α) (i : Nat), idxF p l i ≠ -1 → ∃ q, idxF p l i = ((i + q : Nat) : Int) ∧ ∃ hq : q < l.length, p l[q] = true ∧ ∀ j (hj : j < q), p (l[j]'(by omega)) = false := by
    intro l
    induction l with
    | nil => intro i h; exact absurd rfl h
    | cons x l ih =>
      intro i h
      simp only [idxF] at h ⊢
      cases hx : p x with
      | true => rw [if_pos rfl]; exact ⟨0, rfl, by simp, by simpa using hx, by omega⟩
      | false =>
        rw [hx, if_neg (by simp)] at h
        rw [if_neg (by simp)]
        obtain ⟨q, h1, h2, h3, h4⟩ := ih (i + 1) h
        refine ⟨q + 1, by rw [h1]; congr 1; omega, by simp; omega, by simpa using h3, fun j hj => ?_⟩
        cases j with
        | zero => simpa using hx
        | succ j => simpa using h4 j (by omega)
  have := key l 0 h
  simpa using this
theorem idxF_any {α : Type} (p : α → Bool) : ∀ (l : List α) (i : Nat), decide (0 ≤ idxF p l i) = l.any p := by
  intro l
  induction l with
  | nil => intro i; simp [idxF]
  | cons x l ih =>
    intro i
    have := ih (i + 1)
    simp only [List.any_cons]
    by_cases hx : p x = true
    · rw [hx]; simp [idxF, hx]
    · have hx' : p x = false := by simpa using hx
      rw [hx']; simp only [idxF, hx', Bool.false_eq_true, if_false, Bool.false_or]; exact this
end Go.Am
end
section
set_option maxRecDepth 100000
set_option maxHeartbeats 0
namespace Go.Am
open Go
noncomputable section
def c78 : SC := (.seq (.reg [oI 4 0] [0,1,5,8,10,17,18]) (.seq (.reg [oM 6 0,oN 7 6 26,oD 8 (.move (.const (.int .i64 0)))] [0,1,5,7,8,10,17,18]) (.seq (.block 0 (.seq (.loop (.seq (.reg [oB 9 .lss 3 8 7 3] [0,1,5,7,8,9,10,17,18]) (.seq (.cond (.tmp 9) .skip (.exit 0)) (.seq (.block 1 (.seq (.reg [oM 10 8,oG 5 10] [0,1,5,7,8,10,17,18]) (.seq (.reg [oM 11 1,oM 12 0,oM 13 5,oJ 14 26 12 13,oL 15 65 14,oD 16 (.call { callee := .value (.tmp 11),args := #[.tmp 15],argTypes := #[65] })] [0,1,5,7,8,10,16,17,18]) (.seq (.cond (.tmp 16) (.seq (.reg [oM 17 5,oG 4 17] [4,5,8,10,17,18]) .ret) .skip) .skip)))) (.seq (.reg [oK 18 .add 3 8 1 3,oM 8 18] [0,1,5,7,8,10,17,18]) .skip))))) .skip)) (.seq (.reg [oD 4 (.assign (.const (.int .i64 (-1))))] [4,5,8,10,17,18]) .ret))))
theorem s78 : TextK Proofs.Tryz.prog 0 78 19 [ResultVar.tmp 4] c78 := .mk' Proofs.Tryz.f78 _ (by kernel_rfl) rfl rfl rfl (by kernel_rfl) rfl (by kernel_rfl)
def c35 : SC := (.seq (.reg [oZ 4 false] [0,1]) (.seq (.reg [oM 5 0,oM 6 1,oC 7 78 #[.tmp 5,.tmp 6] #[26,83],oK 8 .geq 3 7 0 3,oG 4 8] [4,8]) .ret))
theorem s35 : TextK Proofs.Tryz.prog 0 35 9 [ResultVar.tmp 4] c35 := .mk' Proofs.Tryz.f35 _ (by kernel_rfl) rfl rfl rfl (by kernel_rfl) rfl (by kernel_rfl)
theorem indexFuncT_ok (l : List Topic) (f : FuncId) (caps : List V) (hp : pureL caps = true) (p : Topic → Bool) (hc : ∀ x ∈ l, ACall pg f ([encT x] ++ caps) (B (p x))) (hl : l.length ≤ 1000000) :
    ACall pg 78 [.sl (l.map encT), .clo f caps] (I (idxF p l 0)) := by
  refine s78.call mo (by simp) fun hxs => ?_
  clear hxs
  unfold c78; dsimp only [oB, oD, oG, oI, oJ, oK, oL, oM, oN]
  have hv := pvL_pure caps hp
  have F := And.intro hp hv
  refine wkF ?_
  refine awFor l.length (fun i (_ : Unit) => idxF p (l.drop i) i = idxF p l 0) (fun i _ => [(8, .p (I i)), (7, .p (I l.length)), (1, .p (.clo f caps)), (0, .p (.sl (l.map encT)))]) () (Wk.ofA (by simp)) rfl fun i _ hi hs => ?_
  by_cases hlt : i < l.length
  · rw [drop_cons hlt] at hs
    simp only [idxF] at hs
    have hcx := hc _ (List.getElem_mem hlt)
    cases hpx : p l[i] with
    | true =>
      rw [hpx] at hs hcx
      rw [if_pos rfl] at hs
      have F := And.intro hp hv
      refine wkF ?_
      (refine aEnR (aRes [] fun K hK => ?_); simp (maxSteps := 10000000) (disch := first | omega | simp) [hs]; refine hK _ ?_ (by simp); clear hK; first | done | (simp (maxSteps := 10000000) (disch := first | omega | simp) [hs, *]; done) | (simp (maxSteps := 10000000) (disch := first | omega | simp) [hs, *]; omega) | (simp_all [hs]; done) | (simp_all [hs]; omega))
    | false =>
      rw [hpx] at hs hcx
      rw [if_neg (by simp)] at hs
      have F := And.intro hp hv
      refine wkF ?_
      (refine ⟨?_, (), ?_, Wk.ofA ?_⟩; assumption; rotate_left; focus (simp []; done))
      exact hs
  · rw [drop_nil (by omega)] at hs
    simp only [idxF] at hs
    refine wk ?_
    (refine aEnR (aRes [] fun K hK => ?_); simp (maxSteps := 10000000) (disch := first | omega | simp) [hs]; refine hK _ ?_ (by simp); clear hK; first | done | (simp (maxSteps := 10000000) (disch := first | omega | simp) [hs, *]; done) | (simp (maxSteps := 10000000) (disch := first | omega | simp) [hs, *]; omega) | (simp_all [hs]; done) | (simp_all [hs]; omega))
theorem containsFuncT_ok (l : List Topic) (f : FuncId) (caps : List V) (hp : pureL caps = true) (p : Topic → Bool) (hc : ∀ x ∈ l, ACall pg f ([encT x] ++ caps) (B (p x))) (hl : l.length ≤ 1000000) :
    ACall pg 35 [.sl (l.map encT), .clo f caps] (B (l.any p)) := by
  refine s35.call mo (by simp) fun hxs => ?_
  clear hxs
  unfold c35; dsimp only [oC, oG, oK, oM, oZ]
  have hv := pvL_pure caps hp
  have hi := indexFuncT_ok l f caps hp p hc hl
  have e := idxF_any p l 0
  have F := And.intro hp hv
  refine wkF ?_
  (refine aEnR (aRes [] fun K hK => ?_); simp (maxSteps := 10000000) (disch := first | omega | simp) [e]; refine hK _ ?_ (by simp); clear hK; first | done | (simp (maxSteps := 10000000) (disch := first | omega | simp) [e, *]; done) | (simp (maxSteps := 10000000) (disch := first | omega | simp) [e, *]; omega) | (simp_all [e]; done) | (simp_all [e]; omega))
def c79 : SC := (.seq (.reg [oI 4 0] [0,1,5,8,10,17,18]) (.seq (.reg [oM 6 0,oN 7 6 63,oD 8 (.move (.const (.int .i64 0)))] [0,1,5,7,8,10,17,18]) (.seq (.block 0 (.seq (.loop (.seq (.reg [oB 9 .lss 3 8 7 3] [0,1,5,7,8,9,10,17,18]) (.seq (.cond (.tmp 9) .skip (.exit 0)) (.seq (.block 1 (.seq (.reg [oM 10 8,oG 5 10] [0,1,5,7,8,10,17,18]) (.seq (.reg [oM 11 1,oM 12 0,oM 13 5,oJ 14 63 12 13,oL 15 47 14,oD 16 (.call { callee := .value (.tmp 11),args := #[.tmp 15],argTypes := #[47] })] [0,1,5,7,8,10,16,17,18]) (.seq (.cond (.tmp 16) (.seq (.reg [oM 17 5,oG 4 17] [4,5,8,10,17,18]) .ret) .skip) .skip)))) (.seq (.reg [oK 18 .add 3 8 1 3,oM 8 18] [0,1,5,7,8,10,17,18]) .skip))))) .skip)) (.seq (.reg [oD 4 (.assign (.const (.int .i64 (-1))))] [4,5,8,10,17,18]) .ret))))
theorem s79 : TextK Proofs.Tryz.prog 0 79 19 [ResultVar.tmp 4] c79 := .mk' Proofs.Tryz.f79 _ (by kernel_rfl) rfl rfl rfl (by kernel_rfl) rfl (by kernel_rfl)
def c37 : SC := (.seq (.reg [oZ 4 false] [0,1]) (.seq (.reg [oM 5 0,oM 6 1,oC 7 79 #[.tmp 5,.tmp 6] #[63,82],oK 8 .geq 3 7 0 3,oG 4 8] [4,8]) .ret))
theorem s37 : TextK Proofs.Tryz.prog 0 37 9 [ResultVar.tmp 4] c37 := .mk' Proofs.Tryz.f37 _ (by kernel_rfl) rfl rfl rfl (by kernel_rfl) rfl (by kernel_rfl)
theorem indexFuncP_ok (l : List Part) (f : FuncId) (caps : List V) (hp : pureL caps = true) (p : Part → Bool) (hc : ∀ x ∈ l, ACall pg f ([encP x] ++ caps) (B (p x))) (hl : l.length ≤ 1000000) :
    ACall pg 79 [.sl (l.map encP), .clo f caps] (I (idxF p l 0)) := by
  refine s79.call mo (by simp) fun hxs => ?_
  clear hxs
  unfold c79; dsimp only [oB, oD, oG, oI, oJ, oK, oL, oM, oN]
  have hv := pvL_pure caps hp
  have F := And.intro hp hv
  refine wkF ?_
  refine awFor l.length (fun i (_ : Unit) => idxF p (l.drop i) i = idxF p l 0) (fun i _ => [(8, .p (I i)), (7, .p (I l.length)), (1, .p (.clo f caps)), (0, .p (.sl (l.map encP)))]) () (Wk.ofA (by simp)) rfl fun i _ hi hs => ?_
  by_cases hlt : i < l.length
  · rw [drop_cons hlt] at hs
    simp only [idxF] at hs
    have hcx := hc _ (List.getElem_mem hlt)
    cases hpx : p l[i] with
    | true =>
      rw [hpx] at hs hcx
      rw [if_pos rfl] at hs
      have F := And.intro hp hv
      refine wkF ?_
      (refine aEnR (aRes [] fun K hK => ?_); simp (maxSteps := 10000000) (disch := first | omega | simp) [hs]; refine hK _ ?_ (by simp); clear hK; first | done | (simp (maxSteps := 10000000) (disch := first | omega | simp) [hs, *]; done) | (simp (maxSteps := 10000000) (disch := first | omega | simp) [hs, *]; omega) | (simp_all [hs]; done) | (simp_all [hs]; omega))
    | false =>
      rw [hpx] at hs hcx
      rw [if_neg (by simp)] at hs
      have F := And.intro hp hv
      refine wkF ?_
      (refine ⟨?_, (), ?_, Wk.ofA ?_⟩; assumption; rotate_left; focus (simp []; done))
      exact hs
  · rw [drop_nil (by omega)] at hs
    simp only [idxF] at hs
    refine wk ?_
    (refine aEnR (aRes [] fun K hK => ?_); simp (maxSteps := 10000000) (disch := first | omega | simp) [hs]; refine hK _ ?_ (by simp); clear hK; first | done | (simp (maxSteps := 10000000) (disch := first | omega | simp) [hs, *]; done) | (simp (maxSteps := 10000000) (disch := first | omega | simp) [hs, *]; omega) | (simp_all [hs]; done) | (simp_all [hs]; omega))
theorem containsFuncP_ok (l : List Part) (f : FuncId) (caps : List V) (hp : pureL caps = true) (p : Part → Bool) (hc : ∀ x ∈ l, ACall pg f ([encP x] ++ caps) (B (p x))) (hl : l.length ≤ 1000000) :
    ACall pg 37 [.sl (l.map encP), .clo f caps] (B (l.any p)) := by
  refine s37.call mo (by simp) fun hxs => ?_
  clear hxs
  unfold c37; dsimp only [oC, oG, oK, oM, oZ]
  have hv := pvL_pure caps hp
  have hi := indexFuncP_ok l f caps hp p hc hl
  have e := idxF_any p l 0
  have F := And.intro hp hv
  refine wkF ?_
  (refine aEnR (aRes [] fun K hK => ?_); simp (maxSteps := 10000000) (disch := first | omega | simp) [e]; refine hK _ ?_ (by simp); clear hK; first | done | (simp (maxSteps := 10000000) (disch := first | omega | simp) [e, *]; done) | (simp (maxSteps := 10000000) (disch := first | omega | simp) [e, *]; omega) | (simp_all [e]; done) | (simp_all [e]; omega))
def c105 : SC := (.seq (.reg [oI 4 0] [0,1,5,8,10,17,18]) (.seq (.reg [oM 6 0,oN 7 6 35,oD 8 (.move (.const (.int .i64 0)))] [0,1,5,7,8,10,17,18]) (.seq (.block 0 (.seq (.loop (.seq (.reg [oB 9 .lss 3 8 7 3] [0,1,5,7,8,9,10,17,18]) (.seq (.cond (.tmp 9) .skip (.exit 0)) (.seq (.block 1 (.seq (.reg [oM 10 8,oG 5 10] [0,1,5,7,8,10,17,18]) (.seq (.reg [oM 11 1,oM 12 0,oM 13 5,oJ 14 35 12 13,oL 15 3 14,oD 16 (.call { callee := .value (.tmp 11),args := #[.tmp 15],argTypes := #[3] })] [0,1,5,7,8,10,16,17,18]) (.seq (.cond (.tmp 16) (.seq (.reg [oM 17 5,oG 4 17] [4,5,8,10,17,18]) .ret) .skip) .skip)))) (.seq (.reg [oK 18 .add 3 8 1 3,oM 8 18] [0,1,5,7,8,10,17,18]) .skip))))) .skip)) (.seq (.reg [oD 4 (.assign (.const (.int .i64 (-1))))] [4,5,8,10,17,18]) .ret))))
theorem s105 : TextK Proofs.Tryz.prog 0 105 19 [ResultVar.tmp 4] c105 := .mk' Proofs.Tryz.f105 _ (by kernel_rfl) rfl rfl rfl (by kernel_rfl) rfl (by kernel_rfl)
def c88 : SC := (.seq (.reg [oZ 4 false] [0,1]) (.seq (.reg [oM 5 0,oM 6 1,oC 7 105 #[.tmp 5,.tmp 6] #[35,86],oK 8 .geq 3 7 0 3,oG 4 8] [4,8]) .ret))
theorem s88 : TextK Proofs.Tryz.prog 0 88 9 [ResultVar.tmp 4] c88 := .mk' Proofs.Tryz.f88 _ (by kernel_rfl) rfl rfl rfl (by kernel_rfl) rfl (by kernel_rfl)
theorem indexFuncI_ok (l : List Int) (f : FuncId) (caps : List V) (hp : pureL caps = true) (p : Int → Bool) (hc : ∀ x ∈ l, ACall pg f ([I x] ++ caps) (B (p x))) (hl : l.length ≤ 1000000) :
    ACall pg 105 [.sl (l.map I), .clo f caps] (I (idxF p l 0)) := by
  refine s105.call mo (by simp) fun hxs => ?_
  clear hxs
  unfold c105; dsimp only [oB, oD, oG, oI, oJ, oK, oL, oM, oN]
  have hv := pvL_pure caps hp
  have F := And.intro hp hv
  refine wkF ?_
  refine awFor l.length (fun i (_ : Unit) => idxF p (l.drop i) i = idxF p l 0) (fun i _ => [(8, .p (I i)), (7, .p (I l.length)), (1, .p (.clo f caps)), (0, .p (.sl (l.map I)))]) () (Wk.ofA (by simp)) rfl fun i _ hi hs => ?_
  by_cases hlt : i < l.length
  · rw [drop_cons hlt] at hs
    simp only [idxF] at hs
    have hcx := hc _ (List.getElem_mem hlt)
    cases hpx : p l[i] with
    | true =>
      rw [hpx] at hs hcx
      rw [if_pos rfl] at hs
      have F := And.intro hp hv
      refine wkF ?_
      (refine aEnR (aRes [] fun K hK => ?_); simp (maxSteps := 10000000) (disch := first | omega | simp) [hs]; refine hK _ ?_ (by simp); clear hK; first | done | (simp (maxSteps := 10000000) (disch := first | omega | simp) [hs, *]; done) | (simp (maxSteps := 10000000) (disch := first | omega | simp) [hs, *]; omega) | (simp_all [hs]; done) | (simp_all [hs]; omega))
    | false =>
      rw [hpx] at hs hcx
      rw [if_neg (by simp)] at hs
      have F := And.intro hp hv
      refine wkF ?_
      (refine ⟨?_, (), ?_, Wk.ofA ?_⟩; assumption; rotate_left; focus (simp []; done))
      exact hs
  · rw [drop_nil (by omega)] at hs
    simp only [idxF] at hs
    refine wk ?_
    (refine aEnR (aRes [] fun K hK => ?_); simp (maxSteps := 10000000) (disch := first | omega | simp) [hs]; refine hK _ ?_ (by simp); clear hK; first | done | (simp (maxSteps := 10000000) (disch := first | omega | simp) [hs, *]; done) | (simp (maxSteps := 10000000) (disch := first | omega | simp) [hs, *]; omega) | (simp_all [hs]; done) | (simp_all [hs]; omega))
theorem containsFuncI_ok (l : List Int) (f : FuncId) (caps : List V) (hp : pureL caps = true) (p : Int → Bool) (hc : ∀ x ∈ l, ACall pg f ([I x] ++ caps) (B (p x))) (hl : l.length ≤ 1000000) :
    ACall pg 88 [.sl (l.map I), .clo f caps] (B (l.any p)) := by
  refine s88.call mo (by simp) fun hxs => ?_
  clear hxs
  unfold c88; dsimp only [oC, oG, oK, oM, oZ]
  have hv := pvL_pure caps hp
  have hi := indexFuncI_ok l f caps hp p hc hl
  have e := idxF_any p l 0
  have F := And.intro hp hv
  refine wkF ?_
  (refine aEnR (aRes [] fun K hK => ?_); simp (maxSteps := 10000000) (disch := first | omega | simp) [e]; refine hK _ ?_ (by simp); clear hK; first | done | (simp (maxSteps := 10000000) (disch := first | omega | simp) [e, *]; done) | (simp (maxSteps := 10000000) (disch := first | omega | simp) [e, *]; omega) | (simp_all [e]; done) | (simp_all [e]; omega))
end
end Go.Am
end
section
set_option maxRecDepth 100000
set_option maxHeartbeats 0
namespace Go.Am
open Go
noncomputable section
def c38 : SC := (.seq (.reg [oO 2 47 0,oZ 3 false] [1,2]) (.seq (.reg [oF 4 47 2 2,oL 5 3 4,oL 6 3 1,oB 7 .eql 3 5 6 3,oG 3 7] [3,7]) .ret))
theorem s38 : TextK Proofs.Tryz.prog 0 38 8 [ResultVar.tmp 3] c38 := .mk' Proofs.Tryz.f38 _ (by kernel_rfl) rfl rfl rfl (by kernel_rfl) rfl (by kernel_rfl)
def c36 : SC := (.seq (.reg [oO 2 65 0,oZ 3 false] [1,2]) (.seq (.reg [oF 4 65 2 2,oL 5 63 4,oD 6 (.makeFunc (Fn.func 38) #[] #[.tmp 1]),oC 7 37 #[.tmp 5,.tmp 6] #[63,82],oG 3 7] [3,7]) .ret))
theorem s36 : TextK Proofs.Tryz.prog 0 36 8 [ResultVar.tmp 3] c36 := .mk' Proofs.Tryz.f36 _ (by kernel_rfl) rfl rfl rfl (by kernel_rfl) rfl (by kernel_rfl)
def c19 : SC := (.seq (.reg [oO 2 30 0,oO 3 3 1,oZ 4 false] [2,3]) (.seq (.reg [oF 5 30 2 1,oL 6 26 5,oD 7 (.makeFunc (Fn.func 36) #[] #[.tmp 3]),oC 8 35 #[.tmp 6,.tmp 7] #[26,83],oG 4 8] [4,8]) .ret))
theorem s19 : TextK Proofs.Tryz.prog 0 19 9 [ResultVar.tmp 4] c19 := .mk' Proofs.Tryz.f19 _ (by kernel_rfl) rfl rfl rfl (by kernel_rfl) rfl (by kernel_rfl)
def c93 : SC := (.seq (.reg [oO 2 65 0,oZ 3 false] [1,2]) (.seq (.reg [oF 4 65 2 1,oL 5 9 4,oL 6 9 1,oB 7 .eql 9 5 6 9,oG 3 7] [3,7]) .ret))
theorem s93 : TextK Proofs.Tryz.prog 0 93 8 [ResultVar.tmp 3] c93 := .mk' Proofs.Tryz.f93 _ (by kernel_rfl) rfl rfl rfl (by kernel_rfl) rfl (by kernel_rfl)
def c62 : SC := (.seq (.reg [oO 2 30 0,oO 3 9 1,oA 4 65,oZ 5 false] [2,3,4]) (.seq (.reg [oF 7 30 2 1,oL 8 26 7,oD 9 (.makeFunc (Fn.func 93) #[] #[.tmp 3]),oC 10 78 #[.tmp 8,.tmp 9] #[26,83],oG 6 10] [2,4,6,10]) (.seq (.reg [oM 11 6,oK 12 .lss 3 11 0 3] [2,4,6,10,12]) (.seq (.cond (.tmp 12) (.seq (.reg [oD 13 (.build 65 #[]),oS 65 4 13,oZ 5 false] [4,5]) .ret) .skip) (.seq (.reg [oF 14 30 2 1,oL 15 26 14,oM 16 6,oJ 17 26 15 16,oL 18 65 17,oS 65 4 18,oZ 5 true] [4,5]) .ret)))))
theorem s62 : TextK Proofs.Tryz.prog 0 62 19 [ResultVar.cell 4 65, ResultVar.tmp 5] c62 := .mk' Proofs.Tryz.f62 _ (by kernel_rfl) rfl rfl rfl (by kernel_rfl) rfl (by kernel_rfl)
def c69 : SC := (.seq (.reg [oO 3 30 0,oI 6 0,oZ 7 false] [1,2,3,9,27,28]) (.seq (.reg [oF 10 30 3 3,oL 11 28 10,oN 12 11 28,oD 13 (.move (.const (.int .i64 0)))] [1,2,3,9,10,11,12,13,27,28,29]) (.seq (.block 0 (.seq (.loop (.seq (.reg [oB 14 .lss 3 13 12 3] [1,2,3,9,10,11,12,13,14,27,28,29]) (.seq (.cond (.tmp 14) .skip (.exit 0)) (.seq (.block 1 (.seq (.reg [oJ 15 28 11 13,oL 16 69 15,oA 9 69,oS 69 9 16] [1,2,3,9,10,11,12,13,27,28,29]) (.seq (.reg [oF 17 69 9 0,oL 18 3 17,oM 19 1,oB 20 .eql 3 18 19 3,oM 21 20,oW 21 true (oF 22 69 9 1),oW 21 true (oL 23 3 22),oW 21 true (oM 24 2),oW 21 true (oB 25 .eql 3 23 24 3),oQ 26 21 25 false] [1,2,3,9,10,11,12,13,20,21,25,26,27,28,29]) (.seq (.cond (.tmp 26) (.seq (.reg [oF 27 69 9 2,oL 28 3 27,oG 6 28,oZ 7 true] [6,7,9,27,28]) .ret) .skip) .skip)))) (.seq (.reg [oK 29 .add 3 13 1 3,oM 13 29] [1,2,3,9,10,11,12,13,27,28,29]) .skip))))) .skip)) (.seq (.reg [oI 6 0,oZ 7 false] [6,7,9,27,28]) .ret))))
theorem s69 : TextK Proofs.Tryz.prog 0 69 30 [ResultVar.tmp 6, ResultVar.tmp 7] c69 := .mk' Proofs.Tryz.f69 _ (by kernel_rfl) rfl rfl rfl (by kernel_rfl) rfl (by kernel_rfl)
def c18 : SC := (.seq (.reg [oO 2 30 0,oZ 4 false] [1,2]) (.seq (.reg [oL 8 30 2,oM 9 1,oC 10 16 #[.tmp 8,.tmp 9] #[30,3],oM 7 10,oX 11 7 0,oX 12 7 1,oA 5 51,oS 51 5 11,oG 6 12] [5,6,7,10,12]) (.seq (.reg [oM 13 6,oM 14 13,oW 14 true (oF 15 51 5 3),oW 14 true (oL 16 4 15),oW 14 true (oD 17 (.unOp .not 4 (.tmp 16))),oQ 18 14 17 false,oG 4 18] [4,6,7,10,12,13,14,17,18]) .ret)))
theorem s18 : TextK Proofs.Tryz.prog 0 18 19 [ResultVar.tmp 4] c18 := .mk' Proofs.Tryz.f18 _ (by kernel_rfl) rfl rfl rfl (by kernel_rfl) rfl (by kernel_rfl)
def c106 : SC := (.seq (.reg [oZ 3 false] [0,1]) (.seq (.reg [oL 4 35 1,oM 5 0,oC 6 56 #[.tmp 4,.tmp 5] #[35,3],oD 7 (.unOp .not 4 (.tmp 6)),oG 3 7] [3,7]) .ret))
theorem s106 : TextK Proofs.Tryz.prog 0 106 8 [ResultVar.tmp 3] c106 := .mk' Proofs.Tryz.f106 _ (by kernel_rfl) rfl rfl rfl (by kernel_rfl) rfl (by kernel_rfl)
def c90 : SC := (.seq (.reg [oO 3 35 1,oZ 4 false] [0,3]) (.seq (.reg [oM 5 0,oD 6 (.makeFunc (Fn.func 106) #[] #[.tmp 3]),oC 7 88 #[.tmp 5,.tmp 6] #[35,86],oD 8 (.unOp .not 4 (.tmp 7)),oG 4 8] [4,8]) .ret))
theorem s90 : TextK Proofs.Tryz.prog 0 90 9 [ResultVar.tmp 4] c90 := .mk' Proofs.Tryz.f90 _ (by kernel_rfl) rfl rfl rfl (by kernel_rfl) rfl (by kernel_rfl)
def c107 : SC := (.seq (.reg [oZ 3 false] [0,1]) (.seq (.reg [oL 4 35 1,oM 5 0,oC 6 56 #[.tmp 4,.tmp 5] #[35,3],oG 3 6] [3,6]) .ret))
theorem s107 : TextK Proofs.Tryz.prog 0 107 7 [ResultVar.tmp 3] c107 := .mk' Proofs.Tryz.f107 _ (by kernel_rfl) rfl rfl rfl (by kernel_rfl) rfl (by kernel_rfl)
def c91 : SC := (.seq (.reg [oO 3 35 1,oZ 4 false] [0,3]) (.seq (.reg [oM 5 0,oD 6 (.makeFunc (Fn.func 107) #[] #[.tmp 3]),oC 7 88 #[.tmp 5,.tmp 6] #[35,86],oD 8 (.unOp .not 4 (.tmp 7)),oG 4 8] [4,8]) .ret))
theorem s91 : TextK Proofs.Tryz.prog 0 91 9 [ResultVar.tmp 4] c91 := .mk' Proofs.Tryz.f91 _ (by kernel_rfl) rfl rfl rfl (by kernel_rfl) rfl (by kernel_rfl)
def c87 : SC := (.seq (.reg [oZ 3 false] [0,1]) (.seq (.reg [oL 7 30 1,oM 8 0,oC 9 33 #[.tmp 7,.tmp 8] #[30,3],oM 6 9,oX 10 6 0,oX 11 6 1,oG 4 10,oG 5 11] [5,6,9,11]) (.seq (.reg [oM 12 5,oG 3 12] [3,5,6,9,11,12]) .ret)))
theorem s87 : TextK Proofs.Tryz.prog 0 87 13 [ResultVar.tmp 3] c87 := .mk' Proofs.Tryz.f87 _ (by kernel_rfl) rfl rfl rfl (by kernel_rfl) rfl (by kernel_rfl)
def c89 : SC := (.seq (.reg [oZ 3 false] [0,1]) (.seq (.reg [oL 4 86 1,oM 5 0,oD 6 (.call { callee := .value (.tmp 4),args := #[.tmp 5],argTypes := #[3] }),oD 7 (.unOp .not 4 (.tmp 6)),oG 3 7] [3,7]) .ret))
theorem s89 : TextK Proofs.Tryz.prog 0 89 8 [ResultVar.tmp 3] c89 := .mk' Proofs.Tryz.f89 _ (by kernel_rfl) rfl rfl rfl (by kernel_rfl) rfl (by kernel_rfl)
theorem leads1_ok (p : Part) (id : Int) : ACall pg 38 ([encP p] ++ [.ip [I id] 0]) (B (p.leader == id)) := by
  refine s38.call mo (by simp) fun hxs => ?_
  clear hxs
  unfold c38; dsimp only [oB, oF, oG, oL, oO, oZ]
  refine wk ?_
  exact fn0
theorem leads2_ok (t : Topic) (id : Int) (hl : t.parts.length ≤ 1000000) : ACall pg 36 ([encT t] ++ [.ip [I id] 0]) (B (t.any fun p => p.leader == id)) := by
  refine s36.call mo (by simp) fun hxs => ?_
  clear hxs
  unfold c36; dsimp only [oC, oD, oF, oG, oL, oO, oZ]
  have h := containsFuncP_ok t.parts 38 [.ip [I id] 0] (by simp [pureL, pureB]) (fun p => p.leader == id) (fun x _ => leads1_ok x id) hl
  refine wk ?_
  (refine aEnR (aRes [] fun K hK => ?_); simp (maxSteps := 10000000) (disch := first | omega | simp) [Topic.any]; refine hK _ ?_ (by simp); clear hK; first | done | (simp (maxSteps := 10000000) (disch := first | omega | simp) [Topic.any, *]; done) | (simp (maxSteps := 10000000) (disch := first | omega | simp) [Topic.any, *]; omega) | (simp_all [Topic.any]; done) | (simp_all [Topic.any]; omega))
theorem iLeads_ok (m : Image) (id : Int) (hl : m.topics.length ≤ 1000000) (hp : ∀ t ∈ m.topics, t.parts.length ≤ 1000000) : ACall pg 19 [encM m, I id] (B (m.any fun p => p.leader == id)) := by
  refine s19.call mo (by simp) fun hxs => ?_
  clear hxs
  unfold c19; dsimp only [oC, oD, oF, oG, oL, oO, oZ]
  have h := containsFuncT_ok m.topics 36 [.ip [I id] 0] (by simp [pureL, pureB]) (fun t => t.any fun p => p.leader == id) (fun x hx => leads2_ok x id (hp x hx)) hl
  refine wk ?_
  (refine aEnR (aRes [] fun K hK => ?_); simp (maxSteps := 10000000) (disch := first | omega | simp) [Image.any]; refine hK _ ?_ (by simp); clear hK; first | done | (simp (maxSteps := 10000000) (disch := first | omega | simp) [Image.any, *]; done) | (simp (maxSteps := 10000000) (disch := first | omega | simp) [Image.any, *]; omega) | (simp_all [Image.any]; done) | (simp_all [Image.any]; omega))
theorem named1_ok (t : Topic) (s : ByteArray) : ACall pg 93 ([encT t] ++ [.ip [St s] 0]) (B (t.name.toList == s.toList)) := by
  refine s93.call mo (by simp) fun hxs => ?_
  clear hxs
  unfold c93; dsimp only [oB, oF, oG, oL, oO, oZ]
  refine wk ?_
  exact fn0
theorem iNamed_ok (m : Image) (s : ByteArray) (hl : m.topics.length ≤ 1000000) : ACall pg 62 [encM m, St s] (.tup [encT ((m.named s).getD zT), B (m.named s).isSome]) := by
  refine s62.call mo (by simp) fun hxs => ?_
  clear hxs
  unfold c62; dsimp only [oA, oC, oD, oF, oG, oJ, oK, oL, oM, oO, oS, oZ]
  have h := indexFuncT_ok m.topics 93 [.ip [St s] 0] (by simp [pureL, pureB]) (fun t => t.name.toList == s.toList) (fun x _ => named1_ok x s) hl
  cases hm : m.named s with
  | none =>
    have e : idxF (fun t : Topic => t.name.toList == s.toList) m.topics 0 < 0 := by
      have := idxF_any (fun t : Topic => t.name.toList == s.toList) m.topics 0
      unfold Image.named at hm
      rw [List.find?_eq_none] at hm
      have h2 : m.topics.any (fun t => t.name.toList == s.toList) = false := by rw [List.any_eq_false]; intro x hx; exact hm x hx
      rw [h2] at this
      simp at this; omega
    have F := e
    refine wkF ?_
    (refine aEnR (aRes [] fun K hK => ?_); simp (maxSteps := 10000000) (disch := first | omega | simp) [zT]; refine hK _ ?_ (by simp); clear hK; first | done | (simp (maxSteps := 10000000) (disch := first | omega | simp) [zT, *]; done) | (simp (maxSteps := 10000000) (disch := first | omega | simp) [zT, *]; omega) | (simp_all [zT]; done) | (simp_all [zT]; omega))
  | some t =>
    obtain ⟨j, e1, e2⟩ := idxF_some _ m.topics 0 t hm
    rw [Nat.zero_add] at e1
    rw [e1] at h
    obtain ⟨hj, e3⟩ := List.getElem?_eq_some_iff.1 e2
    have e4 : ¬ ((j : Int) < 0) := by omega
    have F := And.intro e4 (And.intro hj e3)
    refine wkF ?_
    exact fn0
theorem iAlive_ok (m : Image) (n : Int) (hs : srtB m.brokers) (hb : ∀ b ∈ m.brokers, 1 ≤ b.id ∧ b.id ≤ 64) (hl : m.brokers.length ≤ 1000000) (hn : big62 n) : ACall pg 18 [encM m, I n] (B (m.alive n)) := by
  refine s18.call mo (by simp) fun hxs => ?_
  clear hxs
  unfold c18; dsimp only [oA, oC, oD, oF, oG, oL, oM, oO, oQ, oS, oW, oX, oZ]
  have h := iBroker_ok m n hs hb hl hn
  have e : m.alive n = ((m.broker n).isSome && !((m.broker n).getD zB).fenced) := by unfold Image.alive; cases m.broker n <;> simp
  cases hm : (m.broker n).isSome with
  | true =>
    rw [hm] at h e
    have F := hm
    refine wkF ?_
    (refine aEnR (aRes [] fun K hK => ?_); simp (maxSteps := 10000000) (disch := first | omega | simp) [e]; refine hK _ ?_ (by simp); clear hK; first | done | (simp (maxSteps := 10000000) (disch := first | omega | simp) [e, *]; done) | (simp (maxSteps := 10000000) (disch := first | omega | simp) [e, *]; omega) | (simp_all [e]; done) | (simp_all [e]; omega))
  | false =>
    rw [hm] at h e
    have F := hm
    refine wkF ?_
    (refine aEnR (aRes [] fun K hK => ?_); simp (maxSteps := 10000000) (disch := first | omega | simp) [e]; refine hK _ ?_ (by simp); clear hK; first | done | (simp (maxSteps := 10000000) (disch := first | omega | simp) [e, *]; done) | (simp (maxSteps := 10000000) (disch := first | omega | simp) [e, *]; omega) | (simp_all [e]; done) | (simp_all [e]; omega))
theorem within1_ok (of : List Int) (n : Int) (hl : of.length ≤ 1000000) : ACall pg 106 ([I n] ++ [.ip [Li of] 0]) (B (!of.contains n)) := by
  refine s106.call mo (by simp) fun hxs => ?_
  clear hxs
  unfold c106; dsimp only [oC, oD, oG, oL, oM, oZ]
  have h := contains_ok of n hl
  refine wk ?_
  exact fn0
theorem within_ok (l of : List Int) (hl : l.length ≤ 1000000) (hf : of.length ≤ 1000000) : ACall pg 90 [Li l, Li of] (B (!(l.any fun n => !of.contains n))) := by
  refine s90.call mo (by simp) fun hxs => ?_
  clear hxs
  unfold c90; dsimp only [oC, oD, oG, oM, oO, oZ]
  have h := containsFuncI_ok l 106 [.ip [Li of] 0] (by simp [pureL, pureB]) (fun n => !of.contains n) (fun x _ => within1_ok of x hf) hl
  refine wk ?_
  exact fn0
theorem apart1_ok (of : List Int) (n : Int) (hl : of.length ≤ 1000000) : ACall pg 107 ([I n] ++ [.ip [Li of] 0]) (B (of.contains n)) := by
  refine s107.call mo (by simp) fun hxs => ?_
  clear hxs
  unfold c107; dsimp only [oC, oG, oL, oM, oZ]
  have h := contains_ok of n hl
  refine wk ?_
  exact fn0
theorem apart_ok (l of : List Int) (hl : l.length ≤ 1000000) (hf : of.length ≤ 1000000) : ACall pg 91 [Li l, Li of] (B (!(l.any fun n => of.contains n))) := by
  refine s91.call mo (by simp) fun hxs => ?_
  clear hxs
  unfold c91; dsimp only [oC, oD, oG, oM, oO, oZ]
  have h := containsFuncI_ok l 107 [.ip [Li of] 0] (by simp [pureL, pureB]) (fun n => of.contains n) (fun x _ => apart1_ok of x hf) hl
  refine wk ?_
  exact fn0
abbrev thereV (m : Image) : V := .clo 87 [.ip (encM m).cells 0]
theorem there_ok (m : Image) (n : Int) (hs : srtB m.brokers) (hb : ∀ b ∈ m.brokers, 1 ≤ b.id ∧ b.id ≤ 64) (hl : m.brokers.length ≤ 1000000) (hn : big62 n) : ACall pg 87 ([I n] ++ [.ip (encM m).cells 0]) (B (m.broker n).isSome) := by
  refine s87.call mo (by simp) fun hxs => ?_
  clear hxs
  unfold c87; dsimp only [oC, oG, oL, oM, oX, oZ]
  have h := ibroker_ok m n hs hb hl hn
  refine wk ?_
  exact fn0
theorem nothere_ok (m : Image) (n : Int) (hs : srtB m.brokers) (hb : ∀ b ∈ m.brokers, 1 ≤ b.id ∧ b.id ≤ 64) (hl : m.brokers.length ≤ 1000000) (hn : big62 n) : ACall pg 89 ([I n] ++ [.ip [thereV m] 0]) (B (!(m.broker n).isSome)) := by
  refine s89.call mo (by simp) fun hxs => ?_
  clear hxs
  unfold c89; dsimp only [oD, oG, oL, oM, oZ]
  have h := there_ok m n hs hb hl hn
  refine wk ?_
  exact fn0
end
end Go.Am
end
