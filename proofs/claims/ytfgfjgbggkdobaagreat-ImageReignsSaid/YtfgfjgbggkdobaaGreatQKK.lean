/- Part of the proof of a law of the image. -/
import Derived.Test.YtfgfjgbggkdobaaGreatQEC
import Derived.Test.YtfgfjgbggkdobaaGreatQJF
import Derived.Test.YtfgfjgbggkdobaaGreatQPU
import Derived.Test.YtfgfjgbggkdobaaGreatQW0
set_option linter.all false
section
namespace Go.Am
open Go
structure Reign where
  topic : Int
  part : Int
  epoch : Int
  leader : Int
  deriving DecidableEq
def KInv (all : List Reign) (m : Image) : Prop := ∀ y ∈ all, y.topic ≤ m.last ∧ ∀ t ∈ m.topics, t.id = y.topic → ∃ (k : Nat) (p : Part), y.part = k ∧ t.parts[k]? = some p ∧ y.epoch ≤ p.epoch ∧ (y.epoch = p.epoch → y.leader = p.leader)
theorem KInv.nil (m : Image) : KInv [] m := fun y h => by cases h
theorem KInv.same {all : List Reign} {m m' : Image} (h : KInv all m) (ht : m'.topics = m.topics) (hl : m'.last = m.last) : KInv all m' := fun y hy => by
  rw [ht, hl]; exact h y hy
theorem setAt_get {l : List Part} {n k : Nat} {x p : Part} (hn : n ≤ l.length) (h : l[k]? = some p) : (setAt l n x)[k]? = if k = n then some x else some p := by
  have hk : k < l.length := by
    rcases Nat.lt_or_ge k l.length with h' | h'
    · exact h'
    · simp [List.getElem?_eq_none h'] at h
  simp only [setAt]
  by_cases h1 : k < n
  · rw [List.getElem?_append_left (by simp; omega), List.getElem?_take_of_lt h1, if_neg (by omega), h]
  · rw [List.getElem?_append_right (by simp; omega)]
    simp only [List.length_take]
    by_cases h2 : k = n
    · rw [if_pos h2]
      rw [show k - min n l.length = 0 by omega]; rfl
    · rw [if_neg h2, show k - min n l.length = (k - n - 1) + 1 by omega]
      simp only [List.getElem?_cons_succ, List.getElem?_drop]
      rw [show n + 1 + (k - n - 1) = k by omega, h]
theorem KInv.putPart {all : List Reign} {m : Image} (h : KInv all m) (id : Int) (n : Nat) (q : Part)
    (hq : ∀ t ∈ m.topics, t.id = id → n ≤ t.parts.length ∧ ∀ p, t.parts[n]? = some p → p.epoch ≤ q.epoch ∧ (p.epoch = q.epoch → p.leader = q.leader)) : KInv all (m.putPart id n q) := by
  intro y hy
  obtain ⟨h1, h2⟩ := h y hy
  refine ⟨h1, fun t ht hid => ?_⟩
  simp only [Image.putPart, List.mem_map] at ht
  obtain ⟨u, hu, rfl⟩ := ht
  by_cases hc : u.id = id
  · simp only [if_pos hc] at hid ⊢
    obtain ⟨k, p, e1, e2, e3, e4⟩ := h2 u hu hid
    obtain ⟨q1, q2⟩ := hq u hu hc
    have hg := setAt_get (x := q) q1 e2
    by_cases hk : k = n
    · rw [if_pos hk] at hg
      obtain ⟨q3, q4⟩ := q2 p (hk ▸ e2)
      exact ⟨k, q, e1, hg, by omega, fun e => by
        have := e4 (by omega)
        rw [this]; exact q4 (by omega)⟩
    · rw [if_neg hk] at hg
      exact ⟨k, p, e1, hg, e3, e4⟩
  · simp only [if_neg hc] at hid ⊢
    exact h2 u hu hid
theorem KInv.apply {all : List Reign} {m : Image} {n : Nat} (h : KInv all m) (hi : m.Inv n) (hn : n ≤ 1000000) (r : Record) : KInv all (m.apply r).1 := by
  unfold Image.apply
  split
  · exact h
  rename_i hc
  split
  · unfold Image.register; (repeat' split) <;> exact h
  split
  · unfold Image.brokerRec; (repeat' split) <;> exact h
  split
  · rename_i hk
    unfold Image.partRec
    cases ht : m.topic r.topic with
    | none => exact h
    | some t =>
      have htm : t ∈ m.topics := List.mem_of_find?_eq_some ht
      have hti : t.id = r.topic := by simpa using List.find?_some ht
      have huni : ∀ u ∈ m.topics, u.id = r.topic → u = t := fun u hu hid => by
        obtain ⟨i, hi1, e1⟩ := List.getElem_of_mem hu
        obtain ⟨j, hj1, e2⟩ := List.getElem_of_mem htm
        have hp := List.pairwise_iff_getElem.1 hi.ti
        rcases Nat.lt_trichotomy i j with hlt | heq | hlt
        · have := hp i j hi1 hj1 hlt; rw [e1, e2] at this; omega
        · subst heq; rw [← e1, ← e2]
        · have := hp j i hj1 hi1 hlt; rw [e1, e2] at this; omega
      simp only
      split
      · exact h
      split
      · split
        · exact h
        · rename_i hp8
          refine h.putPart _ _ _ fun u hu hid => ?_
          have e := huni u hu hid
          subst e
          have hp8 : r.part = u.parts.length := by simpa using hp8
          refine ⟨by omega, fun p hp => ?_⟩
          rw [List.getElem?_eq_none (by omega)] at hp; cases hp
      split
      · exact h
      rename_i hlt
      split
      · exact h
      rename_i hep
      split
      · exact h
      refine h.putPart _ _ _ fun u hu hid => ?_
      have e := huni u hu hid
      subst e
      have hlen : r.part.toNat < u.parts.length ∨ r.part < 0 := by omega
      refine ⟨by rcases hlen with h | h <;> omega, fun p hp => ?_⟩
      rw [hp] at hep
      simp only [Option.getD_some] at hep
      show p.epoch ≤ r.epoch ∧ (p.epoch = r.epoch → p.leader = r.leader)
      refine ⟨by omega, fun e => ?_⟩
      by_cases hl : r.leader = p.leader
      · exact hl.symm
      · exact absurd (.inr (.inr ⟨e.symm, hl⟩)) hep
  split
  · unfold Image.addTopic
    split
    · exact h
    rename_i hw
    split
    · exact h
    split
    · exact h
    have hla := hi.la
    have hw : r.topic = m.last + 1 := by
      have : r.topic = IntKind.i64.wrap (m.last + 1) := by simpa using hw
      rw [this, i64_wrap (by omega)]
    intro y hy
    obtain ⟨h1, h2⟩ := h y hy
    refine ⟨by simp only; omega, fun t ht hid => ?_⟩
    simp only [List.mem_append, List.mem_singleton] at ht
    rcases ht with ht | rfl
    · exact h2 t ht hid
    · simp only at hid; omega
  split
  · unfold Image.dropRec
    split
    · exact h
    · intro y hy
      obtain ⟨h1, h2⟩ := h y hy
      exact ⟨h1, fun t ht hid => h2 t (List.mem_filter.1 ht).1 hid⟩
  split
  · unfold Image.configRec
    (repeat' split) <;> first | exact h | exact h.same rfl rfl
  split
  · unfold Image.doneRec
    (repeat' split) <;> first | exact h | exact h.same rfl rfl
  · exact h
def addR (out : List Reign) (x : Reign) : List Reign := if out.contains x then out else out ++ [x]
def partsR (id : Int) : Nat → List Part → List Reign → List Reign
  | _, [], out => out
  | k, p :: ps, out => partsR id (k + 1) ps (addR out ⟨id, k, p.epoch, p.leader⟩)
def topsR : List Topic → List Reign → List Reign
  | [], out => out
  | t :: ts, out => topsR ts (partsR t.id 0 t.parts out)
theorem addR_len (out : List Reign) (x : Reign) : (addR out x).length ≤ out.length + 1 := by unfold addR; split <;> simp
theorem KInv.add {out : List Reign} {m : Image} {n : Nat} (h : KInv out m) (hi : m.Inv n) {t : Topic} (ht : t ∈ m.topics) {k : Nat} {p : Part} (hp : t.parts[k]? = some p) : KInv (addR out ⟨t.id, k, p.epoch, p.leader⟩) m := by
  unfold addR
  split
  · exact h
  intro y hy
  rcases List.mem_append.1 hy with hy | hy
  · exact h y hy
  · rw [List.mem_singleton] at hy
    subst hy
    refine ⟨(hi.tr t ht).2, fun u hu hid => ?_⟩
    have e : u = t := by
      obtain ⟨i, hi1, e1⟩ := List.getElem_of_mem hu
      obtain ⟨j, hj1, e2⟩ := List.getElem_of_mem ht
      have hp := List.pairwise_iff_getElem.1 hi.ti
      simp only at hid
      rcases Nat.lt_trichotomy i j with hlt | heq | hlt
      · have := hp i j hi1 hj1 hlt; rw [e1, e2] at this; omega
      · subst heq; rw [← e1, ← e2]
      · have := hp j i hj1 hi1 hlt; rw [e1, e2] at this; omega
    subst e
    exact ⟨k, p, rfl, hp, Int.le_refl _, fun _ => rfl⟩
theorem KInv.at {out : List Reign} {m : Image} {n : Nat} (h : KInv out m) {t : Topic} (ht : t ∈ m.topics) {k : Nat} {p : Part} (hp : t.parts[k]? = some p) {y : Reign} (hy : y ∈ out) (h1 : y.topic = t.id) (h2 : y.part = k) :
    y.epoch ≤ p.epoch ∧ (y.epoch = p.epoch → y.leader = p.leader) := by
  obtain ⟨_, h3⟩ := h y hy
  obtain ⟨k', p', e1, e2, e3, e4⟩ := h3 t ht h1.symm
  have : k' = k := by omega
  subst this
  rw [hp] at e2; cases e2
  exact ⟨e3, e4⟩
end Go.Am
end
section
set_option maxRecDepth 100000
set_option maxHeartbeats 0
namespace Go.Am
open Go
noncomputable section
def c10 : SC := (.seq (.reg [oO 3 30 1,oD 4 (.assign (.const (.slice none 0 0))),oZ 5 false] [0,3,6,14,95,107,108]) (.seq (.reg [oM 14 0,oG 6 14] [0,3,6,14,95,107,108]) (.seq (.reg [oI 7 0] [0,3,6,7,14,21,95,107,108]) (.seq (.block 0 (.seq (.loop (.seq (.reg [oM 15 7,oF 16 30 3 1,oL 17 26 16,oN 18 17 26,oB 19 .lss 3 15 18 3] [0,3,6,7,14,19,21,95,107,108]) (.seq (.cond (.tmp 19) .skip (.exit 0)) (.seq (.block 1 (.seq (.reg [oI 8 0] [0,3,6,7,8,14,21,32,95,107,108]) (.seq (.block 2 (.seq (.loop (.seq (.reg [oM 22 8,oF 23 30 3 1,oL 24 26 23,oM 25 7,oJ 26 26 24 25,oF 27 65 26 2,oL 28 63 27,oN 29 28 63,oB 30 .lss 3 22 29 3] [0,3,6,7,8,14,21,30,32,95,107,108]) (.seq (.cond (.tmp 30) .skip (.exit 2)) (.seq (.block 3 (.seq (.reg [oF 33 30 3 1,oL 34 26 33,oM 35 7,oJ 36 26 34 35,oF 37 65 36 2,oL 38 63 37,oM 39 8,oJ 40 63 38 39,oL 41 47 40,oA 9 47,oS 47 9 41] [0,3,6,7,8,9,14,21,32,95,107,108]) (.seq (.reg [oU (oF 42 30 3 1) [44,48,49,50,51,52,10],oU (oL 43 26 42) [44,48,49,50,51,52,10],oU (oM 44 7) [42,43,48,49,50,51,52,10],oU (oJ 45 26 43 44) [48,49,50,51,52,10],oU (oF 46 65 45 0) [48,49,50,51,52,10],oU (oL 47 3 46) [48,49,50,51,52,10],oU (oM 48 8) [42,43,44,45,46,47,49,50,51,52,10],oU (oF 49 47 9 3) [42,43,44,45,46,47,48,51,52,10],oU (oL 50 3 49) [42,43,44,45,46,47,48,51,52,10],oU (oF 51 47 9 2) [42,43,44,45,46,47,48,49,50,10],oU (oL 52 3 51) [42,43,44,45,46,47,48,49,50,10],oU (oD 53 (.build 73 #[(0,.tmp 47),(1,.tmp 48),(2,.tmp 50),(3,.tmp 52)])) [10],oU (oA 10 73) [42,43,44,45,46,47,48,49,50,51,52,53],oS 73 10 53] [0,3,6,7,8,10,14,21,32,95,107,108]) (.seq (.reg [oZ 11 false] [0,3,6,7,8,10,11,14,21,32,95,96,97,100,101,107,108]) (.seq (.reg [oI 12 0] [0,3,6,7,8,10,11,12,14,21,32,59,95,96,97,100,101,107,108]) (.seq (.block 4 (.seq (.loop (.seq (.reg [oM 54 12,oM 55 6,oN 56 55 40,oB 57 .lss 3 54 56 3] [0,3,6,7,8,10,11,12,14,21,32,57,59,95,96,97,100,101,107,108]) (.seq (.cond (.tmp 57) .skip (.exit 4)) (.seq (.block 5 (.seq (.reg [oM 60 6,oM 61 12,oJ 62 40 60 61,oL 63 73 62,oA 13 73,oS 73 13 63] [0,3,6,7,8,10,11,12,13,14,21,32,59,95,96,97,100,101,107,108]) (.seq (.reg [oF 64 73 13 0,oL 65 3 64,oF 66 73 10 0,oL 67 3 66,oB 68 .neq 3 65 67 3,oM 69 68,oW 69 false (oF 70 73 13 1),oW 69 false (oL 71 3 70),oW 69 false (oF 72 73 10 1),oW 69 false (oL 73 3 72),oW 69 false (oB 74 .neq 3 71 73 3),oR 75 69 true 74] [0,3,6,7,8,10,11,12,13,14,21,32,59,68,69,74,75,95,96,97,100,101,107,108]) (.seq (.cond (.tmp 75) (.exit 5) .skip) (.seq (.reg [oF 76 73 13 2,oL 77 3 76,oF 78 73 10 2,oL 79 3 78,oB 80 .gtr 3 77 79 3,oM 81 80,oW 81 false (oF 82 73 13 2),oW 81 false (oL 83 3 82),oW 81 false (oF 84 73 10 2),oW 81 false (oL 85 3 84),oW 81 false (oB 86 .eql 3 83 85 3),oW 81 false (oM 87 86),oW 87 true (oF 88 73 13 3),oW 87 true (oL 89 3 88),oW 87 true (oF 90 73 10 3),oW 87 true (oL 91 3 90),oW 87 true (oB 92 .neq 3 89 91 3),oW 81 false (oQ 93 87 92 false),oR 94 81 true 93] [0,3,6,7,8,10,11,12,13,14,21,32,59,80,81,86,87,92,93,94,95,96,97,100,101,107,108]) (.seq (.cond (.tmp 94) (.seq (.reg [oM 95 6,oG 4 95,oZ 5 false] [0,4,5,6,14,95,107,108]) .ret) .skip) (.seq (.reg [oM 96 11,oM 97 96,oW 97 false (oL 98 73 13),oW 97 false (oL 99 73 10),oW 97 false (oB 100 .eql 73 98 99 73),oR 101 97 true 100,oG 11 101] [0,3,6,7,8,10,11,12,14,21,32,59,95,96,97,100,101,107,108]) .skip))))))) (.seq (.reg [oM 58 12,oK 59 .add 3 58 1 3,oG 12 59] [0,3,6,7,8,10,11,12,14,21,32,59,95,96,97,100,101,107,108]) .skip))))) .skip)) (.seq (.reg [oM 102 11,oD 103 (.unOp .not 4 (.tmp 102))] [0,3,6,7,8,10,14,21,32,95,103,107,108]) (.seq (.cond (.tmp 103) (.seq (.reg [oM 104 6,oL 105 73 10,oD 106 (.buildSlice 40 1 #[(0,.tmp 105)]),oP 107 #[.tmp 104,.tmp 106] #[40,40],oG 6 107] [0,3,6,7,8,14,21,32,95,107,108]) .skip) .skip) .skip)))))))) (.seq (.reg [oM 31 8,oK 32 .add 3 31 1 3,oG 8 32] [0,3,6,7,8,14,21,32,95,107,108]) .skip))))) .skip)) .skip))) (.seq (.reg [oM 20 7,oK 21 .add 3 20 1 3,oG 7 21] [0,3,6,7,14,21,95,107,108]) .skip))))) .skip)) (.seq (.reg [oM 108 6,oG 4 108,oZ 5 true] [0,4,5,6,14,95,107,108]) .ret)))))
theorem s10 : TextK Proofs.Tryz.prog 1 10 109 [ResultVar.tmp 4, ResultVar.tmp 5] c10 := .mk' Proofs.Tryz.f10 _ (by kernel_rfl) rfl rfl rfl (by kernel_rfl) rfl (by kernel_rfl)
def encRg (y : Reign) : V := .agg [I y.topic, I y.part, I y.epoch, I y.leader]
@[simp] theorem encRg_eq (y : Reign) : encRg y = .agg [I y.topic, I y.part, I y.epoch, I y.leader] := rfl
@[simp] theorem pvL_Rg (l : List Reign) : pvL (l.map encRg) = l.map encRg := by rw [pvL_eq, List.map_map]; exact List.map_congr_left fun p _ => by simp [pv, pvL]
def metB (l : List Reign) (j : Nat) (x : Reign) : Bool := (l.take j).contains x
@[simp] theorem metB_zero (l : List Reign) (x : Reign) : metB l 0 x = false := rfl
theorem metB_next {l : List Reign} {j : Nat} (h : j < l.length) (x : Reign) : metB l (j + 1) x = (metB l j x || decide (l[j] = x)) := by
  simp only [metB]
  rw [List.take_add_one, List.getElem?_eq_getElem h]
  simp only [Option.toList_some, List.contains_eq_mem, List.mem_append, List.mem_singleton, Bool.decide_or]
  congr 1
  simp only [eq_comm]
theorem metB_all (l : List Reign) (x : Reign) : metB l l.length x = l.contains x := by rw [metB, List.take_length]
theorem partsR_at (id : Int) {l : List Part} {k : Nat} (h : k < l.length) (s : List Reign) : partsR id k (l.drop k) s = partsR id (k + 1) (l.drop (k + 1)) (addR s ⟨id, k, l[k].epoch, l[k].leader⟩) := by rw [List.drop_eq_getElem_cons h]; rfl
theorem topsR_at {l : List Topic} {k : Nat} (h : k < l.length) (s : List Reign) : topsR (l.drop k) s = topsR (l.drop (k + 1)) (partsR l[k].id 0 l[k].parts s) := by rw [List.drop_eq_getElem_cons h]; rfl
theorem reigns_ok (m : Image) (n : Nat) (h : m.Inv n) (hn : n ≤ 1000) (out : List Reign) (hk : KInv out m) (ho : out.length ≤ 1000000000) :
    ACallM pg 10 [.uq (out.map encRg)] [encM m] (.tup [.uq ((topsR m.topics out).map encRg), B true]) [.any] := by
  refine s10.callM (os := [.uq (out.map encRg)]) mo (by simp) fun hoo hx => ?_
  clear hoo hx
  have htl := h.tl
  unfold c10; dsimp only [oA, oB, oD, oF, oG, oI, oJ, oK, oL, oM, oN, oO, oP, oQ, oR, oS, oU, oW, oZ]
  refine wk ?_
  refine awFor m.topics.length (fun i (s : List Reign) => KInv s m ∧ s.length ≤ out.length + i * 1000 ∧ topsR (m.topics.drop i) s = topsR m.topics out) (fun i s => [(7, .p (I i)), (6, .p (.uq (s.map encRg))), (3, .p (.own (encM m).cells))]) out (Wk.ofA (by simp)) ⟨hk, by omega, rfl⟩ fun i s hi hs => ?_
  obtain ⟨hks, hsl, hse⟩ := hs
  by_cases hlt : i < m.topics.length
  · have htm := List.getElem_mem hlt
    have hpl := h.pl _ htm
    have F := hlt
    refine wkF ?_
    refine awFor m.topics[i].parts.length (fun k (s2 : List Reign) => KInv s2 m ∧ s2.length ≤ s.length + k ∧ partsR m.topics[i].id k (m.topics[i].parts.drop k) s2 = partsR m.topics[i].id 0 m.topics[i].parts s) (fun k s2 => [(8, .p (I k)), (7, .p (I i)), (6, .p (.uq (s2.map encRg))), (3, .p (.own (encM m).cells))]) s (Wk.ofA (by simp)) ⟨hks, by omega, rfl⟩ fun k s2 hkk hs2 => ?_
    obtain ⟨hk2, hl2, he2⟩ := hs2
    by_cases hkt : k < m.topics[i].parts.length
    · have hpk : m.topics[i].parts[k]? = some m.topics[i].parts[k] := List.getElem?_eq_getElem hkt
      have hadd := hk2.add h htm hpk
      have hal := addR_len s2 ⟨m.topics[i].id, k, m.topics[i].parts[k].epoch, m.topics[i].parts[k].leader⟩
      have F := And.intro hlt hkt
      refine wkF ?_
      refine awFor s2.length (fun j (_ : Unit) => True) (fun j _ => [(12, .p (I j)), (11, .p (B (metB s2 j ⟨m.topics[i].id, k, m.topics[i].parts[k].epoch, m.topics[i].parts[k].leader⟩))), (10, .p (.own [I m.topics[i].id, I k, I m.topics[i].parts[k].epoch, I m.topics[i].parts[k].leader])), (8, .p (I k)), (7, .p (I i)), (6, .p (.uq (s2.map encRg))), (3, .p (.own (encM m).cells))]) () (Wk.ofA (by simp)) trivial fun j _ hj _ => ?_
      by_cases hjt : j < s2.length
      · have hat := fun h1 h2 => hk2.at (n := n) htm hpk (List.getElem_mem hjt) h1 h2
        have htk := metB_next hjt ⟨m.topics[i].id, k, m.topics[i].parts[k].epoch, m.topics[i].parts[k].leader⟩
        generalize metB s2 j ⟨m.topics[i].id, k, m.topics[i].parts[k].epoch, m.topics[i].parts[k].leader⟩ = met at *
        by_cases h1 : s2[j].topic = m.topics[i].id
        · by_cases h2 : s2[j].part = k
          · obtain ⟨h3, h4⟩ := hat h1 h2
            clear hat
            have h3' : ¬ m.topics[i].parts[k].epoch < s2[j].epoch := by omega
            by_cases h5 : s2[j].epoch = m.topics[i].parts[k].epoch
            · have h6 := h4 h5
              have e : s2[j] = ⟨m.topics[i].id, k, m.topics[i].parts[k].epoch, m.topics[i].parts[k].leader⟩ := by rw [← h1, ← h2, ← h5, ← h6]
              rw [decide_eq_true e, Bool.or_true] at htk
              repeat' first | (with_reducible first | refine thN ?_ | refine thE ?_ | refine inN ?_ | refine inH ?_ | refine fS ?_ | refine fR ?_ | refine fQ ?_ | refine fE ?_ | refine awBlock ?_ | refine awExit ?_ | refine awRet ?_ | refine awSkip ?_) | ((with_reducible refine awReg fun K hok hK => ?_); clear hok; (try simp (maxSteps := 10000000) (disch := first | omega | simp) [hlt, hkt, hjt, h1, h2, h5, h6]); (repeat' first | (with_reducible refine hK _ (by simp) ?_) | ((with_reducible refine gdT (fun h => ?_) (fun h => ?_)) <;> (simp (maxSteps := 10000000) (disch := first | omega | simp) [h, hlt, hkt, hjt, h1, h2, h5, h6]; (try simp at h); (try (exfalso; omega)))) | ((with_reducible refine gdF (fun h => ?_) (fun h => ?_)) <;> (simp (maxSteps := 10000000) (disch := first | omega | simp) [h, hlt, hkt, hjt, h1, h2, h5, h6]; (try simp at h); (try (exfalso; omega)))) | ((first | ((with_reducible refine sideQ' ?_ ?_ fun K2 hK2 => ?_); exact rfl; exact rfl; (try simp (maxSteps := 10000000) (disch := first | omega | simp) [hlt, hkt, hjt, h1, h2, h5, h6]); with_reducible refine hK2 _ _ ?_; clear hK2 K2) | ((with_reducible refine side' ?_ fun K2 hK2 => ?_); exact rfl; (try simp (maxSteps := 10000000) (disch := first | omega | simp) [hlt, hkt, hjt, h1, h2, h5, h6]); refine hK2 _ _ (by simp) ?_; clear hK2 K2)); (try simp (maxSteps := 10000000) (disch := first | omega | simp) [hlt, hkt, hjt, h1, h2, h5, h6]))) <;> clear hK K) | ((with_reducible refine awCond fun A B hA hB => ?_); simp (maxSteps := 10000000) (disch := first | omega | simp) [hlt, hkt, hjt, h1, h2, h5, h6]; (first | refine ⟨fun h => hA ?_, fun h => hB ?_⟩ | refine hA ?_ | refine hB ?_) <;> (clear hA hB A B; (try (exfalso; omega))))
              all_goals ((refine ⟨?_, (), ?_, Wk.ofA ?_⟩; assumption; rotate_left; focus (simp [htk, *]; done)))
              all_goals trivial
            · have e : decide (s2[j] = (⟨m.topics[i].id, k, m.topics[i].parts[k].epoch, m.topics[i].parts[k].leader⟩ : Reign)) = false := by
                rw [decide_eq_false_iff_not]; intro e; exact h5 (by rw [e])
              rw [e, Bool.or_false] at htk
              repeat' first | (with_reducible first | refine thN ?_ | refine thE ?_ | refine inN ?_ | refine inH ?_ | refine fS ?_ | refine fR ?_ | refine fQ ?_ | refine fE ?_ | refine awBlock ?_ | refine awExit ?_ | refine awRet ?_ | refine awSkip ?_) | ((with_reducible refine awReg fun K hok hK => ?_); clear hok; (try simp (maxSteps := 10000000) (disch := first | omega | simp) [hlt, hkt, hjt, h1, h2, h5, h3']); (repeat' first | (with_reducible refine hK _ (by simp) ?_) | ((with_reducible refine gdT (fun h => ?_) (fun h => ?_)) <;> (simp (maxSteps := 10000000) (disch := first | omega | simp) [h, hlt, hkt, hjt, h1, h2, h5, h3']; (try simp at h); (try (exfalso; omega)))) | ((with_reducible refine gdF (fun h => ?_) (fun h => ?_)) <;> (simp (maxSteps := 10000000) (disch := first | omega | simp) [h, hlt, hkt, hjt, h1, h2, h5, h3']; (try simp at h); (try (exfalso; omega)))) | ((first | ((with_reducible refine sideQ' ?_ ?_ fun K2 hK2 => ?_); exact rfl; exact rfl; (try simp (maxSteps := 10000000) (disch := first | omega | simp) [hlt, hkt, hjt, h1, h2, h5, h3']); with_reducible refine hK2 _ _ ?_; clear hK2 K2) | ((with_reducible refine side' ?_ fun K2 hK2 => ?_); exact rfl; (try simp (maxSteps := 10000000) (disch := first | omega | simp) [hlt, hkt, hjt, h1, h2, h5, h3']); refine hK2 _ _ (by simp) ?_; clear hK2 K2)); (try simp (maxSteps := 10000000) (disch := first | omega | simp) [hlt, hkt, hjt, h1, h2, h5, h3']))) <;> clear hK K) | ((with_reducible refine awCond fun A B hA hB => ?_); simp (maxSteps := 10000000) (disch := first | omega | simp) [hlt, hkt, hjt, h1, h2, h5, h3']; (first | refine ⟨fun h => hA ?_, fun h => hB ?_⟩ | refine hA ?_ | refine hB ?_) <;> (clear hA hB A B; (try (exfalso; omega))))
              all_goals ((refine ⟨?_, (), ?_, Wk.ofA ?_⟩; assumption; rotate_left; focus (simp [htk, *]; done)))
              all_goals trivial
          · have e : decide (s2[j] = (⟨m.topics[i].id, k, m.topics[i].parts[k].epoch, m.topics[i].parts[k].leader⟩ : Reign)) = false := by
              rw [decide_eq_false_iff_not]; intro e; exact h2 (by rw [e])
            rw [e, Bool.or_false] at htk
            clear hat
            have F := And.intro hlt (And.intro hkt (And.intro hjt (And.intro h1 h2)))
            refine wkF ?_
            all_goals ((refine ⟨?_, (), ?_, Wk.ofA ?_⟩; assumption; rotate_left; focus (simp [htk, *]; done)))
            all_goals trivial
        · have e : decide (s2[j] = (⟨m.topics[i].id, k, m.topics[i].parts[k].epoch, m.topics[i].parts[k].leader⟩ : Reign)) = false := by
            rw [decide_eq_false_iff_not]; intro e; exact h1 (by rw [e])
          rw [e, Bool.or_false] at htk
          clear hat
          have F := And.intro hlt (And.intro hkt (And.intro hjt h1))
          refine wkF ?_
          all_goals ((refine ⟨?_, (), ?_, Wk.ofA ?_⟩; assumption; rotate_left; focus (simp [htk, *]; done)))
          all_goals trivial
      · have hjl : j = s2.length := by omega
        subst hjl
        rw [metB_all]
        unfold addR at hadd hal
        rw [partsR_at _ hkt] at he2
        unfold addR at he2
        cases hc : s2.contains (⟨m.topics[i].id, k, m.topics[i].parts[k].epoch, m.topics[i].parts[k].leader⟩ : Reign)
        · rw [hc] at hadd hal
          simp only [hc, Bool.false_eq_true, if_false] at hadd hal he2
          have F := And.intro hlt hkt
          refine wkF ?_
          (refine ⟨?_, s2 ++ [⟨m.topics[i].id, k, m.topics[i].parts[k].epoch, m.topics[i].parts[k].leader⟩], ?_, Wk.ofA ?_⟩; assumption; rotate_left; focus (simp []; done))
          exact ⟨hadd, by omega, he2⟩
        · rw [hc] at hadd hal
          simp only [hc, if_true] at hadd hal he2
          have F := And.intro hlt hkt
          refine wkF ?_
          (refine ⟨?_, s2, ?_, Wk.ofA ?_⟩; assumption; rotate_left; focus (simp []; done))
          exact ⟨hadd, by omega, he2⟩
    · have F := And.intro hlt hkt
      refine wkF ?_
      (refine ⟨?_, s2, ?_, Wk.ofA ?_⟩; assumption; rotate_left; focus (simp []; done))
      rw [topsR_at hlt] at hse
      rw [drop_nil (by omega)] at he2
      exact ⟨hk2, by omega, by rw [← hse, ← he2]; rfl⟩
  · rw [drop_nil (by omega)] at hse
    have hse : s = topsR m.topics out := hse
    rw [← hse]
    have F := hlt
    refine wkF ?_
    exact fn0
end
end Go.Am
end
section
set_option maxRecDepth 100000
set_option maxHeartbeats 0
namespace Go.Am
open Go
noncomputable section
theorem KInv.parts {m : Image} {n : Nat} (hi : m.Inv n) {t : Topic} (ht : t ∈ m.topics) : ∀ (l : List Part) (k : Nat) (s : List Reign), (∀ j p, l[j]? = some p → t.parts[k + j]? = some p) → KInv s m → KInv (partsR t.id k l s) m := by
  intro l
  induction l with
  | nil => intro k s _ h; exact h
  | cons p l ih =>
    intro k s hl h
    refine ih (k + 1) _ (fun j q hq => ?_) (h.add hi ht (by have := hl 0 p rfl; simpa using this))
    have := hl (j + 1) q (by simpa using hq)
    rw [show k + 1 + j = k + (j + 1) by omega]; exact this
theorem KInv.tops {m : Image} {n : Nat} (hi : m.Inv n) : ∀ (l : List Topic) (s : List Reign), (∀ t ∈ l, t ∈ m.topics) → KInv s m → KInv (topsR l s) m := by
  intro l
  induction l with
  | nil => intro s _ h; exact h
  | cons t l ih => intro s hl h; exact ih _ (fun u hu => hl u (by simp [hu])) (KInv.parts hi (hl t (by simp)) t.parts 0 s (fun j p hp => by simpa using hp) h)
theorem partsR_len (id : Int) : ∀ (l : List Part) (k : Nat) (s : List Reign), (partsR id k l s).length ≤ s.length + l.length := by
  intro l
  induction l with
  | nil => intro k s; simp [partsR]
  | cons p l ih => intro k s; have := ih (k + 1) (addR s ⟨id, k, p.epoch, p.leader⟩); have := addR_len s ⟨id, k, p.epoch, p.leader⟩; simp only [partsR, List.length_cons]; omega
theorem topsR_len : ∀ (l : List Topic) (s : List Reign), (∀ t ∈ l, t.parts.length ≤ 1000) → (topsR l s).length ≤ s.length + l.length * 1000 := by
  intro l
  induction l with
  | nil => intro s _; simp [topsR]
  | cons t l ih => intro s hl; have := ih (partsR t.id 0 t.parts s) (fun u hu => hl u (by simp [hu])); have := partsR_len t.id t.parts 0 s; have := hl t (by simp); simp only [topsR, List.length_cons]; omega
def c4 : SC := (.seq (.reg [oZ 2 false] [0,13,40]) (.seq (.reg [oM 10 0,oC 11 5 #[.tmp 10] #[22],oD 12 (.unOp .not 4 (.tmp 11))] [0,12,13,40]) (.seq (.cond (.tmp 12) (.seq (.reg [oC 13 6 #[] #[],oG 2 13] [2,13,40]) .ret) .skip) (.seq (.reg [oD 14 (.build 30 #[]),oA 3 30,oS 30 3 14] [0,3,13,40]) (.seq (.reg [oD 4 (.assign (.const (.slice none 0 0)))] [0,3,4,8,13,30,33,34,38,40]) (.seq (.reg [oI 5 0] [0,3,4,5,8,13,20,30,33,34,38,40]) (.seq (.block 0 (.seq (.loop (.seq (.reg [oM 15 5,oM 16 0,oN 17 16 22,oB 18 .lss 3 15 17 3] [0,3,4,5,8,13,18,20,30,33,34,38,40]) (.seq (.cond (.tmp 18) .skip (.exit 0)) (.seq (.block 1 (.seq (.reg [oU (oL 22 30 3) [23,24,25,26,6],oU (oM 23 0) [22,24,6],oU (oM 24 5) [22,23,6],oU (oJ 25 22 23 24) [22,6],oU (oL 26 37 25) [22,6],oU (oC 27 7 #[.tmp 22,.tmp 26] #[30,37]) [6],oU (oM 21 27) [6],oU (oX 28 21 0) [29,6],oU (oX 29 21 1) [28,6,6],oU (oA 6 30) [22,23,24,25,26,27,21,28,29],oU (oS 30 6 28) [29],oG 7 29] [0,3,4,5,6,8,13,20,30,33,34,38,40]) (.seq (.reg [oM 31 4,oL 32 30 6,oC 33 10 #[.tmp 31,.tmp 32] #[40,30],oM 30 33,oX 34 30 0,oX 35 30 1,oG 8 34,oG 9 35] [0,3,5,6,8,9,13,20,30,33,34,35,40]) (.seq (.reg [oM 36 9,oD 37 (.unOp .not 4 (.tmp 36))] [0,3,5,6,8,13,20,30,33,34,37,40]) (.seq (.cond (.tmp 37) (.seq (.reg [oZ 2 false] [2,13,40]) .ret) .skip) (.seq (.reg [oM 38 8,oG 4 38] [0,3,4,5,6,8,13,20,30,33,34,38,40]) (.seq (.reg [oL 39 30 6,oS 30 3 39] [0,3,4,5,8,13,20,30,33,34,38,40]) .skip))))))) (.seq (.reg [oM 19 5,oK 20 .add 3 19 1 3,oG 5 20] [0,3,4,5,8,13,20,30,33,34,38,40]) .skip))))) .skip)) (.seq (.reg [oC 40 6 #[] #[],oG 2 40] [2,13,40]) .ret))))))))
theorem s4 : TextK Proofs.Tryz.prog 0 4 41 [ResultVar.tmp 2] c4 := .mk' Proofs.Tryz.f4 _ (by kernel_rfl) rfl rfl rfl (by kernel_rfl) rfl (by kernel_rfl)
theorem reigns_walk (A : Asked) (HW : ACall pg 6 [] (B true)) (l : List Record) : ACall pg 4 [.sl (l.map encR)] (B true) := by
  refine s4.call mo (by simp) fun hxs => ?_
  clear hxs
  obtain ⟨b, hli, hll⟩ := light_ok l
  unfold c4; dsimp only [oA, oB, oC, oD, oG, oI, oJ, oK, oL, oM, oN, oS, oU, oX, oZ]
  cases b with
  | false =>
    refine wk ?_
    all_goals exact fn0
  | true =>
    have hl := hll rfl
    refine wk ?_
    refine awFor l.length (fun i (s : Image × List Reign) => ImOk s.1 i ∧ KInv s.2 s.1 ∧ s.2.length ≤ i * 1000000) (fun i s => [(5, .p (I i)), (4, .p (.uq (s.2.map encRg))), (3, .p (.own (encM s.1).cells)), (0, .p (.sl (l.map encR)))]) (zM, []) ((Wk.frzIm (r := 3) rfl).trans (Wk.ofA (by simp [zM]))) ⟨ImOk.zero, KInv.nil _, by simp⟩ fun i s hi hs => ?_
    obtain ⟨hs, hsk, hsl⟩ := hs
    obtain ⟨m, all⟩ := s
    simp only at hs hsk hsl
    by_cases hlt : i < l.length
    · obtain ⟨E, hA, hE⟩ := A.apply hs (by omega) l[i]
      clear hE
      have hst := hs.step (by omega) l[i]
      have hks := hsk.apply hs.inv (by omega) l[i]
      generalize (m.apply l[i]).1 = x at *
      have hr := reigns_ok x (i + 1) hst.inv (by omega) all hks (by omega)
      have hkt := KInv.tops hst.inv x.topics all (fun t ht => ht) hks
      have hlen := topsR_len x.topics all (fun t ht => by have := hst.inv.pl t ht; omega)
      have htl := hst.inv.tl
      have hle2 : (topsR x.topics all).length ≤ (i + 1) * 1000000 := by omega
      clear hlen htl
      cases E with
      | none =>
        simp only [errE_none] at hA
        repeat' first | (with_reducible first | refine thN ?_ | refine thE ?_ | refine inN ?_ | refine inH ?_ | refine fS ?_ | refine fR ?_ | refine fQ ?_ | refine fE ?_ | refine fT ?_ | refine awBlock ?_ | refine awExit ?_ | refine awRet ?_ | refine awSkip ?_) | ((with_reducible refine awReg fun K hok hK => ?_); clear hok; (try simp (maxSteps := 10000000) (disch := first | omega | simp) [hlt, isConst]); (repeat' first | (with_reducible refine hK _ (by simp) ?_) | ((first | ((with_reducible refine callS' fun K2 hK2 => ?_); (try simp (maxSteps := 10000000) (disch := first | omega | simp) [hlt, isConst]); (first | refine hK2 _ _ hA rfl fun hk9 => ?_ | refine hK2 _ _ hr rfl fun hk9 => ?_); clear hk9; clear hK2 K2) | ((with_reducible refine sideF' fun K2 hK2 => ?_); (try simp (maxSteps := 10000000) (disch := first | omega | simp) [hlt, isConst]); (first | refine hK2 _ _ _ hA (by simp) ?_ | refine hK2 _ _ _ hr (by simp) ?_); clear hK2 K2) | ((with_reducible refine callM' rfl fun K2 hK2 => ?_); (try simp (maxSteps := 10000000) (disch := first | omega | simp) [hlt, isConst]); (first | refine hK2 _ _ _ _ _ _ _ hA rfl fun _ _ => ?_ | refine hK2 _ _ _ _ _ _ _ hr rfl fun _ _ => ?_); clear hK2 K2) | ((with_reducible refine sideSt' fun K2 hK2 => ?_); (try simp (maxSteps := 10000000) (disch := first | omega | simp) [hlt, isConst]); refine hK2 _ ?_; clear hK2 K2) | ((with_reducible refine sideQ' ?_ ?_ fun K2 hK2 => ?_); exact rfl; exact rfl; (try simp (maxSteps := 10000000) (disch := first | omega | simp) [hlt, isConst]); with_reducible refine hK2 _ _ ?_; clear hK2 K2) | ((with_reducible refine side' ?_ fun K2 hK2 => ?_); exact rfl; (try simp (maxSteps := 10000000) (disch := first | omega | simp) [hlt, isConst]); refine hK2 _ _ (by simp) ?_; clear hK2 K2)); (try simp (maxSteps := 10000000) (disch := first | omega | simp) [hlt, isConst]))) <;> clear hK K) | ((with_reducible refine awCond fun A B hA hB => ?_); simp (maxSteps := 10000000) (disch := first | omega | simp) [hlt, isConst]; (first | refine ⟨fun h => hA ?_, fun h => hB ?_⟩ | refine hA ?_ | refine hB ?_) <;> (clear hA hB A B; (try (exfalso; omega))))
        (refine ⟨?_, (x, topsR x.topics all), ?_, Wk.ofA ?_⟩; assumption; rotate_left; focus (simp []; done))
        exact ⟨hst, hkt, hle2⟩
      | some e =>
        obtain ⟨ty, v, he⟩ := encE_if e
        simp only [errE_some, he] at hA
        repeat' first | (with_reducible first | refine thN ?_ | refine thE ?_ | refine inN ?_ | refine inH ?_ | refine fS ?_ | refine fR ?_ | refine fQ ?_ | refine fE ?_ | refine fT ?_ | refine awBlock ?_ | refine awExit ?_ | refine awRet ?_ | refine awSkip ?_) | ((with_reducible refine awReg fun K hok hK => ?_); clear hok; (try simp (maxSteps := 10000000) (disch := first | omega | simp) [hlt, isConst]); (repeat' first | (with_reducible refine hK _ (by simp) ?_) | ((first | ((with_reducible refine callS' fun K2 hK2 => ?_); (try simp (maxSteps := 10000000) (disch := first | omega | simp) [hlt, isConst]); (first | refine hK2 _ _ hA rfl fun hk9 => ?_ | refine hK2 _ _ hr rfl fun hk9 => ?_); clear hk9; clear hK2 K2) | ((with_reducible refine sideF' fun K2 hK2 => ?_); (try simp (maxSteps := 10000000) (disch := first | omega | simp) [hlt, isConst]); (first | refine hK2 _ _ _ hA (by simp) ?_ | refine hK2 _ _ _ hr (by simp) ?_); clear hK2 K2) | ((with_reducible refine callM' rfl fun K2 hK2 => ?_); (try simp (maxSteps := 10000000) (disch := first | omega | simp) [hlt, isConst]); (first | refine hK2 _ _ _ _ _ _ _ hA rfl fun _ _ => ?_ | refine hK2 _ _ _ _ _ _ _ hr rfl fun _ _ => ?_); clear hK2 K2) | ((with_reducible refine sideSt' fun K2 hK2 => ?_); (try simp (maxSteps := 10000000) (disch := first | omega | simp) [hlt, isConst]); refine hK2 _ ?_; clear hK2 K2) | ((with_reducible refine sideQ' ?_ ?_ fun K2 hK2 => ?_); exact rfl; exact rfl; (try simp (maxSteps := 10000000) (disch := first | omega | simp) [hlt, isConst]); with_reducible refine hK2 _ _ ?_; clear hK2 K2) | ((with_reducible refine side' ?_ fun K2 hK2 => ?_); exact rfl; (try simp (maxSteps := 10000000) (disch := first | omega | simp) [hlt, isConst]); refine hK2 _ _ (by simp) ?_; clear hK2 K2)); (try simp (maxSteps := 10000000) (disch := first | omega | simp) [hlt, isConst]))) <;> clear hK K) | ((with_reducible refine awCond fun A B hA hB => ?_); simp (maxSteps := 10000000) (disch := first | omega | simp) [hlt, isConst]; (first | refine ⟨fun h => hA ?_, fun h => hB ?_⟩ | refine hA ?_ | refine hB ?_) <;> (clear hA hB A B; (try (exfalso; omega))))
        (refine ⟨?_, (x, topsR x.topics all), ?_, Wk.ofA ?_⟩; assumption; rotate_left; focus (simp []; done))
        exact ⟨hst, hkt, hle2⟩
    · clear hs
      have F := hlt
      refine wkF ?_
      exact fn0
end
end Go.Am
end
