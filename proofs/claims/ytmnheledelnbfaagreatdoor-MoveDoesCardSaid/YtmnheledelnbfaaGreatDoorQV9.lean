/- Part of the proof of a law of moving. -/
import Derived.Test.YtmnheledelnbfaaGreatDoorQAF
import Derived.Test.YtmnheledelnbfaaGreatDoorQEF
set_option linter.all false
set_option maxRecDepth 100000
set_option maxHeartbeats 0
namespace Go.Am
open Go
noncomputable section
def c16 : SC := (.seq (.reg [oO 2 36 0,oA 4 51,oI 5 0,oA 6 53,oZ 7 false] [1,2,4,6,9,12,39,51,61,62,63,64]) (.seq (.reg [oD 8 (.assign (.const (.slice none 0 0)))] [1,2,4,6,8,9,12,35,39,51,61,62,63,64]) (.seq (.reg [oD 9 (.assign (.const (.slice none 0 0)))] [1,2,4,6,8,9,12,35,39,51,61,62,63,64]) (.seq (.reg [oI 10 0] [1,2,4,6,8,9,10,12,20,35,39,51,61,62,63,64]) (.seq (.block 0 (.seq (.loop (.seq (.reg [oM 14 10,oF 15 36 2 1,oL 16 32 15,oN 17 16 32,oB 18 .lss 3 14 17 3] [1,2,4,6,8,9,10,12,18,20,35,39,51,61,62,63,64]) (.seq (.cond (.tmp 18) .skip (.exit 0)) (.seq (.block 1 (.seq (.reg [oI 11 0] [1,2,4,6,8,9,10,11,12,20,31,35,39,51,61,62,63,64]) (.seq (.block 2 (.seq (.loop (.seq (.reg [oM 21 11,oF 22 36 2 1,oL 23 32 22,oM 24 10,oJ 25 32 23 24,oF 26 51 25 2,oL 27 49 26,oN 28 27 49,oB 29 .lss 3 21 28 3] [1,2,4,6,8,9,10,11,12,20,29,31,35,39,51,61,62,63,64]) (.seq (.cond (.tmp 29) .skip (.exit 2)) (.seq (.block 3 (.seq (.reg [oM 32 8,oM 33 10,oD 34 (.buildSlice 23 1 #[(0,.tmp 33)]),oP 35 #[.tmp 32,.tmp 34] #[23,23],oG 8 35] [1,2,4,6,8,9,10,11,12,20,31,35,39,51,61,62,63,64]) (.seq (.reg [oM 36 9,oM 37 11,oD 38 (.buildSlice 23 1 #[(0,.tmp 37)]),oP 39 #[.tmp 36,.tmp 38] #[23,23],oG 9 39] [1,2,4,6,8,9,10,11,12,20,31,35,39,51,61,62,63,64]) .skip))) (.seq (.reg [oM 30 11,oK 31 .add 3 30 1 3,oG 11 31] [1,2,4,6,8,9,10,11,12,20,31,35,39,51,61,62,63,64]) .skip))))) .skip)) .skip))) (.seq (.reg [oM 19 10,oK 20 .add 3 19 1 3,oG 10 20] [1,2,4,6,8,9,10,12,20,35,39,51,61,62,63,64]) .skip))))) .skip)) (.seq (.reg [oM 40 8,oN 41 40 23,oK 42 .eql 3 41 0 3] [1,2,4,6,8,9,12,35,39,42,51,61,62,63,64]) (.seq (.cond (.tmp 42) (.seq (.reg [oD 43 (.build 51 #[]),oD 44 (.build 53 #[]),oS 51 4 43,oI 5 0,oS 53 6 44,oZ 7 false] [4,5,6,7,9,12,39,51,61,62,63,64]) .ret) .skip) (.seq (.reg [oM 45 1,oD 46 (.convert 3 88 (.tmp 45)),oM 47 8,oN 48 47 23,oD 49 (.convert 3 88 (.tmp 48)),oB 50 .rem 88 46 49 88,oD 51 (.convert 88 3 (.tmp 50)),oG 12 51] [2,4,6,8,9,12,35,39,51]) (.seq (.reg [oU (oF 52 36 2 1) [54,55,56,57,13],oU (oL 53 32 52) [54,55,56,57,13],oU (oM 54 8) [52,53,55,13],oU (oM 55 12) [52,53,54,13],oU (oJ 56 23 54 55) [52,53,13],oU (oL 57 3 56) [52,53,13],oU (oJ 58 32 53 57) [13],oU (oL 59 51 58) [13],oU (oA 13 51) [52,53,54,55,56,57,58,59],oS 51 13 59] [4,6,9,12,13,39,51]) (.seq (.reg [oU (oL 60 51 13) [61,62,63,64,65,66,67,68,69,70,71,72],oU (oM 61 9) [60,62,65,66,67,68,69,70,71,72,4],oU (oM 62 12) [60,61,65,66,67,68,69,70,71,72,4],oU (oJ 63 23 61 62) [60,65,66,67,68,69,70,71,72,4],oU (oL 64 3 63) [60,65,66,67,68,69,70,71,72,4],oU (oF 65 51 13 2) [60,61,62,63,64,67,68,69,70,4,5],oU (oL 66 49 65) [60,61,62,63,64,67,68,69,70,4,5],oU (oM 67 9) [60,61,62,63,64,65,66,68,4,5],oU (oM 68 12) [60,61,62,63,64,65,66,67,4,5],oU (oJ 69 23 67 68) [60,61,62,63,64,65,66,4,5],oU (oL 70 3 69) [60,61,62,63,64,65,66,4,5],oU (oJ 71 49 66 70) [60,61,62,63,64,4,5],oU (oL 72 53 71) [60,61,62,63,64,4,5],oU (oS 51 4 60) [61,62,63,64,65,66,67,68,69,70,71,72],oU (oG 5 64) [65,66,67,68,69,70,71,72],oS 53 6 72,oZ 7 true] [4,5,6,7,9,12,39,51,61,62,63,64]) .ret))))))))))
theorem s16 : TextK Proofs.Tryz.prog 0 16 73 [ResultVar.cell 4 51, ResultVar.tmp 5, ResultVar.cell 6 53, ResultVar.tmp 7] c16 := .mk' Proofs.Tryz.f16 _ (by kernel_rfl) rfl rfl rfl (by kernel_rfl) rfl (by kernel_rfl)
def prs : List Topic → Nat → List (Nat × Nat)
  | [], _ => []
  | t :: l, i => (List.range t.parts.length).map (fun k => (i, k)) ++ prs l (i + 1)
theorem prs_get : ∀ (l : List Topic) (i : Nat) (x : Nat × Nat), x ∈ prs l i → ∃ t, i ≤ x.1 ∧ l[x.1 - i]? = some t ∧ x.2 < t.parts.length := by
  intro l
  induction l with
  | nil => intro i x h; cases h
  | cons t l ih =>
    intro i x h
    simp only [prs, List.mem_append, List.mem_map, List.mem_range] at h
    rcases h with ⟨k, hk, rfl⟩ | h
    · exact ⟨t, Nat.le_refl _, by simp, hk⟩
    · obtain ⟨u, h1, h2, h3⟩ := ih _ _ h
      refine ⟨u, by omega, ?_, h3⟩
      rw [show x.1 - i = (x.1 - (i + 1)) + 1 by omega, List.getElem?_cons_succ]; exact h2
def Image.sel21 (m : Image) (n : Int) : Option (Topic × Nat × Part) :=
  if (prs m.topics 0).length = 0 then none else
    match (prs m.topics 0)[(IntKind.i64.wrap ((IntKind.u64.wrap n).tmod ((prs m.topics 0).length : Int))).toNat]? with
    | some x => some (m.topics.getD x.1 zT, x.2, ((m.topics.getD x.1 zT).parts.getD x.2 zP))
    | none => none
def encSel21 : Option (Topic × Nat × Part) → V
  | some x => .tup [encT x.1, I x.2.1, encP x.2.2, B true]
  | none => .tup [encT zT, I 0, encP zP, B false]
@[simp] theorem encSel21_some (t : Topic) (b : Nat) (p : Part) : encSel21 (some (t, b, p)) = .tup [encT t, I b, encP p, B true] := rfl
@[simp] theorem encSel21_none : encSel21 none = .tup [encT zT, I 0, encP zP, B false] := rfl
theorem sel21_spec {m : Image} {n : Int} {t : Topic} {k : Nat} {p : Part} (h : m.sel21 n = some (t, k, p)) : t ∈ m.topics ∧ t.parts[k]? = some p := by
  unfold Image.sel21 at h
  split at h
  · cases h
  · split at h
    · rename_i x hx
      obtain ⟨u, _, h2, h3⟩ := prs_get _ _ _ (List.mem_of_getElem? hx)
      rw [Nat.sub_zero] at h2
      have e : m.topics.getD x.1 zT = u := by rw [List.getD_eq_getElem?_getD, h2]; rfl
      rw [e] at h
      cases h
      refine ⟨List.mem_of_getElem? h2, ?_⟩
      rw [List.getD_eq_getElem?_getD, List.getElem?_eq_getElem h3]; rfl
    · cases h
@[simp] theorem pvL_p1 (s : List (Nat × Nat)) : pvL (s.map fun x => I x.1) = s.map fun x => I x.1 := by rw [pvL_eq, List.map_map]; rfl
theorem part21_ok (m : Image) (n : Int) (hm : m.Pre) : ACall pg 16 [encM m, I n] (encSel21 (m.sel21 n)) := by
  refine s16.call mo (by simp) fun hxs => ?_
  clear hxs
  have htl := hm.tl
  unfold c16; dsimp only [oA, oB, oD, oF, oG, oI, oJ, oK, oL, oM, oN, oO, oP, oS, oU, oZ]
  repeat' first | (with_reducible first | refine thN ?_ | refine thE ?_ | refine inN ?_ | refine inH ?_ | refine fS ?_ | refine fR ?_ | refine fQ ?_ | refine fE ?_ | refine fT ?_ | refine awBlock ?_ | refine awExit ?_ | refine awRet ?_ | refine awSkip ?_) | ((with_reducible refine awReg fun K hok hK => ?_); clear hok; (try simp (maxSteps := 10000000) (disch := first | omega | simp) []); (repeat' first | (with_reducible refine hK _ (by simp) ?_) | ((first | ((with_reducible refine sideSt' fun K2 hK2 => ?_); (try simp (maxSteps := 10000000) (disch := first | omega | simp) []); refine hK2 _ ?_; clear hK2 K2) | ((with_reducible refine sideQ' ?_ ?_ fun K2 hK2 => ?_); exact rfl; exact rfl; (try simp (maxSteps := 10000000) (disch := first | omega | simp) []); with_reducible refine hK2 _ _ ?_; clear hK2 K2) | ((with_reducible refine side' ?_ fun K2 hK2 => ?_); exact rfl; (try simp (maxSteps := 10000000) (disch := first | omega | simp) []); refine hK2 _ _ (by simp) ?_; clear hK2 K2)); (try simp (maxSteps := 10000000) (disch := first | omega | simp) []))) <;> clear hK K) | ((with_reducible refine awCond fun A B hA hB => ?_); simp (maxSteps := 10000000) (disch := first | omega | simp) []; (first | refine ⟨fun h => hA ?_, fun h => hB ?_⟩ | refine hA ?_ | refine hB ?_) <;> (clear hA hB A B; (try (exfalso; omega))))
  refine awFor m.topics.length (fun i (s : List (Nat × Nat)) => s ++ prs (m.topics.drop i) i = prs m.topics 0 ∧ s.length ≤ i * 1000) (fun i s => [(10, .p (I i)), (9, .p (.uq (s.map fun x => I x.2))), (8, .p (.uq (s.map fun x => I x.1))), (6, .p (.own [.uq [], .uq [], I 0, I 0, .uq [], .uq []])), (4, .p (.own [I 0, St ⟨#[]⟩, .uq []])), (2, .p (.own (encM m).cells)), (1, .p (I n))]) [] (Wk.ofA (by simp)) ⟨by simp, by simp⟩ fun i s hi hs => ?_
  obtain ⟨hs, hsl⟩ := hs
  by_cases hlt : i < m.topics.length
  · rw [drop_cons hlt] at hs
    simp only [prs] at hs
    have hpl := hm.pl _ (List.getElem_mem hlt)
    repeat' first | (with_reducible first | refine thN ?_ | refine thE ?_ | refine inN ?_ | refine inH ?_ | refine fS ?_ | refine fR ?_ | refine fQ ?_ | refine fE ?_ | refine fT ?_ | refine awBlock ?_ | refine awExit ?_ | refine awRet ?_ | refine awSkip ?_) | ((with_reducible refine awReg fun K hok hK => ?_); clear hok; (try simp (maxSteps := 10000000) (disch := first | omega | simp) [hlt]); (repeat' first | (with_reducible refine hK _ (by simp) ?_) | ((first | ((with_reducible refine sideSt' fun K2 hK2 => ?_); (try simp (maxSteps := 10000000) (disch := first | omega | simp) [hlt]); refine hK2 _ ?_; clear hK2 K2) | ((with_reducible refine sideQ' ?_ ?_ fun K2 hK2 => ?_); exact rfl; exact rfl; (try simp (maxSteps := 10000000) (disch := first | omega | simp) [hlt]); with_reducible refine hK2 _ _ ?_; clear hK2 K2) | ((with_reducible refine side' ?_ fun K2 hK2 => ?_); exact rfl; (try simp (maxSteps := 10000000) (disch := first | omega | simp) [hlt]); refine hK2 _ _ (by simp) ?_; clear hK2 K2)); (try simp (maxSteps := 10000000) (disch := first | omega | simp) [hlt]))) <;> clear hK K) | ((with_reducible refine awCond fun A B hA hB => ?_); simp (maxSteps := 10000000) (disch := first | omega | simp) [hlt]; (first | refine ⟨fun h => hA ?_, fun h => hB ?_⟩ | refine hA ?_ | refine hB ?_) <;> (clear hA hB A B; (try (exfalso; omega))))
    refine awFor m.topics[i].parts.length (fun k (s : List (Nat × Nat)) => s ++ (((List.range m.topics[i].parts.length).drop k).map (fun k => (i, k)) ++ prs (m.topics.drop (i + 1)) (i + 1)) = prs m.topics 0 ∧ s.length ≤ i * 1000 + k) (fun k s => [(11, .p (I k)), (10, .p (I i)), (9, .p (.uq (s.map fun x => I x.2))), (8, .p (.uq (s.map fun x => I x.1))), (6, .p (.own [.uq [], .uq [], I 0, I 0, .uq [], .uq []])), (4, .p (.own [I 0, St ⟨#[]⟩, .uq []])), (2, .p (.own (encM m).cells)), (1, .p (I n))]) s (Wk.ofA (by simp)) ⟨by simpa using hs, by omega⟩ fun k s hk hs2 => ?_
    obtain ⟨hs2, hs2l⟩ := hs2
    by_cases hkt : k < m.topics[i].parts.length
    · rw [drop_cons (show k < (List.range m.topics[i].parts.length).length by simpa using hkt), List.getElem_range, List.map_cons] at hs2
      repeat' first | (with_reducible first | refine thN ?_ | refine thE ?_ | refine inN ?_ | refine inH ?_ | refine fS ?_ | refine fR ?_ | refine fQ ?_ | refine fE ?_ | refine fT ?_ | refine awBlock ?_ | refine awExit ?_ | refine awRet ?_ | refine awSkip ?_) | ((with_reducible refine awReg fun K hok hK => ?_); clear hok; (try simp (maxSteps := 10000000) (disch := first | omega | simp) [hkt]); (repeat' first | (with_reducible refine hK _ (by simp) ?_) | ((first | ((with_reducible refine sideSt' fun K2 hK2 => ?_); (try simp (maxSteps := 10000000) (disch := first | omega | simp) [hkt]); refine hK2 _ ?_; clear hK2 K2) | ((with_reducible refine sideQ' ?_ ?_ fun K2 hK2 => ?_); exact rfl; exact rfl; (try simp (maxSteps := 10000000) (disch := first | omega | simp) [hkt]); with_reducible refine hK2 _ _ ?_; clear hK2 K2) | ((with_reducible refine side' ?_ fun K2 hK2 => ?_); exact rfl; (try simp (maxSteps := 10000000) (disch := first | omega | simp) [hkt]); refine hK2 _ _ (by simp) ?_; clear hK2 K2)); (try simp (maxSteps := 10000000) (disch := first | omega | simp) [hkt]))) <;> clear hK K) | ((with_reducible refine awCond fun A B hA hB => ?_); simp (maxSteps := 10000000) (disch := first | omega | simp) [hkt]; (first | refine ⟨fun h => hA ?_, fun h => hB ?_⟩ | refine hA ?_ | refine hB ?_) <;> (clear hA hB A B; (try (exfalso; omega))))
      (refine ⟨?_, s ++ [(i, k)], ?_, Wk.ofA ?_⟩; assumption; rotate_left; focus (simp []; done))
      exact ⟨by rw [← hs2]; simp, by simp; omega⟩
    · rw [drop_nil (by simp; omega)] at hs2
      simp only [List.map_nil, List.nil_append] at hs2
      repeat' first | (with_reducible first | refine thN ?_ | refine thE ?_ | refine inN ?_ | refine inH ?_ | refine fS ?_ | refine fR ?_ | refine fQ ?_ | refine fE ?_ | refine fT ?_ | refine awBlock ?_ | refine awExit ?_ | refine awRet ?_ | refine awSkip ?_) | ((with_reducible refine awReg fun K hok hK => ?_); clear hok; (try simp (maxSteps := 10000000) (disch := first | omega | simp) [hkt]); (repeat' first | (with_reducible refine hK _ (by simp) ?_) | ((first | ((with_reducible refine sideSt' fun K2 hK2 => ?_); (try simp (maxSteps := 10000000) (disch := first | omega | simp) [hkt]); refine hK2 _ ?_; clear hK2 K2) | ((with_reducible refine sideQ' ?_ ?_ fun K2 hK2 => ?_); exact rfl; exact rfl; (try simp (maxSteps := 10000000) (disch := first | omega | simp) [hkt]); with_reducible refine hK2 _ _ ?_; clear hK2 K2) | ((with_reducible refine side' ?_ fun K2 hK2 => ?_); exact rfl; (try simp (maxSteps := 10000000) (disch := first | omega | simp) [hkt]); refine hK2 _ _ (by simp) ?_; clear hK2 K2)); (try simp (maxSteps := 10000000) (disch := first | omega | simp) [hkt]))) <;> clear hK K) | ((with_reducible refine awCond fun A B hA hB => ?_); simp (maxSteps := 10000000) (disch := first | omega | simp) [hkt]; (first | refine ⟨fun h => hA ?_, fun h => hB ?_⟩ | refine hA ?_ | refine hB ?_) <;> (clear hA hB A B; (try (exfalso; omega))))
      (refine ⟨?_, s, ?_, Wk.ofA ?_⟩; assumption; rotate_left; focus (simp []; done))
      exact ⟨hs2, by omega⟩
  · rw [drop_nil (by omega)] at hs
    simp only [prs, List.append_nil] at hs
    by_cases h0 : s.length = 0
    · have e : m.sel21 n = none := by unfold Image.sel21; rw [← hs, if_pos h0]
      have h0' : s = [] := List.eq_nil_of_length_eq_zero h0
      subst h0'
      repeat' first | (with_reducible first | refine thN ?_ | refine thE ?_ | refine inN ?_ | refine inH ?_ | refine fS ?_ | refine fR ?_ | refine fQ ?_ | refine fE ?_ | refine fT ?_ | refine awBlock ?_ | refine awExit ?_ | refine awRet ?_ | refine awSkip ?_) | ((with_reducible refine awReg fun K hok hK => ?_); clear hok; (try simp (maxSteps := 10000000) (disch := first | omega | simp) [hlt]); (repeat' first | (with_reducible refine hK _ (by simp) ?_) | ((first | ((with_reducible refine sideSt' fun K2 hK2 => ?_); (try simp (maxSteps := 10000000) (disch := first | omega | simp) [hlt]); refine hK2 _ ?_; clear hK2 K2) | ((with_reducible refine sideQ' ?_ ?_ fun K2 hK2 => ?_); exact rfl; exact rfl; (try simp (maxSteps := 10000000) (disch := first | omega | simp) [hlt]); with_reducible refine hK2 _ _ ?_; clear hK2 K2) | ((with_reducible refine side' ?_ fun K2 hK2 => ?_); exact rfl; (try simp (maxSteps := 10000000) (disch := first | omega | simp) [hlt]); refine hK2 _ _ (by simp) ?_; clear hK2 K2)); (try simp (maxSteps := 10000000) (disch := first | omega | simp) [hlt]))) <;> clear hK K) | ((with_reducible refine awCond fun A B hA hB => ?_); simp (maxSteps := 10000000) (disch := first | omega | simp) [hlt]; (first | refine ⟨fun h => hA ?_, fun h => hB ?_⟩ | refine hA ?_ | refine hB ?_) <;> (clear hA hB A B; (try (exfalso; omega))))
      (refine aEnR (aRes [] fun K hK => ?_); simp (maxSteps := 10000000) (disch := first | omega | simp) [e, zP, zT]; refine hK _ ?_ (by simp); simp (maxSteps := 10000000) (disch := first | omega | simp) [e, zP, zT])
    · obtain ⟨j, hj, hje⟩ := at_mod' n s.length (by omega) (by omega)
      have hu : IntKind.u64.wrap (s.length : Int) = s.length := by simp [IntKind.wrap, IntKind.signed, IntKind.bits]; omega
      obtain ⟨t, _, h2, h3⟩ := prs_get m.topics 0 s[j] (by rw [← hs]; exact List.getElem_mem hj)
      rw [Nat.sub_zero] at h2
      have h4 : s[j].1 < m.topics.length := by
        rcases Nat.lt_or_ge s[j].1 m.topics.length with h | h
        · exact h
        · rw [List.getElem?_eq_none h] at h2; cases h2
      have h5 : m.topics[s[j].1] = t := by rw [List.getElem?_eq_getElem h4] at h2; simpa using h2
      have e1 : m.topics.getD s[j].1 zT = t := by rw [List.getD_eq_getElem?_getD, h2]; rfl
      have e2 : t.parts.getD s[j].2 zP = t.parts[s[j].2] := by rw [List.getD_eq_getElem?_getD, List.getElem?_eq_getElem h3]; rfl
      have e : m.sel21 n = some (t, s[j].2, t.parts[s[j].2]) := by
        unfold Image.sel21
        rw [← hs, if_neg h0, hje]
        simp only [Int.toNat_natCast, List.getElem?_eq_getElem hj, e1, e2]
      rw [e]
      clear e e1 e2
      subst h5
      repeat' first | (with_reducible first | refine thN ?_ | refine thE ?_ | refine inN ?_ | refine inH ?_ | refine fS ?_ | refine fR ?_ | refine fQ ?_ | refine fE ?_ | refine fT ?_ | refine awBlock ?_ | refine awExit ?_ | refine awRet ?_ | refine awSkip ?_) | ((with_reducible refine awReg fun K hok hK => ?_); clear hok; (try simp (maxSteps := 10000000) (disch := first | omega | simp) [hlt, h0, hu, hje, h3, h4]); (repeat' first | (with_reducible refine hK _ (by simp) ?_) | ((first | ((with_reducible refine sideSt' fun K2 hK2 => ?_); (try simp (maxSteps := 10000000) (disch := first | omega | simp) [hlt, h0, hu, hje, h3, h4]); refine hK2 _ ?_; clear hK2 K2) | ((with_reducible refine sideQ' ?_ ?_ fun K2 hK2 => ?_); exact rfl; exact rfl; (try simp (maxSteps := 10000000) (disch := first | omega | simp) [hlt, h0, hu, hje, h3, h4]); with_reducible refine hK2 _ _ ?_; clear hK2 K2) | ((with_reducible refine side' ?_ fun K2 hK2 => ?_); exact rfl; (try simp (maxSteps := 10000000) (disch := first | omega | simp) [hlt, h0, hu, hje, h3, h4]); refine hK2 _ _ (by simp) ?_; clear hK2 K2)); (try simp (maxSteps := 10000000) (disch := first | omega | simp) [hlt, h0, hu, hje, h3, h4]))) <;> clear hK K) | ((with_reducible refine awCond fun A B hA hB => ?_); simp (maxSteps := 10000000) (disch := first | omega | simp) [hlt, h0, hu, hje, h3, h4]; (first | refine ⟨fun h => hA ?_, fun h => hB ?_⟩ | refine hA ?_ | refine hB ?_) <;> (clear hA hB A B; (try (exfalso; omega))))
      (refine aEnR (aRes [] fun K hK => ?_); simp (maxSteps := 10000000) (disch := first | omega | simp) []; refine hK _ ?_ (by simp); simp (maxSteps := 10000000) (disch := first | omega | simp) [])
end
end Go.Am
