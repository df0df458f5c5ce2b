/- Part of the proof of a law of moving. -/
import Derived.Test.YtmnheledelnbfaaGreatDoorQVD
import Derived.Test.YtmnheledelnbfaaGreatDoorQW4
set_option linter.all false
section
set_option maxRecDepth 100000
set_option maxHeartbeats 0
namespace Go.Am
open Go
noncomputable section
def c9 : SC := (.seq (.reg [oO 2 36 0,oO 3 27 1,oD 4 (.assign (.const (.slice none 0 0))),oI 5 0] [2,3,8,10,19,22,25,28,29,34,36,40,43,45,48,54]) (.seq (.reg [oF 11 27 3 2,oL 12 3 11,oK 13 .neq 3 12 5 3,oM 14 13,oW 14 true (oF 15 27 3 2),oW 14 true (oL 16 3 15),oW 14 true (oK 17 .neq 3 16 6 3),oQ 18 14 17 false] [2,3,8,10,13,14,17,18,19,22,25,28,29,34,36,40,43,45,48,54]) (.seq (.cond (.tmp 18) (.seq (.reg [oD 4 (.assign (.const (.slice none 0 0))),oI 5 5] [4,5,8,10,19,22,25,28,29,34,36,40,43,45,48,54]) .ret) .skip) (.seq (.reg [oL 20 36 2,oL 21 27 3,oC 22 36 #[.tmp 20,.tmp 21] #[36,27],oM 19 22,oX 23 19 0,oX 24 19 1,oX 25 19 2,oA 7 53,oG 6 23,oS 53 7 24,oG 8 25] [2,3,6,7,8,10,19,22,23,25,28,29,34,36,40,43,45,48,54]) (.seq (.reg [oM 26 8,oK 27 .neq 42 26 0 42] [2,3,6,7,8,10,19,22,23,25,27,28,29,34,36,40,43,45,48,54]) (.seq (.cond (.tmp 27) (.seq (.reg [oM 28 8,oD 4 (.assign (.const (.slice none 0 0))),oG 5 28] [4,5,8,10,19,22,25,28,29,34,36,40,43,45,48,54]) .ret) .skip) (.seq (.reg [oL 30 36 2,oL 31 53 7,oF 32 27 3 10,oL 33 23 32,oC 34 18 #[.tmp 30,.tmp 31,.tmp 33] #[36,53,23],oM 29 34,oX 35 29 0,oX 36 29 1,oA 9 53,oS 53 9 35,oG 10 36] [2,3,6,7,8,9,10,19,22,23,25,28,29,34,36,40,43,45,48,54]) (.seq (.reg [oF 37 27 3 2,oL 38 3 37,oK 39 .eql 3 38 6 3] [2,3,6,7,8,9,10,19,22,23,25,28,29,34,36,39,40,43,45,48,54]) (.seq (.cond (.tmp 39) (.seq (.reg [oL 41 36 2,oL 42 53 7,oC 43 22 #[.tmp 41,.tmp 42] #[36,53],oM 40 43,oX 44 40 0,oX 45 40 1,oS 53 9 44,oG 10 45] [3,6,8,9,10,19,22,23,25,28,29,34,36,40,43,45,48,54]) .skip) .skip) (.seq (.reg [oM 46 10,oK 47 .neq 42 46 0 42] [3,6,8,9,10,19,22,23,25,28,29,34,36,40,43,45,47,48,54]) (.seq (.cond (.tmp 47) (.seq (.reg [oM 48 10,oD 4 (.assign (.const (.slice none 0 0))),oG 5 48] [4,5,8,10,19,22,25,28,29,34,36,40,43,45,48,54]) .ret) .skip) (.seq (.reg [oM 49 6,oF 50 27 3 9,oL 51 3 50,oL 52 53 9,oC 53 37 #[.tmp 49,.tmp 51,.tmp 52] #[3,3,53],oD 54 (.buildSlice 22 1 #[(0,.tmp 53)]),oG 4 54,oI 5 0] [4,5,8,10,19,22,25,28,29,34,36,40,43,45,48,54]) .ret))))))))))))
theorem s9 : TextK Proofs.Tryz.prog 0 9 55 [ResultVar.tmp 4, ResultVar.tmp 5] c9 := .mk' Proofs.Tryz.f9 _ (by kernel_rfl) rfl rfl rfl (by kernel_rfl) rfl (by kernel_rfl)
def codeX : Option Er → Int
  | none => 0
  | some e => e.code'
theorem codeX_erO (x : Option Bad') : codeX (erO x) = codeO x := by cases x <;> rfl
theorem errE_c (x : Option Er) : ∃ v, errE x = .c v := by cases x <;> exact ⟨_, rfl⟩
theorem ofX_ok (x : Option Er) : ACall pg 10 [errE x] (I (codeX x)) := by
  cases x with
  | none => exact ofNil_ok
  | some e => exact of_ok e
theorem ckP_cases (o ids : List Int) : ckP o ids = none ∨ ∃ a b, ckP o ids = some (a, b, 18) := by
  unfold ckP
  split
  · exact .inr ⟨_, _, rfl⟩
  · cases (List.range ids.length).find? (ckBad o ids) with
    | none => exact .inl rfl
    | some i => exact .inr ⟨_, _, rfl⟩
theorem dsP_code (l : List Int) : ((dsP l).isSome = true ↔ ((l.length < 1 ∨ 7 < l.length) ∨ twB l = true)) ∧ ∀ b, dsP l = some b → b.2.2 = 18 := by
  unfold dsP twB
  split
  · rename_i h
    exact ⟨⟨fun _ => .inl h, fun _ => rfl⟩, fun b hb => by cases hb; rfl⟩
  · rename_i h
    cases hf : (List.range l.length).find? (dsBad l) with
    | none =>
      have : (List.range l.length).any (dsBad l) = false := by
        rw [List.any_eq_false]; intro x hx; have := List.find?_eq_none.1 hf x hx; simpa using this
      rw [this]
      exact ⟨⟨fun h => by simp at h, fun h2 => by rcases h2 with h2 | h2; exact absurd h2 h; cases h2⟩, fun b hb => by cases hb⟩
    | some i =>
      have : (List.range l.length).any (dsBad l) = true := by
        rw [List.any_eq_true]; exact ⟨i, List.mem_of_find?_eq_some hf, List.find?_some hf⟩
      rw [this]
      exact ⟨⟨fun _ => .inr rfl, fun _ => rfl⟩, fun b hb => by cases hb; rfl⟩
theorem start_two {m : Image} (h : m.Few) (p : Part) (t : List Int) : codeX (m.startE p t) = m.startC p t ∧ (m.startC p t = 0 → m.startE p t = none) := by
  have hck := ck_code h (minus t p.ids)
  by_cases h1 : 0 < (minus t p.ids).length ∧ refCk m (minus t p.ids) ≠ 0
  · rcases ckP_cases m.order (minus t p.ids) with hc | ⟨a, b, hc⟩
    · rw [hc] at hck; exact absurd hck.symm h1.2
    · have e1 : m.startE p t = (erO (ckP m.order (minus t p.ids))).map (.fault tgt t.length) := by unfold Image.startE; rw [if_pos ⟨by rw [hc]; rfl, h1.1⟩]
      have e2 : m.startC p t = 18 := by unfold Image.startC; rw [if_pos h1]
      rw [e1, e2, hc]
      exact ⟨rfl, fun h => by cases h⟩
  · have hN : ¬ ((ckP m.order (minus t p.ids)).isSome = true ∧ 0 < (minus t p.ids).length) := by
      rintro ⟨h6, h7⟩
      refine h1 ⟨h7, ?_⟩
      rw [← hck]
      rcases ckP_cases m.order (minus t p.ids) with hc | ⟨a, b, hc⟩
      · rw [hc] at h6; cases h6
      · rw [hc]; simp [codeO]
    have hd := dsP_code t
    by_cases h2 : (dsP t).isSome = true
    · have e1 : m.startE p t = erO (dsP t) := by unfold Image.startE; rw [if_neg hN, if_pos h2]
      have e2 : m.startC p t = 18 := by unfold Image.startC; rw [if_neg h1, if_pos (hd.1.1 h2)]
      obtain ⟨x, hx⟩ := Option.isSome_iff_exists.1 h2
      rw [e1, e2, hx]
      exact ⟨hd.2 x hx, fun h => by cases h⟩
    · have h2' : ¬ ((t.length < 1 ∨ 7 < t.length) ∨ twB t = true) := fun h => h2 (hd.1.2 h)
      by_cases h3 : p.under = true
      · have e1 : m.startE p t = erO (some (mvs, (p.add.length : Int), 10)) := by unfold Image.startE; rw [if_neg hN, if_neg h2, if_pos h3]
        have e2 : m.startC p t = 10 := by unfold Image.startC; rw [if_neg h1, if_neg h2', if_pos h3]
        rw [e1, e2]; exact ⟨rfl, fun h => by cases h⟩
      · by_cases h4 : p.ids = t
        · have e1 : m.startE p t = erO (some (tgt, (t.length : Int), 9)) := by unfold Image.startE; rw [if_neg hN, if_neg h2, if_neg h3, if_pos h4]
          have e2 : m.startC p t = 9 := by unfold Image.startC; rw [if_neg h1, if_neg h2', if_neg h3, if_pos h4]
          rw [e1, e2]; exact ⟨rfl, fun h => by cases h⟩
        · by_cases h5 : 7 < t.length + (minus p.ids t).length
          · have e1 : m.startE p t = erO (some (tgt, ((t.length + (minus p.ids t).length : Nat) : Int), 6)) := by unfold Image.startE; rw [if_neg hN, if_neg h2, if_neg h3, if_neg h4, if_pos h5]
            have e2 : m.startC p t = 6 := by unfold Image.startC; rw [if_neg h1, if_neg h2', if_neg h3, if_neg h4, if_pos h5]
            rw [e1, e2]; exact ⟨rfl, fun h => by cases h⟩
          · have e1 : m.startE p t = none := by unfold Image.startE; rw [if_neg hN, if_neg h2, if_neg h3, if_neg h4, if_neg h5]
            have e2 : m.startC p t = 0 := by unfold Image.startC; rw [if_neg h1, if_neg h2', if_neg h3, if_neg h4, if_neg h5]
            rw [e1, e2]; exact ⟨rfl, fun _ => rfl⟩
theorem startC_eq {m : Image} (h : m.Few) (p : Part) (t : List Int) : codeX (m.startE p t) = m.startC p t := (start_two h p t).1
theorem startC_none {m : Image} (h : m.Few) (p : Part) (t : List Int) : m.startC p t = 0 ↔ m.startE p t = none :=
  ⟨(start_two h p t).2, fun h0 => by rw [← startC_eq h, h0]; rfl⟩
theorem rstart_at {m : Image} {n : Nat} (h : MadeOk m n) (hn : n ≤ 90) (hf : m.Few) {p : Part} (hw : p.Rows n) (t : List Int) (ht : t.length ≤ 1000) : ACall pg 18 [encM m, encP p, Li t] (.tup [encP (m.startP p t), I (codeX (m.startE p t))]) := by
  have hs := rStart_ok m p t (small_of hw) ht (by have := brokersB_get hw.ids; omega)
  rw [startC_eq hf]
  have e : m.startP p t = if m.startC p t = 0 then p.sent t else p := by
    unfold Image.startP
    by_cases h0 : m.startC p t = 0
    · rw [if_pos h0, (startC_none hf p t).1 h0]; rfl
    · rw [if_neg h0]
      cases hx : m.startE p t with
      | none => exact absurd ((startC_none hf p t).2 hx) h0
      | some e => rfl
  rw [e]; exact hs
theorem few_of {m : Image} {n : Nat} (h : m.Inv n) (hn : n ≤ 90) : m.Few := by
  refine ⟨by have := h.bl; omega, fun b hb => by have := h.br b hb; omega, ?_⟩
  have hb := h.bs
  have : (m.brokers.map Broker.id).Pairwise (· < ·) := by
    rw [List.pairwise_map]
    exact hb
  exact this.imp (fun h => by omega)
theorem rdo_ok (m : Image) (q : Req) (hl : m.topics.length ≤ 1000000) (hp : ∀ t ∈ m.topics, t.parts.length ≤ 1000000)
    (hst : m.atE q = none → ACall pg 18 [encM m, encP (m.atP q), Li q.ids] (.tup [encP (m.startP (m.atP q) q.ids), I (codeX (m.startE (m.atP q) q.ids))]))
    (hcn : m.atE q = none → ACall pg 22 [encM m, encP (m.atP q)] (.tup [encP (m.cancelP (m.atP q)), I (codeO (m.cancelE (m.atP q)))]))
    (hs0 : codeX (m.startE (m.atP q) q.ids) = 0 → m.startE (m.atP q) q.ids = none) (hk : m.atE q = none → 0 ≤ q.part) :
    ACall pg 9 [encM m, encQ q] (.tup [.sl ((m.doL q).map encR), I (codeX (m.doE q))]) := by
  refine s9.call mo (by simp) fun hxs => ?_
  clear hxs
  have hw := rwhere_ok m q hl hp
  unfold c9; dsimp only [oA, oC, oD, oF, oG, oI, oK, oL, oM, oO, oQ, oS, oW, oX]
  by_cases h1 : q.kind ≠ 5 ∧ q.kind ≠ 6
  · have e : m.doE q = erO (some (bs [107, 105, 110, 100], q.kind, 5)) := by unfold Image.doE; rw [if_pos h1]
    have e2 : m.doL q = [] := by unfold Image.doL; rw [e]; rfl
    rw [e, e2, codeX_erO]
    have q1 : (q.kind != 5) = true := by simpa using h1.1
    have q2 : (q.kind != 6) = true := by simpa using h1.2
    clear hst hcn hs0 hk e e2
    repeat' first | (with_reducible first | refine fS ?_ | refine fR ?_ | refine fQ ?_ | refine fT ?_ | refine awRet ?_) | ((with_reducible refine awReg fun K hok hK => ?_); clear hok; (try simp (maxSteps := 10000000) (disch := first | omega | simp) [q1, q2]); (repeat' first | (with_reducible refine hK _ (by simp) ?_)) <;> clear hK K) | ((with_reducible refine awCond fun A B hA hB => ?_); simp (maxSteps := 10000000) (disch := first | omega | simp) [q1, q2]; (first | refine ⟨fun h => hA ?_, fun h => hB ?_⟩ | refine hA ?_ | refine hB ?_) <;> (clear hA hB A B; (try (exfalso; omega))))
    all_goals (refine aEnR (aRes [true] fun K hK => ?_); simp (maxSteps := 10000000) (disch := first | omega | simp) [codeO]; refine hK _ ?_ (by simp); clear hK; first | done | (simp (maxSteps := 10000000) (disch := first | omega | simp) [codeO, *]; done) | (simp (maxSteps := 10000000) (disch := first | omega | simp) [codeO, *]; omega) | (simp_all [codeO]; done) | (simp_all [codeO]; omega))
  have h1' : q.kind = 5 ∨ q.kind = 6 := by omega
  cases h2 : m.atE q with
  | some b =>
    have e : m.doE q = erO (some b) := by unfold Image.doE; rw [if_neg h1, h2, if_pos (by rfl)]
    have e2 : m.doL q = [] := by unfold Image.doL; rw [e]; rfl
    have hb : b.2.2 = 8 := by
      unfold Image.atE at h2
      split at h2
      · cases h2; rfl
      · split at h2
        · cases h2; rfl
        · cases h2
    rw [e, e2, codeX_erO]
    rw [h2] at hw
    simp only [codeO, hb] at hw ⊢
    clear hst hcn hs0 hk e e2
    by_cases h3 : q.kind = 5
    · have q1 : (q.kind != 5) = false := by simp [h3]
      repeat' first | (with_reducible first | refine fS ?_ | refine fR ?_ | refine fQ ?_ | refine fT ?_ | refine awRet ?_) | ((with_reducible refine awReg fun K hok hK => ?_); clear hok; (try simp (maxSteps := 10000000) (disch := first | omega | simp) [q1]); (repeat' first | (with_reducible refine hK _ (by simp) ?_) | ((with_reducible refine callF' fun K2 hK2 => ?_); (try simp (maxSteps := 10000000) (disch := first | omega | simp) [q1]); (refine hK2 _ _ _ hw fun _ => ?_); clear hK2 K2; (try simp (maxSteps := 10000000) (disch := first | omega | simp) [q1]))) <;> clear hK K) | ((with_reducible refine awCond fun A B hA hB => ?_); simp (maxSteps := 10000000) (disch := first | omega | simp) [q1]; (first | refine ⟨fun h => hA ?_, fun h => hB ?_⟩ | refine hA ?_ | refine hB ?_) <;> (clear hA hB A B; (try (exfalso; omega))))
      all_goals (refine aEnR (aRes [true] fun K hK => ?_); simp (maxSteps := 10000000) (disch := first | omega | simp) []; refine hK _ ?_ (by simp); clear hK; first | done | (simp (maxSteps := 10000000) (disch := first | omega | simp) [*]; done) | (simp (maxSteps := 10000000) (disch := first | omega | simp) [*]; omega) | (simp_all []; done) | (simp_all []; omega))
    · have q1 : (q.kind != 5) = true := by simpa using h3
      have q2 : (q.kind != 6) = false := by rcases h1' with h1 | h1 <;> simp [h1]; exact absurd h1 h3
      repeat' first | (with_reducible first | refine fS ?_ | refine fR ?_ | refine fQ ?_ | refine fT ?_ | refine awRet ?_) | ((with_reducible refine awReg fun K hok hK => ?_); clear hok; (try simp (maxSteps := 10000000) (disch := first | omega | simp) [q1, q2]); (repeat' first | (with_reducible refine hK _ (by simp) ?_) | ((with_reducible refine callF' fun K2 hK2 => ?_); (try simp (maxSteps := 10000000) (disch := first | omega | simp) [q1, q2]); (refine hK2 _ _ _ hw fun _ => ?_); clear hK2 K2; (try simp (maxSteps := 10000000) (disch := first | omega | simp) [q1, q2]))) <;> clear hK K) | ((with_reducible refine awCond fun A B hA hB => ?_); simp (maxSteps := 10000000) (disch := first | omega | simp) [q1, q2]; (first | refine ⟨fun h => hA ?_, fun h => hB ?_⟩ | refine hA ?_ | refine hB ?_) <;> (clear hA hB A B; (try (exfalso; omega))))
      all_goals (refine aEnR (aRes [true] fun K hK => ?_); simp (maxSteps := 10000000) (disch := first | omega | simp) []; refine hK _ ?_ (by simp); clear hK; first | done | (simp (maxSteps := 10000000) (disch := first | omega | simp) [*]; done) | (simp (maxSteps := 10000000) (disch := first | omega | simp) [*]; omega) | (simp_all []; done) | (simp_all []; omega))
  | none =>
    obtain ⟨k, hk⟩ := Int.eq_ofNat_of_zero_le (hk h2)
    replace hst := hst h2
    replace hcn := hcn h2
    rw [h2] at hw
    simp only [codeO] at hw
    simp only [encQ_eq, hk] at hw
    rcases h1' with h5 | h6
    · have e : m.doE q = m.startE (m.atP q) q.ids := by unfold Image.doE; rw [if_neg h1, h2, if_neg (by simp), if_pos h5]
      have e3 : m.doP q = m.startP (m.atP q) q.ids := by unfold Image.doP; rw [if_pos h5]
      have q1 : (q.kind != 5) = false := by simp [h5]
      have q2 : (q.kind == 6) = false := by simp [h5]
      rw [e]
      cases hx : m.startE (m.atP q) q.ids with
      | some er =>
        have e2 : m.doL q = [] := by unfold Image.doL; rw [e, hx]; rfl
        rw [e2]
        have hne : codeX (some er) ≠ 0 := fun h => by rw [← hx] at h; have := hs0 h; rw [hx] at this; cases this
        rw [hx] at hst
        clear e e2 e3 hs0 hx hcn
        generalize codeX (some er) = cx at *
        generalize m.startP (m.atP q) q.ids = sp at *
        generalize m.atI q = ti at *
        generalize m.atP q = tp at *
        repeat' first | (with_reducible first | refine fS ?_ | refine fR ?_ | refine fQ ?_ | refine fT ?_ | refine awRet ?_) | ((with_reducible refine awReg fun K hok hK => ?_); clear hok; (try simp (maxSteps := 10000000) (disch := first | omega | simp) [q1, q2, hk, hne]); (repeat' first | (with_reducible refine hK _ (by simp) ?_) | ((with_reducible refine callF' fun K2 hK2 => ?_); (try simp (maxSteps := 10000000) (disch := first | omega | simp) [q1, q2, hk, hne]); (first | refine hK2 _ _ _ hw fun _ => ?_ | refine hK2 _ _ _ hst fun _ => ?_); clear hK2 K2; (try simp (maxSteps := 10000000) (disch := first | omega | simp) [q1, q2, hk, hne]))) <;> clear hK K) | ((with_reducible refine awCond fun A B hA hB => ?_); simp (maxSteps := 10000000) (disch := first | omega | simp) [q1, q2, hk, hne]; (first | refine ⟨fun h => hA ?_, fun h => hB ?_⟩ | refine hA ?_ | refine hB ?_) <;> (clear hA hB A B; (try (exfalso; omega))))
        all_goals (refine aEnR (aRes [true] fun K hK => ?_); simp (maxSteps := 10000000) (disch := first | omega | simp) []; refine hK _ ?_ (by simp); clear hK; first | done | (simp (maxSteps := 10000000) (disch := first | omega | simp) [*]; done) | (simp (maxSteps := 10000000) (disch := first | omega | simp) [*]; omega) | (simp_all []; done) | (simp_all []; omega))
      | none =>
        have e2 : m.doL q = [change (m.atI q) k (m.startP (m.atP q) q.ids)] := by unfold Image.doL; rw [e, hx, e3, hk]; rfl
        rw [e2]
        have hch := rchange_ok (m.atI q) k (m.startP (m.atP q) q.ids)
        rw [hx] at hst
        simp only [codeX] at hst ⊢
        clear e e2 e3 hs0 hx hcn
        generalize m.startP (m.atP q) q.ids = sp at *
        generalize m.atI q = ti at *
        generalize m.atP q = tp at *
        repeat' first | (with_reducible first | refine fS ?_ | refine fR ?_ | refine fQ ?_ | refine fT ?_ | refine awRet ?_) | ((with_reducible refine awReg fun K hok hK => ?_); clear hok; (try simp (maxSteps := 10000000) (disch := first | omega | simp) [q1, q2, hk]); (repeat' first | (with_reducible refine hK _ (by simp) ?_) | ((with_reducible refine callF' fun K2 hK2 => ?_); (try simp (maxSteps := 10000000) (disch := first | omega | simp) [q1, q2, hk]); (first | refine hK2 _ _ _ hw fun _ => ?_ | refine hK2 _ _ _ hst fun _ => ?_ | refine hK2 _ _ _ hch fun _ => ?_); clear hK2 K2; (try simp (maxSteps := 10000000) (disch := first | omega | simp) [q1, q2, hk]))) <;> clear hK K) | ((with_reducible refine awCond fun A B hA hB => ?_); simp (maxSteps := 10000000) (disch := first | omega | simp) [q1, q2, hk]; (first | refine ⟨fun h => hA ?_, fun h => hB ?_⟩ | refine hA ?_ | refine hB ?_) <;> (clear hA hB A B; (try (exfalso; omega))))
        all_goals (refine aEnR (aRes [true] fun K hK => ?_); simp (maxSteps := 10000000) (disch := first | omega | simp) []; refine hK _ ?_ (by simp); clear hK; first | done | (simp (maxSteps := 10000000) (disch := first | omega | simp) [*]; done) | (simp (maxSteps := 10000000) (disch := first | omega | simp) [*]; omega) | (simp_all []; done) | (simp_all []; omega))
    · have e : m.doE q = erO (m.cancelE (m.atP q)) := by unfold Image.doE; rw [if_neg h1, h2, if_neg (by simp), if_neg (by omega)]
      have e3 : m.doP q = m.cancelP (m.atP q) := by unfold Image.doP; rw [if_neg (by omega)]
      have q1 : (q.kind != 5) = true := by simp [h6]
      have q3 : (q.kind != 6) = false := by simp [h6]
      have q2 : (q.kind == 6) = true := by simp [h6]
      rw [e, codeX_erO]
      generalize codeX (m.startE (m.atP q) q.ids) = cs at *
      generalize m.startP (m.atP q) q.ids = ss at *
      cases hx : m.cancelE (m.atP q) with
      | some b =>
        have e2 : m.doL q = [] := by unfold Image.doL; rw [e, hx]; rfl
        rw [e2]
        have hne : codeO (some b) ≠ 0 := by
          unfold Image.cancelE at hx
          split at hx
          · cases hx; simp [codeO]
          · split at hx
            · cases hx; simp [codeO]
            · cases hx
        rw [hx] at hcn
        clear e e2 e3 hs0 hx
        generalize codeO (some b) = cx at *
        generalize m.cancelP (m.atP q) = sp at *
        generalize m.atI q = ti at *
        generalize m.atP q = tp at *
        repeat' first | (with_reducible first | refine fS ?_ | refine fR ?_ | refine fQ ?_ | refine fT ?_ | refine awRet ?_) | ((with_reducible refine awReg fun K hok hK => ?_); clear hok; (try simp (maxSteps := 10000000) (disch := first | omega | simp) [q1, q2, q3, hk, hne]); (repeat' first | (with_reducible refine hK _ (by simp) ?_) | ((with_reducible refine callF' fun K2 hK2 => ?_); (try simp (maxSteps := 10000000) (disch := first | omega | simp) [q1, q2, q3, hk, hne]); (first | refine hK2 _ _ _ hw fun _ => ?_ | refine hK2 _ _ _ hst fun _ => ?_ | refine hK2 _ _ _ hcn fun _ => ?_); clear hK2 K2; (try simp (maxSteps := 10000000) (disch := first | omega | simp) [q1, q2, q3, hk, hne]))) <;> clear hK K) | ((with_reducible refine awCond fun A B hA hB => ?_); simp (maxSteps := 10000000) (disch := first | omega | simp) [q1, q2, q3, hk, hne]; (first | refine ⟨fun h => hA ?_, fun h => hB ?_⟩ | refine hA ?_ | refine hB ?_) <;> (clear hA hB A B; (try (exfalso; omega))))
        all_goals (refine aEnR (aRes [true] fun K hK => ?_); simp (maxSteps := 10000000) (disch := first | omega | simp) []; refine hK _ ?_ (by simp); clear hK; first | done | (simp (maxSteps := 10000000) (disch := first | omega | simp) [*]; done) | (simp (maxSteps := 10000000) (disch := first | omega | simp) [*]; omega) | (simp_all []; done) | (simp_all []; omega))
      | none =>
        have e2 : m.doL q = [change (m.atI q) k (m.cancelP (m.atP q))] := by unfold Image.doL; rw [e, hx, e3, hk]; rfl
        rw [e2]
        have hch := rchange_ok (m.atI q) k (m.cancelP (m.atP q))
        rw [hx] at hcn
        simp only [codeO] at hcn ⊢
        clear e e2 e3 hs0 hx
        generalize m.cancelP (m.atP q) = sp at *
        generalize m.atI q = ti at *
        generalize m.atP q = tp at *
        repeat' first | (with_reducible first | refine fS ?_ | refine fR ?_ | refine fQ ?_ | refine fT ?_ | refine awRet ?_) | ((with_reducible refine awReg fun K hok hK => ?_); clear hok; (try simp (maxSteps := 10000000) (disch := first | omega | simp) [q1, q2, q3, hk]); (repeat' first | (with_reducible refine hK _ (by simp) ?_) | ((with_reducible refine callF' fun K2 hK2 => ?_); (try simp (maxSteps := 10000000) (disch := first | omega | simp) [q1, q2, q3, hk]); (first | refine hK2 _ _ _ hw fun _ => ?_ | refine hK2 _ _ _ hst fun _ => ?_ | refine hK2 _ _ _ hcn fun _ => ?_ | refine hK2 _ _ _ hch fun _ => ?_); clear hK2 K2; (try simp (maxSteps := 10000000) (disch := first | omega | simp) [q1, q2, q3, hk]))) <;> clear hK K) | ((with_reducible refine awCond fun A B hA hB => ?_); simp (maxSteps := 10000000) (disch := first | omega | simp) [q1, q2, q3, hk]; (first | refine ⟨fun h => hA ?_, fun h => hB ?_⟩ | refine hA ?_ | refine hB ?_) <;> (clear hA hB A B; (try (exfalso; omega))))
        all_goals (refine aEnR (aRes [true] fun K hK => ?_); simp (maxSteps := 10000000) (disch := first | omega | simp) []; refine hK _ ?_ (by simp); clear hK; first | done | (simp (maxSteps := 10000000) (disch := first | omega | simp) [*]; done) | (simp (maxSteps := 10000000) (disch := first | omega | simp) [*]; omega) | (simp_all []; done) | (simp_all []; omega))
end
end Go.Am
end
section
set_option maxRecDepth 100000
set_option maxHeartbeats 0
namespace Go.Am
open Go
noncomputable section
def c3 : SC := (.seq (.reg [oO 7 27 3,oZ 8 false] [0,1,2,7,43,93,169,170,178,179,180,181,182]) (.seq (.reg [oM 30 0,oC 31 4 #[.tmp 30] #[22],oD 32 (.unOp .not 4 (.tmp 31)),oM 33 32,oW 33 false (oM 34 2),oW 33 false (oN 35 34 23),oW 33 false (oK 36 .gtr 3 35 60 3),oR 37 33 true 36,oM 38 37,oW 38 false (oL 39 27 7),oW 38 false (oC 40 5 #[.tmp 39] #[27]),oW 38 false (oD 41 (.unOp .not 4 (.tmp 40))),oR 42 38 true 41] [0,1,2,7,32,33,36,37,38,41,42,43,93,169,170,178,179,180,181,182]) (.seq (.cond (.tmp 42) (.seq (.reg [oC 43 6 #[] #[],oG 8 43] [8,43,93,169,170,178,179,180,181,182]) .ret) .skip) (.seq (.reg [oM 44 0,oC 45 7 #[.tmp 44] #[22],oA 9 36,oS 36 9 45] [1,2,7,9,43,93,169,170,178,179,180,181,182]) (.seq (.reg [oL 47 36 9,oL 48 27 7,oC 49 8 #[.tmp 47,.tmp 48] #[36,27],oM 46 49,oX 50 46 0,oX 51 46 1,oG 10 50,oG 11 51] [1,2,7,9,10,11,43,46,49,50,51,93,169,170,178,179,180,181,182]) (.seq (.reg [oL 53 36 9,oL 54 27 7,oC 55 9 #[.tmp 53,.tmp 54] #[36,27],oM 52 55,oX 56 52 0,oX 57 52 1,oG 12 56,oG 13 57] [1,2,9,10,11,12,13,43,46,49,50,51,52,55,56,57,93,169,170,178,179,180,181,182]) (.seq (.reg [oU (oM 58 11) [60],oU (oC 59 10 #[.tmp 58] #[39]) [60],oU (oM 60 13) [58,59],oB 61 .neq 42 59 60 42,oM 62 61,oU (oW 62 false (oM 63 10)) [64],oU (oW 62 false (oM 64 12)) [63],oW 62 false (oC 65 11 #[.tmp 63,.tmp 64] #[22,22]),oW 62 false (oD 66 (.unOp .not 4 (.tmp 65))),oR 67 62 true 66,oM 68 67,oU (oW 68 false (oL 69 36 9)) [71],oU (oW 68 false (oC 70 12 #[.tmp 69] #[36])) [71],oU (oW 68 false (oL 71 36 9)) [69,70],oW 68 false (oC 72 13 #[.tmp 71] #[36]),oW 68 false (oC 73 11 #[.tmp 70,.tmp 72] #[22,22]),oW 68 false (oD 74 (.unOp .not 4 (.tmp 73))),oR 75 68 true 74,oM 76 75,oU (oW 76 false (oL 77 36 9)) [79],oU (oW 76 false (oC 78 14 #[.tmp 77] #[36])) [79],oU (oW 76 false (oL 79 36 9)) [77,78],oW 76 false (oC 80 15 #[.tmp 79] #[36]),oW 76 false (oB 81 .neq 3 78 80 3),oR 82 76 true 81] [1,2,9,43,61,62,66,67,68,74,75,76,81,82,93,169,170,178,179,180,181,182]) (.seq (.cond (.tmp 82) (.seq (.reg [oZ 8 false] [8,43,93,169,170,178,179,180,181,182]) .ret) .skip) (.seq (.reg [oL 84 36 9,oM 85 1,oC 86 16 #[.tmp 84,.tmp 85] #[36,3],oM 83 86,oX 87 83 0,oX 88 83 1,oX 89 83 2,oX 90 83 3,oA 14 51,oA 16 53,oS 51 14 87,oG 15 88,oS 53 16 89,oG 17 90] [2,9,16,17,43,83,86,90,93,169,170,178,179,180,181,182]) (.seq (.reg [oM 91 17,oD 92 (.unOp .not 4 (.tmp 91))] [2,9,16,43,92,93,169,170,178,179,180,181,182]) (.seq (.cond (.tmp 92) (.seq (.reg [oC 93 6 #[] #[],oG 8 93] [8,43,93,169,170,178,179,180,181,182]) .ret) .skip) (.seq (.reg [oL 95 36 9,oL 96 53 16,oM 97 2,oC 98 17 #[.tmp 95,.tmp 96,.tmp 97] #[36,53,23],oM 94 98,oX 99 94 0,oX 100 94 1,oA 18 53,oS 53 18 99,oG 19 100] [2,9,16,18,19,43,93,94,98,100,169,170,178,179,180,181,182]) (.seq (.reg [oL 102 36 9,oL 103 53 16,oM 104 2,oC 105 18 #[.tmp 102,.tmp 103,.tmp 104] #[36,53,23],oM 101 105,oX 106 101 0,oX 107 101 1,oA 20 53,oS 53 20 106,oG 21 107] [9,16,18,19,20,21,43,93,94,98,100,101,105,107,169,170,178,179,180,181,182]) (.seq (.reg [oL 109 36 9,oL 110 53 16,oC 111 19 #[.tmp 109,.tmp 110] #[36,53],oM 108 111,oX 112 108 0,oX 113 108 1,oA 22 53,oS 53 22 112,oG 23 113] [9,16,18,19,20,21,22,23,43,93,94,98,100,101,105,107,108,111,113,169,170,178,179,180,181,182]) (.seq (.reg [oL 115 36 9,oL 116 53 16,oC 117 20 #[.tmp 115,.tmp 116] #[36,53],oM 114 117,oX 118 114 0,oX 119 114 1,oA 24 53,oS 53 24 118,oG 25 119] [9,16,18,19,20,21,22,23,24,25,43,93,94,98,100,101,105,107,108,111,113,114,117,119,169,170,178,179,180,181,182]) (.seq (.reg [oL 121 36 9,oL 122 53 16,oC 123 21 #[.tmp 121,.tmp 122] #[36,53],oM 120 123,oX 124 120 0,oX 125 120 1,oA 26 53,oS 53 26 124,oG 27 125] [9,16,18,19,20,21,22,23,24,25,26,27,43,93,94,98,100,101,105,107,108,111,113,114,117,119,120,123,125,169,170,178,179,180,181,182]) (.seq (.reg [oL 127 36 9,oL 128 53 16,oC 129 22 #[.tmp 127,.tmp 128] #[36,53],oM 126 129,oX 130 126 0,oX 131 126 1,oA 28 53,oS 53 28 130,oG 29 131] [16,18,19,20,21,22,23,24,25,26,27,28,29,43,93,94,98,100,101,105,107,108,111,113,114,117,119,120,123,125,126,129,131,169,170,178,179,180,181,182]) (.seq (.reg [oM 132 19,oC 133 10 #[.tmp 132] #[39],oM 134 21,oB 135 .neq 42 133 134 42,oM 136 135,oW 136 false (oM 137 23),oW 136 false (oM 138 25),oW 136 false (oB 139 .neq 4 137 138 4),oR 140 136 true 139,oM 141 140,oW 141 false (oM 142 27),oW 141 false (oC 143 10 #[.tmp 142] #[39]),oW 141 false (oM 144 29),oW 141 false (oB 145 .neq 42 143 144 42),oR 146 141 true 145,oM 147 146,oW 147 false (oL 148 53 18),oW 147 false (oL 149 53 20),oW 147 false (oC 150 23 #[.tmp 148,.tmp 149] #[53,53]),oW 147 false (oD 151 (.unOp .not 4 (.tmp 150))),oR 152 147 true 151,oM 153 152,oW 153 false (oL 154 53 22),oW 153 false (oL 155 53 24),oW 153 false (oC 156 23 #[.tmp 154,.tmp 155] #[53,53]),oW 153 false (oD 157 (.unOp .not 4 (.tmp 156))),oR 158 153 true 157,oM 159 158,oW 159 false (oL 160 53 26),oW 159 false (oL 161 53 28),oW 159 false (oC 162 23 #[.tmp 160,.tmp 161] #[53,53]),oW 159 false (oD 163 (.unOp .not 4 (.tmp 162))),oR 164 159 true 163] [16,43,93,135,136,139,140,141,145,146,147,151,152,153,157,158,159,163,164,169,170,178,179,180,181,182]) (.seq (.cond (.tmp 164) (.seq (.reg [oZ 8 false] [8,43,93,169,170,178,179,180,181,182]) .ret) .skip) (.seq (.reg [oU (oL 165 53 16) [167],oU (oC 166 24 #[.tmp 165] #[53]) [167],oU (oL 167 53 16) [165,166],oC 168 25 #[.tmp 167] #[53],oB 169 .eql 4 166 168 4,oM 170 169,oU (oW 170 true (oL 171 53 16)) [173,174,175,176],oU (oW 170 true (oC 172 27 #[.tmp 171] #[53])) [173,174,175,176],oU (oW 170 true (oF 173 53 16 0)) [171,172,175,176],oU (oW 170 true (oL 174 23 173)) [171,172,175,176],oU (oW 170 true (oF 175 53 16 5)) [171,172,173,174],oU (oW 170 true (oL 176 23 175)) [171,172,173,174],oW 170 true (oC 177 28 #[.tmp 174,.tmp 176] #[23,23]),oW 170 true (oC 178 26 #[.tmp 172,.tmp 177] #[23,23]),oQ 179 170 178 false,oM 180 179,oW 180 true (oC 181 6 #[] #[]),oQ 182 180 181 false,oG 8 182] [8,43,93,169,170,178,179,180,181,182]) .ret))))))))))))))))))))
theorem s3 : TextK Proofs.Tryz.prog 0 3 183 [ResultVar.tmp 8] c3 := .mk' Proofs.Tryz.f3 _ (by kernel_rfl) rfl rfl rfl (by kernel_rfl) rfl (by kernel_rfl)
theorem small_do {m : Image} {n : Nat} (hok : MadeOk m n) (hn : n ≤ 80) {p : Part} (hr : m.Right p) (hw : p.Rows n) (t : List Int) : (m.startP p t).Small ∧ (m.cancelP p).Small := by
  constructor
  · unfold Image.startP
    cases hse : m.startE p t with
    | some e => exact small_of hw
    | none => exact small_of (sent_next hok.inv (by omega) hr hw (start_ok hse)).rows
  · unfold Image.cancelP
    cases hse : m.cancelE p with
    | some e => exact small_of hw
    | none =>
      have hun : p.under = true ∧ (m.settle p p.add).2 = true := by
        unfold Image.cancelE at hse
        split at hse
        · cases hse
        · split at hse
          · cases hse
          · exact ⟨by simpa using ‹¬ p.under = false›, by simpa using ‹¬ (m.settle p p.add).2 = false›⟩
      exact small_of (settled_next (by omega) hr hw (settled hun.2)).rows
theorem do_full {m : Image} {n : Nat} (hok : MadeOk m n) (hn : n ≤ 80) (q : Req) (hq : q.ids.length ≤ 1000) :
    ACall pg 8 [encM m, encQ q] (.tup [.sl ((m.doL q).map encR), errE (m.doE q)]) := by
  have hmt := hok.pre.tl
  have hmp : ∀ t ∈ m.topics, t.parts.length ≤ 1000000 := fun t ht => by have := hok.pre.pl t ht; omega
  by_cases h1 : q.kind ≠ 5 ∧ q.kind ≠ 6
  · exact do_a m q h1
  have h1' : q.kind = 5 ∨ q.kind = 6 := by omega
  cases h2 : m.atE q with
  | some b => exact do_b m q h1' h2 (by omega) hmp
  | none =>
    obtain ⟨t, k, p, hat, htm, hkp, hqk⟩ := at_get h2
    obtain ⟨hkl, hpm, _, _⟩ := parts_mid hkp
    have hpr := hok.inv.pr t htm p hpm
    have haP : m.atP q = p := by unfold Image.atP; rw [hat]
    have hsm := small_do hok hn hpr.1 hpr.2 q.ids
    have hpw : p.Rows 1000000 := ⟨hpr.2.ids, hpr.2.isr, hpr.2.add, hpr.2.drop, by have := hpr.2.ep; omega, hpr.2.le⟩
    rcases h1' with h5 | h6
    · exact do_c m q h5 h2 (by omega) hmp (by rw [haP]; exact start_at hok (by omega) hpr.2 q.ids (by omega)) (by rw [haP]; exact hsm.1) (by omega)
    · exact do_d m q h6 h2 (by omega) hmp (by rw [haP]; exact cancel_at hok hpw) (by rw [haP]; exact hsm.2) (by omega)
theorem zero_ids {p : Part} {n : Nat} (h : p.Rows n) : ∀ x ∈ p.ids, x ≠ 0 := fun x hx => by have := (brokersB_get h.ids).2.1 x hx; omega
theorem rdo_full {m : Image} {n : Nat} (hok : MadeOk m n) (hn : n ≤ 80) (q : Req) (hq : q.ids.length ≤ 1000) :
    ACall pg 9 [encM m, encQ q] (.tup [.sl ((m.doL q).map encR), I (codeX (m.doE q))]) := by
  have hmt := hok.pre.tl
  have hf := few_of hok.inv (by omega)
  have hat : m.atE q = none → (m.atP q).Rows n ∧ 0 ≤ q.part := fun h2 => by
    obtain ⟨t, k, p, hat, htm, hkp, hqk⟩ := at_get h2
    obtain ⟨hkl, hpm, _, _⟩ := parts_mid hkp
    have haP : m.atP q = p := by unfold Image.atP; rw [hat]
    rw [haP]
    exact ⟨(hok.inv.pr t htm p hpm).2, by omega⟩
  refine rdo_ok m q (by omega) (fun t ht => by have := hok.pre.pl t ht; omega) (fun h2 => rstart_at hok (by omega) hf (hat h2).1 q.ids hq)
    (fun h2 => rcancel_ok m _ (small_of (hat h2).1) (zero_ids (hat h2).1) (by have := (hat h2).1.ep; omega)) (fun h0 => (startC_none hf _ _).1 (by rw [← startC_eq hf]; exact h0)) (fun h2 => (hat h2).2)
theorem does_walk (l : List Record) (n : Int) (t : List Int) (q : Req) : ACall pg 3 [.sl (l.map encR), I n, Li t, encQ q] (B true) := by
  refine s3.call mo (by simp) fun hxs => ?_
  clear hxs
  have hsq := short_ok q
  unfold c3; dsimp only [oA, oB, oC, oD, oF, oG, oK, oL, oM, oN, oO, oQ, oR, oS, oU, oW, oX, oZ]
  by_cases hl : l.length ≤ 80
  · by_cases ht : 60 < (t.length : Int)
    · repeat' first | (with_reducible first | refine fS ?_ | refine fR ?_ | refine fQ ?_ | refine fT ?_ | refine awRet ?_) | ((with_reducible refine awReg fun K hok hK => ?_); clear hok; (try simp (maxSteps := 10000000) (disch := first | omega | simp) [hl, ht]); (repeat' first | (with_reducible refine hK _ (by simp) ?_) | ((first | ((with_reducible refine callS' fun K2 hK2 => ?_); (try simp (maxSteps := 10000000) (disch := first | omega | simp) [hl, ht]); (first | refine hK2 _ _ (mlight_ok l) rfl fun hk9 => ?_ | refine hK2 _ _ hsq rfl fun hk9 => ?_ | refine hK2 _ _ mworks_ok rfl fun hk9 => ?_); clear hk9; clear hK2 K2) | ((with_reducible refine callF' fun K2 hK2 => ?_); (try simp (maxSteps := 10000000) (disch := first | omega | simp) [hl, ht]); (first | refine hK2 _ _ _ (mlight_ok l) fun _ => ?_ | refine hK2 _ _ _ hsq fun _ => ?_ | refine hK2 _ _ _ mworks_ok fun _ => ?_); clear hK2 K2) | ((with_reducible refine sideS' fun K2 hK2 => ?_); (try simp (maxSteps := 10000000) (disch := first | omega | simp) [hl, ht]); (first | refine hK2 _ _ (mlight_ok l) rfl ?_ | refine hK2 _ _ (hsq) rfl ?_ | refine hK2 _ _ (mworks_ok) rfl ?_); clear hK2 K2) | ((with_reducible refine sideF' fun K2 hK2 => ?_); (try simp (maxSteps := 10000000) (disch := first | omega | simp) [hl, ht]); (first | refine hK2 _ _ _ (mlight_ok l) (by simp) ?_ | refine hK2 _ _ _ hsq (by simp) ?_ | refine hK2 _ _ _ mworks_ok (by simp) ?_); clear hK2 K2) | ((with_reducible refine gdU ?_)) | ((with_reducible refine sideQ' ?_ ?_ fun K2 hK2 => ?_); exact rfl; exact rfl; (try simp (maxSteps := 10000000) (disch := first | omega | simp) [hl, ht]); with_reducible refine hK2 _ _ ?_; clear hK2 K2)); (try simp (maxSteps := 10000000) (disch := first | omega | simp) [hl, ht]))) <;> clear hK K) | ((with_reducible refine awCond fun A B hA hB => ?_); simp (maxSteps := 10000000) (disch := first | omega | simp) [hl, ht]; (first | refine ⟨fun h => hA ?_, fun h => hB ?_⟩ | refine hA ?_ | refine hB ?_) <;> (clear hA hB A B; (try (exfalso; omega))))
      all_goals (refine aEnR (aRes [] fun K hK => ?_); simp (maxSteps := 10000000) (disch := first | omega | simp) []; refine hK _ ?_ (by simp); clear hK; first | done | (simp (maxSteps := 10000000) (disch := first | omega | simp) [*]; done) | (simp (maxSteps := 10000000) (disch := first | omega | simp) [*]; omega) | (simp_all []; done) | (simp_all []; omega))
    cases hq : q.short with
    | false =>
      rw [hq] at hsq
      repeat' first | (with_reducible first | refine fS ?_ | refine fR ?_ | refine fQ ?_ | refine fT ?_ | refine awRet ?_) | ((with_reducible refine awReg fun K hok hK => ?_); clear hok; (try simp (maxSteps := 10000000) (disch := first | omega | simp) [hl, ht]); (repeat' first | (with_reducible refine hK _ (by simp) ?_) | ((first | ((with_reducible refine callS' fun K2 hK2 => ?_); (try simp (maxSteps := 10000000) (disch := first | omega | simp) [hl, ht]); (first | refine hK2 _ _ (mlight_ok l) rfl fun hk9 => ?_ | refine hK2 _ _ hsq rfl fun hk9 => ?_ | refine hK2 _ _ mworks_ok rfl fun hk9 => ?_); clear hk9; clear hK2 K2) | ((with_reducible refine callF' fun K2 hK2 => ?_); (try simp (maxSteps := 10000000) (disch := first | omega | simp) [hl, ht]); (first | refine hK2 _ _ _ (mlight_ok l) fun _ => ?_ | refine hK2 _ _ _ hsq fun _ => ?_ | refine hK2 _ _ _ mworks_ok fun _ => ?_); clear hK2 K2) | ((with_reducible refine sideS' fun K2 hK2 => ?_); (try simp (maxSteps := 10000000) (disch := first | omega | simp) [hl, ht]); (first | refine hK2 _ _ (mlight_ok l) rfl ?_ | refine hK2 _ _ (hsq) rfl ?_ | refine hK2 _ _ (mworks_ok) rfl ?_); clear hK2 K2) | ((with_reducible refine sideF' fun K2 hK2 => ?_); (try simp (maxSteps := 10000000) (disch := first | omega | simp) [hl, ht]); (first | refine hK2 _ _ _ (mlight_ok l) (by simp) ?_ | refine hK2 _ _ _ hsq (by simp) ?_ | refine hK2 _ _ _ mworks_ok (by simp) ?_); clear hK2 K2) | ((with_reducible refine gdU ?_)) | ((with_reducible refine sideQ' ?_ ?_ fun K2 hK2 => ?_); exact rfl; exact rfl; (try simp (maxSteps := 10000000) (disch := first | omega | simp) [hl, ht]); with_reducible refine hK2 _ _ ?_; clear hK2 K2)); (try simp (maxSteps := 10000000) (disch := first | omega | simp) [hl, ht]))) <;> clear hK K) | ((with_reducible refine awCond fun A B hA hB => ?_); simp (maxSteps := 10000000) (disch := first | omega | simp) [hl, ht]; (first | refine ⟨fun h => hA ?_, fun h => hB ?_⟩ | refine hA ?_ | refine hB ?_) <;> (clear hA hB A B; (try (exfalso; omega))))
      all_goals (refine aEnR (aRes [] fun K hK => ?_); simp (maxSteps := 10000000) (disch := first | omega | simp) []; refine hK _ ?_ (by simp); clear hK; first | done | (simp (maxSteps := 10000000) (disch := first | omega | simp) [*]; done) | (simp (maxSteps := 10000000) (disch := first | omega | simp) [*]; omega) | (simp_all []; done) | (simp_all []; omega))
    | true =>
      rw [hq] at hsq
      have hqi : q.ids.length ≤ 60 := by unfold Req.short at hq; simp only [Bool.and_eq_true, decide_eq_true_eq] at hq; exact hq.2
      have hinv := made_inv l (by omega)
      have hmk := made_ok l (by omega)
      have hok := madeOk hinv (by omega)
      generalize made l = m at *
      have hdo := do_full hok (by omega) q (by omega)
      have hrd := rdo_full hok (by omega) q (by omega)
      have hof := ofX_ok (m.doE q)
      obtain ⟨v1, e1⟩ := errE_c (m.doE q)
      rw [e1] at hdo hof
      have hdl : (m.doL q).length ≤ 1000000 := by unfold Image.doL; split <;> simp
      have hs1 := recs_same (m.doL q) hdl
      generalize m.doL q = L at *
      generalize codeX (m.doE q) = c1 at *
      have hrw : ∀ t ∈ m.topics, ∀ p ∈ t.parts, (m.finish p).1.Rows 1000000 := fun t ht p hp => finish_rows (by omega) (hinv.pr t ht p hp).1 (hinv.pr t ht p hp).2
      have hdu := due_ok m hok.brk hok.sml (fun t ht p hp => big_of (hinv.pr t ht p hp).2) (fun t ht p hp => by have := (hinv.pr t ht p hp).2.ep; omega) (fun t ht p hp => small_of (hrw t ht p hp))
      have hrdu := rdue_ok m hok.sml (fun t ht p hp => zero_ids (hinv.pr t ht p hp).2) (fun t ht p hp => by have := (hinv.pr t ht p hp).2.ep; omega)
      have hs2 := recs_same m.due (changes_len hinv (by omega) _)
      generalize m.due = U at *
      have hlf := left_ok m hok.sml
      have hrlf := rleft_ok m hok.sml
      generalize m.left = lf at *
      have hpt := part21_ok m n hok.pre
      cases hsel : m.sel21 n with
      | none =>
        rw [hsel] at hpt
        repeat' first | (with_reducible first | refine fS ?_ | refine fR ?_ | refine fQ ?_ | refine fT ?_ | refine awRet ?_) | ((with_reducible refine awReg fun K hok hK => ?_); clear hok; (try simp (maxSteps := 10000000) (disch := first | omega | simp) [hl, ht]); (repeat' first | (with_reducible refine hK _ (by simp) ?_) | ((first | ((with_reducible refine callS' fun K2 hK2 => ?_); (try simp (maxSteps := 10000000) (disch := first | omega | simp) [hl, ht]); (first | refine hK2 _ _ (mlight_ok l) rfl fun hk9 => ?_ | refine hK2 _ _ hsq rfl fun hk9 => ?_ | refine hK2 _ _ mworks_ok rfl fun hk9 => ?_ | refine hK2 _ _ hmk rfl fun hk9 => ?_ | refine hK2 _ _ hdo rfl fun hk9 => ?_ | refine hK2 _ _ hrd rfl fun hk9 => ?_ | refine hK2 _ _ hof rfl fun hk9 => ?_ | refine hK2 _ _ hs1 rfl fun hk9 => ?_ | refine hK2 _ _ hdu rfl fun hk9 => ?_ | refine hK2 _ _ hrdu rfl fun hk9 => ?_ | refine hK2 _ _ hs2 rfl fun hk9 => ?_ | refine hK2 _ _ hlf rfl fun hk9 => ?_ | refine hK2 _ _ hrlf rfl fun hk9 => ?_ | refine hK2 _ _ hpt rfl fun hk9 => ?_); clear hk9; clear hK2 K2) | ((with_reducible refine callF' fun K2 hK2 => ?_); (try simp (maxSteps := 10000000) (disch := first | omega | simp) [hl, ht]); (first | refine hK2 _ _ _ (mlight_ok l) fun _ => ?_ | refine hK2 _ _ _ hsq fun _ => ?_ | refine hK2 _ _ _ mworks_ok fun _ => ?_ | refine hK2 _ _ _ hmk fun _ => ?_ | refine hK2 _ _ _ hdo fun _ => ?_ | refine hK2 _ _ _ hrd fun _ => ?_ | refine hK2 _ _ _ hof fun _ => ?_ | refine hK2 _ _ _ hs1 fun _ => ?_ | refine hK2 _ _ _ hdu fun _ => ?_ | refine hK2 _ _ _ hrdu fun _ => ?_ | refine hK2 _ _ _ hs2 fun _ => ?_ | refine hK2 _ _ _ hlf fun _ => ?_ | refine hK2 _ _ _ hrlf fun _ => ?_ | refine hK2 _ _ _ hpt fun _ => ?_); clear hK2 K2) | ((with_reducible refine sideS' fun K2 hK2 => ?_); (try simp (maxSteps := 10000000) (disch := first | omega | simp) [hl, ht]); (first | refine hK2 _ _ (mlight_ok l) rfl ?_ | refine hK2 _ _ (hsq) rfl ?_ | refine hK2 _ _ (mworks_ok) rfl ?_ | refine hK2 _ _ (hmk) rfl ?_ | refine hK2 _ _ (hdo) rfl ?_ | refine hK2 _ _ (hrd) rfl ?_ | refine hK2 _ _ (hof) rfl ?_ | refine hK2 _ _ (hs1) rfl ?_ | refine hK2 _ _ (hdu) rfl ?_ | refine hK2 _ _ (hrdu) rfl ?_ | refine hK2 _ _ (hs2) rfl ?_ | refine hK2 _ _ (hlf) rfl ?_ | refine hK2 _ _ (hrlf) rfl ?_ | refine hK2 _ _ (hpt) rfl ?_); clear hK2 K2) | ((with_reducible refine sideF' fun K2 hK2 => ?_); (try simp (maxSteps := 10000000) (disch := first | omega | simp) [hl, ht]); (first | refine hK2 _ _ _ (mlight_ok l) (by simp) ?_ | refine hK2 _ _ _ hsq (by simp) ?_ | refine hK2 _ _ _ mworks_ok (by simp) ?_ | refine hK2 _ _ _ hmk (by simp) ?_ | refine hK2 _ _ _ hdo (by simp) ?_ | refine hK2 _ _ _ hrd (by simp) ?_ | refine hK2 _ _ _ hof (by simp) ?_ | refine hK2 _ _ _ hs1 (by simp) ?_ | refine hK2 _ _ _ hdu (by simp) ?_ | refine hK2 _ _ _ hrdu (by simp) ?_ | refine hK2 _ _ _ hs2 (by simp) ?_ | refine hK2 _ _ _ hlf (by simp) ?_ | refine hK2 _ _ _ hrlf (by simp) ?_ | refine hK2 _ _ _ hpt (by simp) ?_); clear hK2 K2) | ((with_reducible refine gdU ?_)) | ((with_reducible refine sideQ' ?_ ?_ fun K2 hK2 => ?_); exact rfl; exact rfl; (try simp (maxSteps := 10000000) (disch := first | omega | simp) [hl, ht]); with_reducible refine hK2 _ _ ?_; clear hK2 K2)); (try simp (maxSteps := 10000000) (disch := first | omega | simp) [hl, ht]))) <;> clear hK K) | ((with_reducible refine awCond fun A B hA hB => ?_); simp (maxSteps := 10000000) (disch := first | omega | simp) [hl, ht]; (first | refine ⟨fun h => hA ?_, fun h => hB ?_⟩ | refine hA ?_ | refine hB ?_) <;> (clear hA hB A B; (try (exfalso; omega))))
        all_goals (refine aEnR (aRes [] fun K hK => ?_); simp (maxSteps := 10000000) (disch := first | omega | simp) []; refine hK _ ?_ (by simp); clear hK; first | done | (simp (maxSteps := 10000000) (disch := first | omega | simp) [*]; done) | (simp (maxSteps := 10000000) (disch := first | omega | simp) [*]; omega) | (simp_all []; done) | (simp_all []; omega))
      | some x =>
        obtain ⟨tp, k, p⟩ := x
        rw [hsel] at hpt
        obtain ⟨htm, hkp⟩ := sel21_spec hsel
        obtain ⟨hkl, hpm, _, _⟩ := parts_mid hkp
        have hpr := hinv.pr tp htm p hpm
        have hpw : p.Rows 1000000 := ⟨hpr.2.ids, hpr.2.isr, hpr.2.add, hpr.2.drop, by have := hpr.2.ep; omega, hpr.2.le⟩
        have hsm := small_of hpr.2
        have hst := start_at hok (by omega) hpr.2 t (by omega)
        have hrst := rstart_at hok (by omega) (few_of hinv (by omega)) hpr.2 t (by omega)
        have hofs := ofX_ok (m.startE p t)
        obtain ⟨v2, e2⟩ := errE_c (m.startE p t)
        rw [e2] at hst hofs
        generalize codeX (m.startE p t) = c2 at *
        have hfi := finish_at hok hpw
        have hrfi := rfinish_ok m p hsm (zero_ids hpr.2) (by have := hpr.2.ep; omega)
        have hcn := cancel_at hok hpw
        have hrcn := rcancel_ok m p hsm (zero_ids hpr.2) (by have := hpr.2.ep; omega)
        have hofc := ofX_ok (erO (m.cancelE p))
        rw [codeX_erO] at hofc
        rw [errO_E] at hcn
        obtain ⟨v3, e3⟩ := errE_c (erO (m.cancelE p))
        rw [e3] at hcn hofc
        generalize codeO (m.cancelE p) = c3 at *
        have sp1 := samePart_ok' (m.startP p t) (m.startP p t)
        have sp2 := samePart_ok' (m.finish p).1 (m.finish p).1
        have sp3 := samePart_ok' (m.cancelP p) (m.cancelP p)
        rw [same_refl] at sp1 sp2 sp3
        generalize m.startP p t = x1 at *
        generalize m.finish p = x2 at *
        generalize m.cancelP p = x3 at *
        obtain ⟨x2, b2⟩ := x2
        have hun := under_ok p
        have hrun := rUnder_ok p hsm
        generalize p.under = u at *
        have htg := mtarget_ok p hsm
        have hmi := rMinus_ok p.ids p.drop hsm.ids
        have hin := ints_ok (minus p.ids p.drop) (minus p.ids p.drop)
        rw [beq_self_eq_true] at hin
        clear hsel hrw hok hinv hpr hpw hkp e1 e2 e3
        repeat' first | (with_reducible first | refine fS ?_ | refine fR ?_ | refine fQ ?_ | refine fT ?_ | refine awRet ?_) | ((with_reducible refine awReg fun K hok hK => ?_); clear hok; (try simp (maxSteps := 10000000) (disch := first | omega | simp) [hl, ht]); (repeat' first | (with_reducible refine hK _ (by simp) ?_) | ((first | ((with_reducible refine callS' fun K2 hK2 => ?_); (try simp (maxSteps := 10000000) (disch := first | omega | simp) [hl, ht]); (first | refine hK2 _ _ (mlight_ok l) rfl fun hk9 => ?_ | refine hK2 _ _ hsq rfl fun hk9 => ?_ | refine hK2 _ _ mworks_ok rfl fun hk9 => ?_ | refine hK2 _ _ hmk rfl fun hk9 => ?_ | refine hK2 _ _ hdo rfl fun hk9 => ?_ | refine hK2 _ _ hrd rfl fun hk9 => ?_ | refine hK2 _ _ hof rfl fun hk9 => ?_ | refine hK2 _ _ hs1 rfl fun hk9 => ?_ | refine hK2 _ _ hdu rfl fun hk9 => ?_ | refine hK2 _ _ hrdu rfl fun hk9 => ?_ | refine hK2 _ _ hs2 rfl fun hk9 => ?_ | refine hK2 _ _ hlf rfl fun hk9 => ?_ | refine hK2 _ _ hrlf rfl fun hk9 => ?_ | refine hK2 _ _ hpt rfl fun hk9 => ?_ | refine hK2 _ _ hst rfl fun hk9 => ?_ | refine hK2 _ _ hrst rfl fun hk9 => ?_ | refine hK2 _ _ hofs rfl fun hk9 => ?_ | refine hK2 _ _ hfi rfl fun hk9 => ?_ | refine hK2 _ _ hrfi rfl fun hk9 => ?_ | refine hK2 _ _ hcn rfl fun hk9 => ?_ | refine hK2 _ _ hrcn rfl fun hk9 => ?_ | refine hK2 _ _ hofc rfl fun hk9 => ?_ | refine hK2 _ _ sp1 rfl fun hk9 => ?_ | refine hK2 _ _ sp2 rfl fun hk9 => ?_ | refine hK2 _ _ sp3 rfl fun hk9 => ?_ | refine hK2 _ _ hun rfl fun hk9 => ?_ | refine hK2 _ _ hrun rfl fun hk9 => ?_ | refine hK2 _ _ htg rfl fun hk9 => ?_ | refine hK2 _ _ hmi rfl fun hk9 => ?_ | refine hK2 _ _ hin rfl fun hk9 => ?_); clear hk9; clear hK2 K2) | ((with_reducible refine callF' fun K2 hK2 => ?_); (try simp (maxSteps := 10000000) (disch := first | omega | simp) [hl, ht]); (first | refine hK2 _ _ _ (mlight_ok l) fun _ => ?_ | refine hK2 _ _ _ hsq fun _ => ?_ | refine hK2 _ _ _ mworks_ok fun _ => ?_ | refine hK2 _ _ _ hmk fun _ => ?_ | refine hK2 _ _ _ hdo fun _ => ?_ | refine hK2 _ _ _ hrd fun _ => ?_ | refine hK2 _ _ _ hof fun _ => ?_ | refine hK2 _ _ _ hs1 fun _ => ?_ | refine hK2 _ _ _ hdu fun _ => ?_ | refine hK2 _ _ _ hrdu fun _ => ?_ | refine hK2 _ _ _ hs2 fun _ => ?_ | refine hK2 _ _ _ hlf fun _ => ?_ | refine hK2 _ _ _ hrlf fun _ => ?_ | refine hK2 _ _ _ hpt fun _ => ?_ | refine hK2 _ _ _ hst fun _ => ?_ | refine hK2 _ _ _ hrst fun _ => ?_ | refine hK2 _ _ _ hofs fun _ => ?_ | refine hK2 _ _ _ hfi fun _ => ?_ | refine hK2 _ _ _ hrfi fun _ => ?_ | refine hK2 _ _ _ hcn fun _ => ?_ | refine hK2 _ _ _ hrcn fun _ => ?_ | refine hK2 _ _ _ hofc fun _ => ?_ | refine hK2 _ _ _ sp1 fun _ => ?_ | refine hK2 _ _ _ sp2 fun _ => ?_ | refine hK2 _ _ _ sp3 fun _ => ?_ | refine hK2 _ _ _ hun fun _ => ?_ | refine hK2 _ _ _ hrun fun _ => ?_ | refine hK2 _ _ _ htg fun _ => ?_ | refine hK2 _ _ _ hmi fun _ => ?_ | refine hK2 _ _ _ hin fun _ => ?_); clear hK2 K2) | ((with_reducible refine sideS' fun K2 hK2 => ?_); (try simp (maxSteps := 10000000) (disch := first | omega | simp) [hl, ht]); (first | refine hK2 _ _ (mlight_ok l) rfl ?_ | refine hK2 _ _ (hsq) rfl ?_ | refine hK2 _ _ (mworks_ok) rfl ?_ | refine hK2 _ _ (hmk) rfl ?_ | refine hK2 _ _ (hdo) rfl ?_ | refine hK2 _ _ (hrd) rfl ?_ | refine hK2 _ _ (hof) rfl ?_ | refine hK2 _ _ (hs1) rfl ?_ | refine hK2 _ _ (hdu) rfl ?_ | refine hK2 _ _ (hrdu) rfl ?_ | refine hK2 _ _ (hs2) rfl ?_ | refine hK2 _ _ (hlf) rfl ?_ | refine hK2 _ _ (hrlf) rfl ?_ | refine hK2 _ _ (hpt) rfl ?_ | refine hK2 _ _ (hst) rfl ?_ | refine hK2 _ _ (hrst) rfl ?_ | refine hK2 _ _ (hofs) rfl ?_ | refine hK2 _ _ (hfi) rfl ?_ | refine hK2 _ _ (hrfi) rfl ?_ | refine hK2 _ _ (hcn) rfl ?_ | refine hK2 _ _ (hrcn) rfl ?_ | refine hK2 _ _ (hofc) rfl ?_ | refine hK2 _ _ (sp1) rfl ?_ | refine hK2 _ _ (sp2) rfl ?_ | refine hK2 _ _ (sp3) rfl ?_ | refine hK2 _ _ (hun) rfl ?_ | refine hK2 _ _ (hrun) rfl ?_ | refine hK2 _ _ (htg) rfl ?_ | refine hK2 _ _ (hmi) rfl ?_ | refine hK2 _ _ (hin) rfl ?_); clear hK2 K2) | ((with_reducible refine sideF' fun K2 hK2 => ?_); (try simp (maxSteps := 10000000) (disch := first | omega | simp) [hl, ht]); (first | refine hK2 _ _ _ (mlight_ok l) (by simp) ?_ | refine hK2 _ _ _ hsq (by simp) ?_ | refine hK2 _ _ _ mworks_ok (by simp) ?_ | refine hK2 _ _ _ hmk (by simp) ?_ | refine hK2 _ _ _ hdo (by simp) ?_ | refine hK2 _ _ _ hrd (by simp) ?_ | refine hK2 _ _ _ hof (by simp) ?_ | refine hK2 _ _ _ hs1 (by simp) ?_ | refine hK2 _ _ _ hdu (by simp) ?_ | refine hK2 _ _ _ hrdu (by simp) ?_ | refine hK2 _ _ _ hs2 (by simp) ?_ | refine hK2 _ _ _ hlf (by simp) ?_ | refine hK2 _ _ _ hrlf (by simp) ?_ | refine hK2 _ _ _ hpt (by simp) ?_ | refine hK2 _ _ _ hst (by simp) ?_ | refine hK2 _ _ _ hrst (by simp) ?_ | refine hK2 _ _ _ hofs (by simp) ?_ | refine hK2 _ _ _ hfi (by simp) ?_ | refine hK2 _ _ _ hrfi (by simp) ?_ | refine hK2 _ _ _ hcn (by simp) ?_ | refine hK2 _ _ _ hrcn (by simp) ?_ | refine hK2 _ _ _ hofc (by simp) ?_ | refine hK2 _ _ _ sp1 (by simp) ?_ | refine hK2 _ _ _ sp2 (by simp) ?_ | refine hK2 _ _ _ sp3 (by simp) ?_ | refine hK2 _ _ _ hun (by simp) ?_ | refine hK2 _ _ _ hrun (by simp) ?_ | refine hK2 _ _ _ htg (by simp) ?_ | refine hK2 _ _ _ hmi (by simp) ?_ | refine hK2 _ _ _ hin (by simp) ?_); clear hK2 K2) | ((with_reducible refine gdU ?_)) | ((with_reducible refine sideQ' ?_ ?_ fun K2 hK2 => ?_); exact rfl; exact rfl; (try simp (maxSteps := 10000000) (disch := first | omega | simp) [hl, ht]); with_reducible refine hK2 _ _ ?_; clear hK2 K2)); (try simp (maxSteps := 10000000) (disch := first | omega | simp) [hl, ht]))) <;> clear hK K) | ((with_reducible refine awCond fun A B hA hB => ?_); simp (maxSteps := 10000000) (disch := first | omega | simp) [hl, ht]; (first | refine ⟨fun h => hA ?_, fun h => hB ?_⟩ | refine hA ?_ | refine hB ?_) <;> (clear hA hB A B; (try (exfalso; omega))))
        all_goals (refine aEnR (aRes [] fun K hK => ?_); simp (maxSteps := 10000000) (disch := first | omega | simp) []; refine hK _ ?_ (by simp); clear hK; first | done | (simp (maxSteps := 10000000) (disch := first | omega | simp) [*]; done) | (simp (maxSteps := 10000000) (disch := first | omega | simp) [*]; omega) | (simp_all []; done) | (simp_all []; omega))
  · repeat' first | (with_reducible first | refine fS ?_ | refine fR ?_ | refine fQ ?_ | refine fT ?_ | refine awRet ?_) | ((with_reducible refine awReg fun K hok hK => ?_); clear hok; (try simp (maxSteps := 10000000) (disch := first | omega | simp) [hl]); (repeat' first | (with_reducible refine hK _ (by simp) ?_) | ((first | ((with_reducible refine callS' fun K2 hK2 => ?_); (try simp (maxSteps := 10000000) (disch := first | omega | simp) [hl]); (first | refine hK2 _ _ (mlight_ok l) rfl fun hk9 => ?_ | refine hK2 _ _ hsq rfl fun hk9 => ?_ | refine hK2 _ _ mworks_ok rfl fun hk9 => ?_); clear hk9; clear hK2 K2) | ((with_reducible refine callF' fun K2 hK2 => ?_); (try simp (maxSteps := 10000000) (disch := first | omega | simp) [hl]); (first | refine hK2 _ _ _ (mlight_ok l) fun _ => ?_ | refine hK2 _ _ _ hsq fun _ => ?_ | refine hK2 _ _ _ mworks_ok fun _ => ?_); clear hK2 K2) | ((with_reducible refine sideS' fun K2 hK2 => ?_); (try simp (maxSteps := 10000000) (disch := first | omega | simp) [hl]); (first | refine hK2 _ _ (mlight_ok l) rfl ?_ | refine hK2 _ _ (hsq) rfl ?_ | refine hK2 _ _ (mworks_ok) rfl ?_); clear hK2 K2) | ((with_reducible refine sideF' fun K2 hK2 => ?_); (try simp (maxSteps := 10000000) (disch := first | omega | simp) [hl]); (first | refine hK2 _ _ _ (mlight_ok l) (by simp) ?_ | refine hK2 _ _ _ hsq (by simp) ?_ | refine hK2 _ _ _ mworks_ok (by simp) ?_); clear hK2 K2) | ((with_reducible refine gdU ?_)) | ((with_reducible refine sideQ' ?_ ?_ fun K2 hK2 => ?_); exact rfl; exact rfl; (try simp (maxSteps := 10000000) (disch := first | omega | simp) [hl]); with_reducible refine hK2 _ _ ?_; clear hK2 K2)); (try simp (maxSteps := 10000000) (disch := first | omega | simp) [hl]))) <;> clear hK K) | ((with_reducible refine awCond fun A B hA hB => ?_); simp (maxSteps := 10000000) (disch := first | omega | simp) [hl]; (first | refine ⟨fun h => hA ?_, fun h => hB ?_⟩ | refine hA ?_ | refine hB ?_) <;> (clear hA hB A B; (try (exfalso; omega))))
    all_goals (refine aEnR (aRes [] fun K hK => ?_); simp (maxSteps := 10000000) (disch := first | omega | simp) []; refine hK _ ?_ (by simp); clear hK; first | done | (simp (maxSteps := 10000000) (disch := first | omega | simp) [*]; done) | (simp (maxSteps := 10000000) (disch := first | omega | simp) [*]; omega) | (simp_all []; done) | (simp_all []; omega))
end
end Go.Am
end
