/- Part of the proof of a law of moving. -/
import Derived.Test.YtmnheledelnbfaaGreatDoorQE3c
import Derived.Test.YtmnheledelnbfaaGreatDoorQEC
import Derived.Test.YtmnheledelnbfaaGreatDoorQV5
import Derived.Test.YtmnheledelnbfaaGreatDoorQV6
import Derived.Test.YtmnheledelnbfaaGreatDoorQVA
set_option linter.all false
section
set_option maxRecDepth 100000
set_option maxHeartbeats 0
namespace Go.Am
open Go
noncomputable section
def c8 : SC := (.seq (.reg [oO 2 36 0,oO 3 27 1,oD 4 (.assign (.const (.slice none 0 0))),oD 5 (.assign (.const .nilIface))] [2,3,8,19,20,23,26,29,33,38,40,41,44,46,49,55]) (.seq (.reg [oF 9 27 3 2,oL 10 3 9,oK 11 .neq 3 10 5 3,oM 12 11,oW 12 true (oF 13 27 3 2),oW 12 true (oL 14 3 13),oW 12 true (oK 15 .neq 3 14 6 3),oQ 16 12 15 false] [2,3,8,11,12,15,16,19,20,23,26,29,33,38,40,41,44,46,49,55]) (.seq (.cond (.tmp 16) (.seq (.reg [oF 17 27 3 2,oL 18 3 17,oD 19 (.call { callee := .value (.func 33),args := #[.const (.string ⟨#[107,105,110,100]⟩),.tmp 18,.const (.int .i64 5)],argTypes := #[9,3,42] }),oD 4 (.assign (.const (.slice none 0 0))),oG 5 19] [4,5,8,19,20,23,26,29,33,38,40,41,44,46,49,55]) .ret) .skip) (.seq (.reg [oL 21 36 2,oL 22 27 3,oC 23 34 #[.tmp 21,.tmp 22] #[36,27],oM 20 23,oX 24 20 0,oX 25 20 1,oX 26 20 2,oA 7 53,oG 6 24,oS 53 7 25,oG 8 26] [2,3,6,7,8,19,20,23,24,26,29,33,38,40,41,44,46,49,55]) (.seq (.reg [oM 27 8,oD 28 (.binOp .neq 39 (.tmp 27) (.const .nilIface) 39)] [2,3,6,7,8,19,20,23,24,26,28,29,33,38,40,41,44,46,49,55]) (.seq (.cond (.tmp 28) (.seq (.reg [oM 29 8,oD 4 (.assign (.const (.slice none 0 0))),oG 5 29] [4,5,8,19,20,23,26,29,33,38,40,41,44,46,49,55]) .ret) .skip) (.seq (.reg [oF 30 27 3 2,oL 31 3 30,oK 32 .eql 3 31 5 3] [2,3,6,7,8,19,20,23,24,26,29,32,33,38,40,41,44,46,49,55]) (.seq (.cond (.tmp 32) (.seq (.reg [oL 34 36 2,oL 35 53 7,oF 36 27 3 10,oL 37 23 36,oC 38 17 #[.tmp 34,.tmp 35,.tmp 37] #[36,53,23],oM 33 38,oX 39 33 0,oX 40 33 1,oS 53 7 39,oG 8 40] [3,6,7,8,19,20,23,24,26,29,33,38,40,41,44,46,49,55]) .skip) (.seq (.reg [oL 42 36 2,oL 43 53 7,oC 44 21 #[.tmp 42,.tmp 43] #[36,53],oM 41 44,oX 45 41 0,oX 46 41 1,oS 53 7 45,oG 8 46] [3,6,7,8,19,20,23,24,26,29,33,38,40,41,44,46,49,55]) .skip)) (.seq (.reg [oM 47 8,oD 48 (.binOp .neq 39 (.tmp 47) (.const .nilIface) 39)] [3,6,7,8,19,20,23,24,26,29,33,38,40,41,44,46,48,49,55]) (.seq (.cond (.tmp 48) (.seq (.reg [oM 49 8,oD 4 (.assign (.const (.slice none 0 0))),oG 5 49] [4,5,8,19,20,23,26,29,33,38,40,41,44,46,49,55]) .ret) .skip) (.seq (.reg [oM 50 6,oF 51 27 3 9,oL 52 3 51,oL 53 53 7,oC 54 35 #[.tmp 50,.tmp 52,.tmp 53] #[3,3,53],oD 55 (.buildSlice 22 1 #[(0,.tmp 54)]),oG 4 55,oD 5 (.assign (.const .nilIface))] [4,5,8,19,20,23,26,29,33,38,40,41,44,46,49,55]) .ret)))))))))))
theorem s8 : TextK Proofs.Tryz.prog 0 8 56 [ResultVar.tmp 4, ResultVar.tmp 5] c8 := .mk' Proofs.Tryz.f8 _ (by kernel_rfl) rfl rfl rfl (by kernel_rfl) rfl (by kernel_rfl)
def Image.doE (m : Image) (q : Req) : Option Er :=
  if q.kind ≠ 5 ∧ q.kind ≠ 6 then erO (some (bs [107, 105, 110, 100], q.kind, 5))
  else if (m.atE q).isSome = true then erO (m.atE q)
  else if q.kind = 5 then m.startE (m.atP q) q.ids else erO (m.cancelE (m.atP q))
def Image.doP (m : Image) (q : Req) : Part := if q.kind = 5 then m.startP (m.atP q) q.ids else m.cancelP (m.atP q)
def Image.doL (m : Image) (q : Req) : List Record := if (m.doE q).isSome then [] else [change (m.atI q) q.part.toNat (m.doP q)]
theorem do_a (m : Image) (q : Req) (h1 : q.kind ≠ 5 ∧ q.kind ≠ 6) : ACall pg 8 [encM m, encQ q] (.tup [.sl ((m.doL q).map encR), errE (m.doE q)]) := by
  refine s8.call mo (by simp) fun hxs => ?_
  clear hxs
  have e : m.doE q = erO (some (bs [107, 105, 110, 100], q.kind, 5)) := by unfold Image.doE; rw [if_pos h1]
  have e2 : m.doL q = [] := by unfold Image.doL; rw [e]; rfl
  rw [e, e2, ← errO_E]
  have q1 : (q.kind != 5) = true := by simpa using h1.1
  have q2 : (q.kind != 6) = true := by simpa using h1.2
  unfold c8; dsimp only [oA, oC, oD, oF, oG, oK, oL, oM, oO, oQ, oS, oW, oX]
  repeat' first | (with_reducible first | refine fR ?_ | refine fQ ?_ | refine fT ?_ | refine awRet ?_) | ((with_reducible refine awReg fun K hok hK => ?_); clear hok; (try simp (maxSteps := 10000000) (disch := first | omega | simp) [q1, q2]); (repeat' first | (with_reducible refine hK _ (by simp) ?_) | ((with_reducible refine callS' fun K2 hK2 => ?_); (try simp (maxSteps := 10000000) (disch := first | omega | simp) [q1, q2]); (refine hK2 _ _ (new_ok _ _ _) rfl fun hk9 => ?_); clear hk9; clear hK2 K2; (try simp (maxSteps := 10000000) (disch := first | omega | simp) [q1, q2]))) <;> clear hK K) | ((with_reducible refine awCond fun A B hA hB => ?_); simp (maxSteps := 10000000) (disch := first | omega | simp) [q1, q2]; (first | refine ⟨fun h => hA ?_, fun h => hB ?_⟩ | refine hA ?_ | refine hB ?_) <;> (clear hA hB A B; (try (exfalso; omega))))
  all_goals (refine aEnR (aRes [true] fun K hK => ?_); simp (maxSteps := 10000000) (disch := first | omega | simp) []; refine hK _ ?_ (by simp); clear hK; first | done | (simp (maxSteps := 10000000) (disch := first | omega | simp) [*]; done) | (simp (maxSteps := 10000000) (disch := first | omega | simp) [*]; omega) | (simp_all []; done) | (simp_all []; omega))
theorem do_b (m : Image) (q : Req) (h1 : q.kind = 5 ∨ q.kind = 6) {b : Bad} (h2 : m.atE q = some b) (hl : m.topics.length ≤ 1000000) (hp : ∀ t ∈ m.topics, t.parts.length ≤ 1000000) : ACall pg 8 [encM m, encQ q] (.tup [.sl ((m.doL q).map encR), errE (m.doE q)]) := by
  refine s8.call mo (by simp) fun hxs => ?_
  clear hxs
  have hw := where_ok m q hl hp
  have e : m.doE q = erO (some b) := by unfold Image.doE; rw [if_neg (by omega), h2, if_pos (by rfl)]
  have e2 : m.doL q = [] := by unfold Image.doL; rw [e]; rfl
  rw [e, e2, ← errO_E]
  rw [h2] at hw
  obtain ⟨op, a, c⟩ := b
  unfold c8; dsimp only [oA, oC, oD, oF, oG, oK, oL, oM, oO, oQ, oS, oW, oX]
  by_cases h3 : q.kind = 5
  · have q1 : (q.kind != 5) = false := by simp [h3]
    repeat' first | (with_reducible first | refine fS ?_ | refine fR ?_ | refine fQ ?_ | refine fT ?_ | refine awRet ?_) | ((with_reducible refine awReg fun K hok hK => ?_); clear hok; (try simp (maxSteps := 10000000) (disch := first | omega | simp) [q1, isConst]); (repeat' first | (with_reducible refine hK _ (by simp) ?_) | ((with_reducible refine callF' fun K2 hK2 => ?_); (try simp (maxSteps := 10000000) (disch := first | omega | simp) [q1, isConst]); (refine hK2 _ _ _ hw fun _ => ?_); clear hK2 K2; (try simp (maxSteps := 10000000) (disch := first | omega | simp) [q1, isConst]))) <;> clear hK K) | ((with_reducible refine awCond fun A B hA hB => ?_); simp (maxSteps := 10000000) (disch := first | omega | simp) [q1, isConst]; (first | refine ⟨fun h => hA ?_, fun h => hB ?_⟩ | refine hA ?_ | refine hB ?_) <;> (clear hA hB A B; (try (exfalso; omega))))
    all_goals (refine aEnR (aRes [true] fun K hK => ?_); simp (maxSteps := 10000000) (disch := first | omega | simp) [errF]; refine hK _ ?_ (by simp); clear hK; first | done | (simp (maxSteps := 10000000) (disch := first | omega | simp) [errF, *]; done) | (simp (maxSteps := 10000000) (disch := first | omega | simp) [errF, *]; omega) | (simp_all [errF]; done) | (simp_all [errF]; omega))
  · have q1 : (q.kind != 5) = true := by simpa using h3
    have q2 : (q.kind != 6) = false := by rcases h1 with h1 | h1 <;> simp [h1]; exact absurd h1 h3
    repeat' first | (with_reducible first | refine fS ?_ | refine fR ?_ | refine fQ ?_ | refine fT ?_ | refine awRet ?_) | ((with_reducible refine awReg fun K hok hK => ?_); clear hok; (try simp (maxSteps := 10000000) (disch := first | omega | simp) [q1, q2, isConst]); (repeat' first | (with_reducible refine hK _ (by simp) ?_) | ((with_reducible refine callF' fun K2 hK2 => ?_); (try simp (maxSteps := 10000000) (disch := first | omega | simp) [q1, q2, isConst]); (refine hK2 _ _ _ hw fun _ => ?_); clear hK2 K2; (try simp (maxSteps := 10000000) (disch := first | omega | simp) [q1, q2, isConst]))) <;> clear hK K) | ((with_reducible refine awCond fun A B hA hB => ?_); simp (maxSteps := 10000000) (disch := first | omega | simp) [q1, q2, isConst]; (first | refine ⟨fun h => hA ?_, fun h => hB ?_⟩ | refine hA ?_ | refine hB ?_) <;> (clear hA hB A B; (try (exfalso; omega))))
    all_goals (refine aEnR (aRes [true] fun K hK => ?_); simp (maxSteps := 10000000) (disch := first | omega | simp) [errF]; refine hK _ ?_ (by simp); clear hK; first | done | (simp (maxSteps := 10000000) (disch := first | omega | simp) [errF, *]; done) | (simp (maxSteps := 10000000) (disch := first | omega | simp) [errF, *]; omega) | (simp_all [errF]; done) | (simp_all [errF]; omega))
theorem do_c (m : Image) (q : Req) (h1 : q.kind = 5) (h2 : m.atE q = none) (hl : m.topics.length ≤ 1000000) (hp : ∀ t ∈ m.topics, t.parts.length ≤ 1000000) (hst : ACall pg 17 [encM m, encP (m.atP q), Li q.ids] (.tup [encP (m.startP (m.atP q) q.ids), errE (m.startE (m.atP q) q.ids)]))
    (hsm : (m.startP (m.atP q) q.ids).Small) (hk : 0 ≤ q.part) : ACall pg 8 [encM m, encQ q] (.tup [.sl ((m.doL q).map encR), errE (m.doE q)]) := by
  refine s8.call mo (by simp) fun hxs => ?_
  clear hxs
  have hw := where_ok m q hl hp
  have e : m.doE q = m.startE (m.atP q) q.ids := by unfold Image.doE; rw [if_neg (by omega), h2, if_neg (by simp), if_pos h1]
  have e3 : m.doP q = m.startP (m.atP q) q.ids := by unfold Image.doP; rw [if_pos h1]
  rw [h2] at hw
  have q1 : (q.kind != 5) = false := by simp [h1]
  have q2 : (q.kind == 5) = true := by simp [h1]
  rw [e]
  unfold c8; dsimp only [oA, oC, oD, oF, oG, oK, oL, oM, oO, oQ, oS, oW, oX]
  cases hx : m.startE (m.atP q) q.ids with
  | some er =>
    have e2 : m.doL q = [] := by unfold Image.doL; rw [e, hx]; rfl
    rw [e2]
    obtain ⟨ty, v, he⟩ := encE_if er
    rw [hx] at hst
    simp only [errE_some, he] at hst ⊢
    repeat' first | (with_reducible first | refine fS ?_ | refine fR ?_ | refine fQ ?_ | refine fT ?_ | refine awRet ?_) | ((with_reducible refine awReg fun K hok hK => ?_); clear hok; (try simp (maxSteps := 10000000) (disch := first | omega | simp) [q1, q2, isConst]); (repeat' first | (with_reducible refine hK _ (by simp) ?_) | ((with_reducible refine callF' fun K2 hK2 => ?_); (try simp (maxSteps := 10000000) (disch := first | omega | simp) [q1, q2, isConst]); (first | refine hK2 _ _ _ hw fun _ => ?_ | refine hK2 _ _ _ hst fun _ => ?_); clear hK2 K2; (try simp (maxSteps := 10000000) (disch := first | omega | simp) [q1, q2, isConst]))) <;> clear hK K) | ((with_reducible refine awCond fun A B hA hB => ?_); simp (maxSteps := 10000000) (disch := first | omega | simp) [q1, q2, isConst]; (first | refine ⟨fun h => hA ?_, fun h => hB ?_⟩ | refine hA ?_ | refine hB ?_) <;> (clear hA hB A B; (try (exfalso; omega))))
    all_goals (refine aEnR (aRes [true] fun K hK => ?_); simp (maxSteps := 10000000) (disch := first | omega | simp) []; refine hK _ ?_ (by simp); clear hK; first | done | (simp (maxSteps := 10000000) (disch := first | omega | simp) [*]; done) | (simp (maxSteps := 10000000) (disch := first | omega | simp) [*]; omega) | (simp_all []; done) | (simp_all []; omega))
  | none =>
    obtain ⟨k, hk⟩ := Int.eq_ofNat_of_zero_le hk
    have e2 : m.doL q = [change (m.atI q) k (m.startP (m.atP q) q.ids)] := by unfold Image.doL; rw [e, hx, e3, hk]; rfl
    rw [e2]
    have hch := change_ok (m.atI q) k _ hsm
    rw [hx] at hst
    simp only [encQ_eq, hk] at hw
    clear e e2 e3
    generalize m.startP (m.atP q) q.ids = sp at *
    generalize m.atI q = ti at *
    generalize m.atP q = tp at *
    repeat' first | (with_reducible first | refine fS ?_ | refine fR ?_ | refine fQ ?_ | refine fT ?_ | refine awRet ?_) | ((with_reducible refine awReg fun K hok hK => ?_); clear hok; (try simp (maxSteps := 10000000) (disch := first | omega | simp) [q1, q2, hk, isConst]); (repeat' first | (with_reducible refine hK _ (by simp) ?_) | ((with_reducible refine callF' fun K2 hK2 => ?_); (try simp (maxSteps := 10000000) (disch := first | omega | simp) [q1, q2, hk, isConst]); (first | refine hK2 _ _ _ hw fun _ => ?_ | refine hK2 _ _ _ hst fun _ => ?_ | refine hK2 _ _ _ hch fun _ => ?_); clear hK2 K2; (try simp (maxSteps := 10000000) (disch := first | omega | simp) [q1, q2, hk, isConst]))) <;> clear hK K) | ((with_reducible refine awCond fun A B hA hB => ?_); simp (maxSteps := 10000000) (disch := first | omega | simp) [q1, q2, hk, isConst]; (first | refine ⟨fun h => hA ?_, fun h => hB ?_⟩ | refine hA ?_ | refine hB ?_) <;> (clear hA hB A B; (try (exfalso; omega))))
    all_goals (refine aEnR (aRes [true] fun K hK => ?_); simp (maxSteps := 10000000) (disch := first | omega | simp) []; refine hK _ ?_ (by simp); clear hK; first | done | (simp (maxSteps := 10000000) (disch := first | omega | simp) [*]; done) | (simp (maxSteps := 10000000) (disch := first | omega | simp) [*]; omega) | (simp_all []; done) | (simp_all []; omega))
theorem do_d (m : Image) (q : Req) (h1 : q.kind = 6) (h2 : m.atE q = none) (hl : m.topics.length ≤ 1000000) (hp : ∀ t ∈ m.topics, t.parts.length ≤ 1000000) (hst : ACall pg 21 [encM m, encP (m.atP q)] (.tup [encP (m.cancelP (m.atP q)), errO (m.cancelE (m.atP q))]))
    (hsm : (m.cancelP (m.atP q)).Small) (hk : 0 ≤ q.part) : ACall pg 8 [encM m, encQ q] (.tup [.sl ((m.doL q).map encR), errE (m.doE q)]) := by
  refine s8.call mo (by simp) fun hxs => ?_
  clear hxs
  have hw := where_ok m q hl hp
  have e : m.doE q = erO (m.cancelE (m.atP q)) := by unfold Image.doE; rw [if_neg (by omega), h2, if_neg (by simp), if_neg (by omega)]
  have e3 : m.doP q = m.cancelP (m.atP q) := by unfold Image.doP; rw [if_neg (by omega)]
  rw [h2] at hw
  have q1 : (q.kind != 5) = true := by simp [h1]
  have q3 : (q.kind != 6) = false := by simp [h1]
  have q2 : (q.kind == 5) = false := by simp [h1]
  rw [e]
  unfold c8; dsimp only [oA, oC, oD, oF, oG, oK, oL, oM, oO, oQ, oS, oW, oX]
  cases hx : m.cancelE (m.atP q) with
  | some er =>
    have e2 : m.doL q = [] := by unfold Image.doL; rw [e, hx]; rfl
    rw [e2, ← errO_E]
    rw [hx] at hst
    obtain ⟨op, a, c⟩ := er
    repeat' first | (with_reducible first | refine fS ?_ | refine fR ?_ | refine fQ ?_ | refine fT ?_ | refine awRet ?_) | ((with_reducible refine awReg fun K hok hK => ?_); clear hok; (try simp (maxSteps := 10000000) (disch := first | omega | simp) [q1, q2, q3, isConst]); (repeat' first | (with_reducible refine hK _ (by simp) ?_) | ((with_reducible refine callF' fun K2 hK2 => ?_); (try simp (maxSteps := 10000000) (disch := first | omega | simp) [q1, q2, q3, isConst]); (first | refine hK2 _ _ _ hw fun _ => ?_ | refine hK2 _ _ _ hst fun _ => ?_); clear hK2 K2; (try simp (maxSteps := 10000000) (disch := first | omega | simp) [q1, q2, q3, isConst]))) <;> clear hK K) | ((with_reducible refine awCond fun A B hA hB => ?_); simp (maxSteps := 10000000) (disch := first | omega | simp) [q1, q2, q3, isConst]; (first | refine ⟨fun h => hA ?_, fun h => hB ?_⟩ | refine hA ?_ | refine hB ?_) <;> (clear hA hB A B; (try (exfalso; omega))))
    all_goals (refine aEnR (aRes [true] fun K hK => ?_); simp (maxSteps := 10000000) (disch := first | omega | simp) [errF]; refine hK _ ?_ (by simp); clear hK; first | done | (simp (maxSteps := 10000000) (disch := first | omega | simp) [errF, *]; done) | (simp (maxSteps := 10000000) (disch := first | omega | simp) [errF, *]; omega) | (simp_all [errF]; done) | (simp_all [errF]; omega))
  | none =>
    obtain ⟨k, hk⟩ := Int.eq_ofNat_of_zero_le hk
    have e2 : m.doL q = [change (m.atI q) k (m.cancelP (m.atP q))] := by unfold Image.doL; rw [e, hx, e3, hk]; rfl
    rw [e2]
    have hch := change_ok (m.atI q) k _ hsm
    rw [hx] at hst
    simp only [encQ_eq, hk] at hw
    clear e e2 e3
    generalize m.cancelP (m.atP q) = sp at *
    generalize m.atI q = ti at *
    generalize m.atP q = tp at *
    repeat' first | (with_reducible first | refine fS ?_ | refine fR ?_ | refine fQ ?_ | refine fT ?_ | refine awRet ?_) | ((with_reducible refine awReg fun K hok hK => ?_); clear hok; (try simp (maxSteps := 10000000) (disch := first | omega | simp) [q1, q2, q3, hk, isConst]); (repeat' first | (with_reducible refine hK _ (by simp) ?_) | ((with_reducible refine callF' fun K2 hK2 => ?_); (try simp (maxSteps := 10000000) (disch := first | omega | simp) [q1, q2, q3, hk, isConst]); (first | refine hK2 _ _ _ hw fun _ => ?_ | refine hK2 _ _ _ hst fun _ => ?_ | refine hK2 _ _ _ hch fun _ => ?_); clear hK2 K2; (try simp (maxSteps := 10000000) (disch := first | omega | simp) [q1, q2, q3, hk, isConst]))) <;> clear hK K) | ((with_reducible refine awCond fun A B hA hB => ?_); simp (maxSteps := 10000000) (disch := first | omega | simp) [q1, q2, q3, hk, isConst]; (first | refine ⟨fun h => hA ?_, fun h => hB ?_⟩ | refine hA ?_ | refine hB ?_) <;> (clear hA hB A B; (try (exfalso; omega))))
    all_goals (refine aEnR (aRes [true] fun K hK => ?_); simp (maxSteps := 10000000) (disch := first | omega | simp) [erO]; refine hK _ ?_ (by simp); clear hK; first | done | (simp (maxSteps := 10000000) (disch := first | omega | simp) [erO, *]; done) | (simp (maxSteps := 10000000) (disch := first | omega | simp) [erO, *]; omega) | (simp_all [erO]; done) | (simp_all [erO]; omega))
end
end Go.Am
end
section
set_option maxRecDepth 100000
set_option maxHeartbeats 0
namespace Go.Am
open Go
noncomputable section
def c12 : SC := (.seq (.reg [oO 1 36 0,oD 2 (.assign (.const (.slice none 0 0)))] [1]) (.seq (.reg [oL 3 36 1,oD 4 (.makeFunc (Fn.func 41) #[] #[.tmp 1]),oC 5 40 #[.tmp 3,.tmp 4] #[36,87],oG 2 5] [2,5]) .ret))
theorem s12 : TextK Proofs.Tryz.prog 0 12 6 [ResultVar.tmp 2] c12 := .mk' Proofs.Tryz.f12 _ (by kernel_rfl) rfl rfl rfl (by kernel_rfl) rfl (by kernel_rfl)
def c41 : SC := (.seq (.reg [oO 2 53 0,oA 3 53] [1,2,3]) (.seq (.reg [oL 7 36 1,oL 8 53 2,oC 9 19 #[.tmp 7,.tmp 8] #[36,53],oM 6 9,oX 10 6 0,oX 11 6 1,oA 4 53,oS 53 4 10,oG 5 11] [3,4]) (.seq (.reg [oL 12 53 4,oS 53 3 12] [3]) .ret)))
theorem s41 : TextK Proofs.Tryz.prog 0 41 13 [ResultVar.cell 3 53] c41 := .mk' Proofs.Tryz.f41 _ (by kernel_rfl) rfl rfl rfl (by kernel_rfl) rfl (by kernel_rfl)
def c14 : SC := (.seq (.reg [oO 1 36 0,oI 2 0] [1,25]) (.seq (.reg [oI 3 0] [1,3,25]) (.seq (.reg [oF 8 36 1 1,oL 9 32 8,oN 10 9 32,oD 11 (.move (.const (.int .i64 0)))] [1,3,8,9,10,11,25,27]) (.seq (.block 0 (.seq (.loop (.seq (.reg [oB 12 .lss 3 11 10 3] [1,3,8,9,10,11,12,25,27]) (.seq (.cond (.tmp 12) .skip (.exit 0)) (.seq (.block 1 (.seq (.reg [oJ 13 32 9 11,oL 14 51 13,oA 5 51,oS 51 5 14] [1,3,5,8,9,10,11,25,27]) (.seq (.reg [oF 15 51 5 2,oL 16 49 15,oN 17 16 49,oD 18 (.move (.const (.int .i64 0)))] [1,3,5,8,9,10,11,15,16,17,18,25,26,27]) (.seq (.block 2 (.seq (.loop (.seq (.reg [oB 19 .lss 3 18 17 3] [1,3,5,8,9,10,11,15,16,17,18,19,25,26,27]) (.seq (.cond (.tmp 19) .skip (.exit 2)) (.seq (.block 3 (.seq (.reg [oJ 20 49 16 18,oL 21 53 20,oA 7 53,oS 53 7 21] [1,3,5,7,8,9,10,11,15,16,17,18,25,26,27]) (.seq (.reg [oL 22 53 7,oC 23 24 #[.tmp 22] #[53]] [1,3,5,8,9,10,11,15,16,17,18,23,25,26,27]) (.seq (.cond (.tmp 23) (.seq (.reg [oM 24 3,oK 25 .add 3 24 1 3,oG 3 25] [1,3,5,8,9,10,11,15,16,17,18,25,26,27]) .skip) .skip) .skip)))) (.seq (.reg [oK 26 .add 3 18 1 3,oM 18 26] [1,3,5,8,9,10,11,15,16,17,18,25,26,27]) .skip))))) .skip)) .skip)))) (.seq (.reg [oK 27 .add 3 11 1 3,oM 11 27] [1,3,8,9,10,11,25,27]) .skip))))) .skip)) (.seq (.reg [oM 28 3,oG 2 28] [2,3,25,28]) .ret)))))
theorem s14 : TextK Proofs.Tryz.prog 0 14 29 [ResultVar.tmp 2] c14 := .mk' Proofs.Tryz.f14 _ (by kernel_rfl) rfl rfl rfl (by kernel_rfl) rfl (by kernel_rfl)
theorem due1_ok (m : Image) (p : Part) (hbk : m.Brk) (hp : p.Small) (hb : ∀ n ∈ p.ids, big62 n) (he : 0 ≤ p.epoch ∧ p.epoch ≤ 1000000) : ACall pg 41 [encP p, .ip (encM m).cells 0] (encP (m.finish p).1) := by
  refine s41.call mo (by simp) fun hxs => ?_
  clear hxs
  unfold c41; dsimp only [oA, oC, oG, oL, oM, oO, oS, oX]
  repeat' first | (with_reducible first | refine awRet ?_) | ((with_reducible refine awReg fun K hok hK => ?_); clear hok; (try simp (maxSteps := 10000000) (disch := first | omega | simp) []); (repeat' first | (with_reducible refine hK _ (by simp) ?_) | ((with_reducible refine callF' fun K2 hK2 => ?_); (try simp (maxSteps := 10000000) (disch := first | omega | simp) []); (refine hK2 _ _ _ (finish_ok m p hbk hp hb he) fun _ => ?_); clear hK2 K2; (try simp (maxSteps := 10000000) (disch := first | omega | simp) []))) <;> clear hK K) | ((with_reducible refine awCond fun A B hA hB => ?_); simp (maxSteps := 10000000) (disch := first | omega | simp) []; (first | refine ⟨fun h => hA ?_, fun h => hB ?_⟩ | refine hA ?_ | refine hB ?_) <;> (clear hA hB A B; (try (exfalso; omega))))
  (refine aEnR (aRes [true] fun K hK => ?_); simp (maxSteps := 10000000) (disch := first | omega | simp) []; refine hK _ ?_ (by simp); clear hK; first | done | (simp (maxSteps := 10000000) (disch := first | omega | simp) [*]; done) | (simp (maxSteps := 10000000) (disch := first | omega | simp) [*]; omega) | (simp_all []; done) | (simp_all []; omega))
theorem due_ok (m : Image) (hbk : m.Brk) (hm : m.Sml) (hb : ∀ t ∈ m.topics, ∀ p ∈ t.parts, ∀ n ∈ p.ids, big62 n) (he : ∀ t ∈ m.topics, ∀ p ∈ t.parts, 0 ≤ p.epoch ∧ p.epoch ≤ 1000000) (hS : ∀ t ∈ m.topics, ∀ p ∈ t.parts, (m.finish p).1.Small) : ACall pg 12 [encM m] (.sl (m.due.map encR)) := by
  refine s12.call mo (by simp) fun hxs => ?_
  clear hxs
  unfold c12; dsimp only [oC, oD, oG, oL, oO]
  have hall := eall_ok m 41 [.ip (encM m).cells 0] (by simp [pureL, pureB]) (fun p => (m.finish p).1) (fun t ht p hp => due1_ok m p hbk (hm.ps t ht p hp) (hb t ht p hp) (he t ht p hp)) hm hS
  repeat' first | (with_reducible first | refine awRet ?_) | ((with_reducible refine awReg fun K hok hK => ?_); clear hok; (try simp (maxSteps := 10000000) (disch := first | omega | simp) []); (repeat' first | (with_reducible refine hK _ (by simp) ?_) | ((with_reducible refine callF' fun K2 hK2 => ?_); (try simp (maxSteps := 10000000) (disch := first | omega | simp) []); (refine hK2 _ _ _ hall fun _ => ?_); clear hK2 K2; (try simp (maxSteps := 10000000) (disch := first | omega | simp) []))) <;> clear hK K) | ((with_reducible refine awCond fun A B hA hB => ?_); simp (maxSteps := 10000000) (disch := first | omega | simp) []; (first | refine ⟨fun h => hA ?_, fun h => hB ?_⟩ | refine hA ?_ | refine hB ?_) <;> (clear hA hB A B; (try (exfalso; omega))))
  (refine aEnR (aRes [true] fun K hK => ?_); simp (maxSteps := 10000000) (disch := first | omega | simp) [Image.due]; refine hK _ ?_ (by simp); clear hK; first | done | (simp (maxSteps := 10000000) (disch := first | omega | simp) [Image.due, *]; done) | (simp (maxSteps := 10000000) (disch := first | omega | simp) [Image.due, *]; omega) | (simp_all [Image.due]; done) | (simp_all [Image.due]; omega))
theorem underN_cons (p : Part) (l : List Part) : underN (p :: l) = (if p.under then 1 else 0) + underN l := by
  unfold underN
  rw [List.filter_cons]
  cases p.under <;> simp <;> omega
theorem left_ok (m : Image) (hm : m.Sml) : ACall pg 14 [encM m] (I m.left) := by
  refine s14.call mo (by simp) fun hxs => ?_
  clear hxs
  have htl := hm.tl
  unfold c14; dsimp only [oA, oB, oC, oD, oF, oG, oI, oJ, oK, oL, oM, oN, oO, oS]
  repeat' first | (with_reducible first | refine thN ?_ | refine thE ?_ | refine inN ?_ | refine inH ?_ | refine fS ?_ | refine fR ?_ | refine fQ ?_ | refine fE ?_ | refine awBlock ?_ | refine awExit ?_ | refine awRet ?_ | refine awSkip ?_) | ((with_reducible refine awReg fun K hok hK => ?_); clear hok; (try simp (maxSteps := 10000000) (disch := first | omega | simp) []); (repeat' first | (with_reducible refine hK _ (by simp) ?_)) <;> clear hK K) | ((with_reducible refine awCond fun A B hA hB => ?_); simp (maxSteps := 10000000) (disch := first | omega | simp) []; (first | refine ⟨fun h => hA ?_, fun h => hB ?_⟩ | refine hA ?_ | refine hB ?_) <;> (clear hA hB A B; (try (exfalso; omega))))
  refine awFor m.topics.length (fun i (s : Nat) => s + ((m.topics.drop i).map fun t => underN t.parts).sum = m.left ∧ s ≤ i * 1000) (fun i s => [(11, .p (I i)), (10, .p (I m.topics.length)), (9, .p (.sl (m.topics.map encT))), (3, .p (I s))]) 0 (Wk.ofA (by simp)) ⟨by simp [Image.left], by simp⟩ fun i s hi hs => ?_
  obtain ⟨hs, hsl⟩ := hs
  by_cases hlt : i < m.topics.length
  · rw [drop_cons hlt, List.map_cons, List.sum_cons] at hs
    have htm := List.getElem_mem hlt
    have hpl := hm.pl _ htm
    repeat' first | (with_reducible first | refine thN ?_ | refine thE ?_ | refine inN ?_ | refine inH ?_ | refine fS ?_ | refine fR ?_ | refine fQ ?_ | refine fE ?_ | refine awBlock ?_ | refine awExit ?_ | refine awRet ?_ | refine awSkip ?_) | ((with_reducible refine awReg fun K hok hK => ?_); clear hok; (try simp (maxSteps := 10000000) (disch := first | omega | simp) [hlt]); (repeat' first | (with_reducible refine hK _ (by simp) ?_)) <;> clear hK K) | ((with_reducible refine awCond fun A B hA hB => ?_); simp (maxSteps := 10000000) (disch := first | omega | simp) [hlt]; (first | refine ⟨fun h => hA ?_, fun h => hB ?_⟩ | refine hA ?_ | refine hB ?_) <;> (clear hA hB A B; (try (exfalso; omega))))
    refine awFor m.topics[i].parts.length (fun k (s : Nat) => s + (underN (m.topics[i].parts.drop k) + ((m.topics.drop (i + 1)).map fun t => underN t.parts).sum) = m.left ∧ s ≤ i * 1000 + k) (fun k s => [(18, .p (I k)), (17, .p (I m.topics[i].parts.length)), (16, .p (.sl (m.topics[i].parts.map encP))), (11, .p (I i)), (10, .p (I m.topics.length)), (9, .p (.sl (m.topics.map encT))), (3, .p (I s))]) s (Wk.ofA (by simp)) ⟨by simpa using hs, by omega⟩ fun k s hk hs2 => ?_
    obtain ⟨hs2, hs2l⟩ := hs2
    by_cases hkt : k < m.topics[i].parts.length
    · rw [drop_cons hkt, underN_cons] at hs2
      have hu := under_ok m.topics[i].parts[k]
      cases hx : m.topics[i].parts[k].under with
      | true =>
        rw [hx] at hu hs2
        simp only [if_true] at hs2
        repeat' first | (with_reducible first | refine thN ?_ | refine thE ?_ | refine inN ?_ | refine inH ?_ | refine fS ?_ | refine fR ?_ | refine fQ ?_ | refine fE ?_ | refine awBlock ?_ | refine awExit ?_ | refine awRet ?_ | refine awSkip ?_) | ((with_reducible refine awReg fun K hok hK => ?_); clear hok; (try simp (maxSteps := 10000000) (disch := first | omega | simp) [hkt]); (repeat' first | (with_reducible refine hK _ (by simp) ?_) | ((with_reducible refine callS' fun K2 hK2 => ?_); (try simp (maxSteps := 10000000) (disch := first | omega | simp) [hkt]); (refine hK2 _ _ hu rfl fun hk9 => ?_); clear hk9; clear hK2 K2; (try simp (maxSteps := 10000000) (disch := first | omega | simp) [hkt]))) <;> clear hK K) | ((with_reducible refine awCond fun A B hA hB => ?_); simp (maxSteps := 10000000) (disch := first | omega | simp) [hkt]; (first | refine ⟨fun h => hA ?_, fun h => hB ?_⟩ | refine hA ?_ | refine hB ?_) <;> (clear hA hB A B; (try (exfalso; omega))))
        (refine ⟨?_, s + 1, ?_, Wk.ofA ?_⟩; assumption; rotate_left; focus (simp []; done))
        exact ⟨by omega, by omega⟩
      | false =>
        rw [hx] at hu hs2
        simp only [Bool.false_eq_true, if_false] at hs2
        repeat' first | (with_reducible first | refine thN ?_ | refine thE ?_ | refine inN ?_ | refine inH ?_ | refine fS ?_ | refine fR ?_ | refine fQ ?_ | refine fE ?_ | refine awBlock ?_ | refine awExit ?_ | refine awRet ?_ | refine awSkip ?_) | ((with_reducible refine awReg fun K hok hK => ?_); clear hok; (try simp (maxSteps := 10000000) (disch := first | omega | simp) [hkt]); (repeat' first | (with_reducible refine hK _ (by simp) ?_) | ((with_reducible refine callS' fun K2 hK2 => ?_); (try simp (maxSteps := 10000000) (disch := first | omega | simp) [hkt]); (refine hK2 _ _ hu rfl fun hk9 => ?_); clear hk9; clear hK2 K2; (try simp (maxSteps := 10000000) (disch := first | omega | simp) [hkt]))) <;> clear hK K) | ((with_reducible refine awCond fun A B hA hB => ?_); simp (maxSteps := 10000000) (disch := first | omega | simp) [hkt]; (first | refine ⟨fun h => hA ?_, fun h => hB ?_⟩ | refine hA ?_ | refine hB ?_) <;> (clear hA hB A B; (try (exfalso; omega))))
        (refine ⟨?_, s, ?_, Wk.ofA ?_⟩; assumption; rotate_left; focus (simp []; done))
        exact ⟨by omega, by omega⟩
    · rw [drop_nil (by omega)] at hs2
      simp only [underN, List.filter_nil, List.length_nil] at hs2
      repeat' first | (with_reducible first | refine thN ?_ | refine thE ?_ | refine inN ?_ | refine inH ?_ | refine fS ?_ | refine fR ?_ | refine fQ ?_ | refine fE ?_ | refine awBlock ?_ | refine awExit ?_ | refine awRet ?_ | refine awSkip ?_) | ((with_reducible refine awReg fun K hok hK => ?_); clear hok; (try simp (maxSteps := 10000000) (disch := first | omega | simp) [hkt]); (repeat' first | (with_reducible refine hK _ (by simp) ?_)) <;> clear hK K) | ((with_reducible refine awCond fun A B hA hB => ?_); simp (maxSteps := 10000000) (disch := first | omega | simp) [hkt]; (first | refine ⟨fun h => hA ?_, fun h => hB ?_⟩ | refine hA ?_ | refine hB ?_) <;> (clear hA hB A B; (try (exfalso; omega))))
      (refine ⟨?_, s, ?_, Wk.ofA ?_⟩; assumption; rotate_left; focus (simp []; done))
      exact ⟨by simp only [underN]; omega, by omega⟩
  · rw [drop_nil (by omega)] at hs
    simp only [List.map_nil, List.sum_nil] at hs
    repeat' first | (with_reducible first | refine thN ?_ | refine thE ?_ | refine inN ?_ | refine inH ?_ | refine fS ?_ | refine fR ?_ | refine fQ ?_ | refine fE ?_ | refine awBlock ?_ | refine awExit ?_ | refine awRet ?_ | refine awSkip ?_) | ((with_reducible refine awReg fun K hok hK => ?_); clear hok; (try simp (maxSteps := 10000000) (disch := first | omega | simp) [hlt]); (repeat' first | (with_reducible refine hK _ (by simp) ?_)) <;> clear hK K) | ((with_reducible refine awCond fun A B hA hB => ?_); simp (maxSteps := 10000000) (disch := first | omega | simp) [hlt]; (first | refine ⟨fun h => hA ?_, fun h => hB ?_⟩ | refine hA ?_ | refine hB ?_) <;> (clear hA hB A B; (try (exfalso; omega))))
    have hs : s = m.left := by omega
    subst hs
    (refine aEnR (aRes [] fun K hK => ?_); simp (maxSteps := 10000000) (disch := first | omega | simp) []; refine hK _ ?_ (by simp); clear hK; first | done | (simp (maxSteps := 10000000) (disch := first | omega | simp) [*]; done) | (simp (maxSteps := 10000000) (disch := first | omega | simp) [*]; omega) | (simp_all []; done) | (simp_all []; omega))
end
end Go.Am
end
