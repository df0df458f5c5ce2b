/- Part of the proof of a law of moving. -/
import Derived.Test.YtmnheledelnbfaaGreatQE3c
import Derived.Test.YtmnheledelnbfaaGreatQEC
import Derived.Test.YtmnheledelnbfaaGreatQV5
import Derived.Test.YtmnheledelnbfaaGreatQV6
import Derived.Test.YtmnheledelnbfaaGreatQVA
set_option linter.all false
section
set_option maxRecDepth 100000
set_option maxHeartbeats 0
namespace Go.Am
open Go
noncomputable section
def c10 : SC := (.seq (.reg [⟨some 2, .box 36 (.tmp 0), none, []⟩,
  ⟨some 3, .box 27 (.tmp 1), none, []⟩,
  ⟨some 4, .assign (.const (.slice none 0 0)), none, []⟩,
  ⟨some 5, .assign (.const .nilIface), none, []⟩] [2, 3, 8, 19, 20, 23, 26, 29, 33, 38, 40, 41, 44, 46, 49, 55]) (.seq (.reg [⟨some 9, .fieldAddr 27 (.tmp 3) 2, none, []⟩,
  ⟨some 10, .load 3 (.tmp 9), none, []⟩,
  ⟨some 11, .binOp .neq 3 (.tmp 10) (.const (.int .i64 5)) 3, none, []⟩,
  ⟨some 12, .move (.tmp 11), none, []⟩,
  ⟨some 13, .fieldAddr 27 (.tmp 3) 2, (some (12, true)), []⟩,
  ⟨some 14, .load 3 (.tmp 13), (some (12, true)), []⟩,
  ⟨some 15, .binOp .neq 3 (.tmp 14) (.const (.int .i64 6)) 3, (some (12, true)), []⟩,
  ⟨some 16, .pick (.tmp 12) (.tmp 15) (.const (.bool false)), none, []⟩] [2, 3, 8, 11, 12, 15, 16, 19, 20, 23, 26, 29, 33, 38, 40, 41, 44, 46, 49, 55]) (.seq (.cond (.tmp 16) (.seq (.reg [⟨some 17, .fieldAddr 27 (.tmp 3) 2, none, []⟩,
  ⟨some 18, .load 3 (.tmp 17), none, []⟩,
  ⟨some 19, .call { callee := .value (.func 29), args := #[.const (.string ⟨#[107, 105, 110, 100]⟩), .tmp 18, .const (.int .i64 5)], argTypes := #[9, 3, 42] }, none, []⟩,
  ⟨some 4, .assign (.const (.slice none 0 0)), none, []⟩,
  ⟨some 5, .assign (.tmp 19), none, []⟩] [4, 5, 8, 19, 20, 23, 26, 29, 33, 38, 40, 41, 44, 46, 49, 55]) .ret) .skip) (.seq (.reg [⟨some 21, .load 36 (.tmp 2), none, []⟩,
  ⟨some 22, .load 27 (.tmp 3), none, []⟩,
  ⟨some 23, .call { callee := .value (.func 30), args := #[.tmp 21, .tmp 22], argTypes := #[36, 27] }, none, []⟩,
  ⟨some 20, .move (.tmp 23), none, []⟩,
  ⟨some 24, .extract (.tmp 20) 0, none, []⟩,
  ⟨some 25, .extract (.tmp 20) 1, none, []⟩,
  ⟨some 26, .extract (.tmp 20) 2, none, []⟩,
  ⟨some 7, .alloc 52, none, []⟩,
  ⟨some 6, .assign (.tmp 24), none, []⟩,
  ⟨none, .store 52 (.tmp 7) (.tmp 25), none, []⟩,
  ⟨some 8, .assign (.tmp 26), none, []⟩] [2, 3, 6, 7, 8, 19, 20, 23, 24, 26, 29, 33, 38, 40, 41, 44, 46, 49, 55]) (.seq (.reg [⟨some 27, .move (.tmp 8), none, []⟩,
  ⟨some 28, .binOp .neq 39 (.tmp 27) (.const .nilIface) 39, none, []⟩] [2, 3, 6, 7, 8, 19, 20, 23, 24, 26, 28, 29, 33, 38, 40, 41, 44, 46, 49, 55]) (.seq (.cond (.tmp 28) (.seq (.reg [⟨some 29, .move (.tmp 8), none, []⟩,
  ⟨some 4, .assign (.const (.slice none 0 0)), none, []⟩,
  ⟨some 5, .assign (.tmp 29), none, []⟩] [4, 5, 8, 19, 20, 23, 26, 29, 33, 38, 40, 41, 44, 46, 49, 55]) .ret) .skip) (.seq (.reg [⟨some 30, .fieldAddr 27 (.tmp 3) 2, none, []⟩,
  ⟨some 31, .load 3 (.tmp 30), none, []⟩,
  ⟨some 32, .binOp .eql 3 (.tmp 31) (.const (.int .i64 5)) 3, none, []⟩] [2, 3, 6, 7, 8, 19, 20, 23, 24, 26, 29, 32, 33, 38, 40, 41, 44, 46, 49, 55]) (.seq (.cond (.tmp 32) (.seq (.reg [⟨some 34, .load 36 (.tmp 2), none, []⟩,
  ⟨some 35, .load 52 (.tmp 7), none, []⟩,
  ⟨some 36, .fieldAddr 27 (.tmp 3) 10, none, []⟩,
  ⟨some 37, .load 23 (.tmp 36), none, []⟩,
  ⟨some 38, .call { callee := .value (.func 22), args := #[.tmp 34, .tmp 35, .tmp 37], argTypes := #[36, 52, 23] }, none, []⟩,
  ⟨some 33, .move (.tmp 38), none, []⟩,
  ⟨some 39, .extract (.tmp 33) 0, none, []⟩,
  ⟨some 40, .extract (.tmp 33) 1, none, []⟩,
  ⟨none, .store 52 (.tmp 7) (.tmp 39), none, []⟩,
  ⟨some 8, .assign (.tmp 40), none, []⟩] [3, 6, 7, 8, 19, 20, 23, 24, 26, 29, 33, 38, 40, 41, 44, 46, 49, 55]) .skip) (.seq (.reg [⟨some 42, .load 36 (.tmp 2), none, []⟩,
  ⟨some 43, .load 52 (.tmp 7), none, []⟩,
  ⟨some 44, .call { callee := .value (.func 24), args := #[.tmp 42, .tmp 43], argTypes := #[36, 52] }, none, []⟩,
  ⟨some 41, .move (.tmp 44), none, []⟩,
  ⟨some 45, .extract (.tmp 41) 0, none, []⟩,
  ⟨some 46, .extract (.tmp 41) 1, none, []⟩,
  ⟨none, .store 52 (.tmp 7) (.tmp 45), none, []⟩,
  ⟨some 8, .assign (.tmp 46), none, []⟩] [3, 6, 7, 8, 19, 20, 23, 24, 26, 29, 33, 38, 40, 41, 44, 46, 49, 55]) .skip)) (.seq (.reg [⟨some 47, .move (.tmp 8), none, []⟩,
  ⟨some 48, .binOp .neq 39 (.tmp 47) (.const .nilIface) 39, none, []⟩] [3, 6, 7, 8, 19, 20, 23, 24, 26, 29, 33, 38, 40, 41, 44, 46, 48, 49, 55]) (.seq (.cond (.tmp 48) (.seq (.reg [⟨some 49, .move (.tmp 8), none, []⟩,
  ⟨some 4, .assign (.const (.slice none 0 0)), none, []⟩,
  ⟨some 5, .assign (.tmp 49), none, []⟩] [4, 5, 8, 19, 20, 23, 26, 29, 33, 38, 40, 41, 44, 46, 49, 55]) .ret) .skip) (.seq (.reg [⟨some 50, .move (.tmp 6), none, []⟩,
  ⟨some 51, .fieldAddr 27 (.tmp 3) 9, none, []⟩,
  ⟨some 52, .load 3 (.tmp 51), none, []⟩,
  ⟨some 53, .load 52 (.tmp 7), none, []⟩,
  ⟨some 54, .call { callee := .value (.func 31), args := #[.tmp 50, .tmp 52, .tmp 53], argTypes := #[3, 3, 52] }, none, []⟩,
  ⟨some 55, .buildSlice 22 1 #[(0, .tmp 54)], none, []⟩,
  ⟨some 4, .assign (.tmp 55), none, []⟩,
  ⟨some 5, .assign (.const .nilIface), none, []⟩] [4, 5, 8, 19, 20, 23, 26, 29, 33, 38, 40, 41, 44, 46, 49, 55]) .ret)))))))))))
theorem s10 : TextK Proofs.Tryz.prog 0 10 56 [ResultVar.tmp 4, ResultVar.tmp 5] c10 := .mk' Proofs.Tryz.f10 _ (by kernel_rfl) rfl rfl rfl (by kernel_rfl) rfl (by kernel_rfl)
def Image.doE (m : Image) (q : Req) : Option Er :=
  if q.kind ≠ 5 ∧ q.kind ≠ 6 then erO (some (bs [107, 105, 110, 100], q.kind, 5))
  else if (m.atE q).isSome = true then erO (m.atE q)
  else if q.kind = 5 then m.startE (m.atP q) q.ids else erO (m.cancelE (m.atP q))
def Image.doP (m : Image) (q : Req) : Part := if q.kind = 5 then m.startP (m.atP q) q.ids else m.cancelP (m.atP q)
def Image.doL (m : Image) (q : Req) : List Record := if (m.doE q).isSome then [] else [change (m.atI q) q.part.toNat (m.doP q)]
theorem do_a (m : Image) (q : Req) (h1 : q.kind ≠ 5 ∧ q.kind ≠ 6) : ACall pg 10 [encM m, encQ q] (.tup [.sl ((m.doL q).map encR), errE (m.doE q)]) := by
  refine s10.call mo (by simp) fun hxs => ?_
  clear hxs
  have e : m.doE q = erO (some (bs [107, 105, 110, 100], q.kind, 5)) := by unfold Image.doE; rw [if_pos h1]
  have e2 : m.doL q = [] := by unfold Image.doL; rw [e]; rfl
  rw [e, e2, ← errO_E]
  have q1 : (q.kind != 5) = true := by simpa using h1.1
  have q2 : (q.kind != 6) = true := by simpa using h1.2
  unfold c10
  repeat' first | (with_reducible first | refine fR ?_ | refine fQ ?_ | refine fT ?_ | refine awRet ?_) | ((with_reducible refine awReg fun K hok hK => ?_); clear hok; (try simp (maxSteps := 10000000) (disch := first | omega | simp) [q1, q2]); (repeat' first | (with_reducible refine hK _ (by simp) ?_) | ((with_reducible refine callS' fun K2 hK2 => ?_); (try simp (maxSteps := 10000000) (disch := first | omega | simp) [q1, q2]); (refine hK2 _ _ (new_ok _ _ _) rfl fun hk9 => ?_); clear hk9; clear hK2 K2; (try simp (maxSteps := 10000000) (disch := first | omega | simp) [q1, q2]))) <;> clear hK K) | ((with_reducible refine awCond fun A B hA hB => ?_); simp (maxSteps := 10000000) (disch := first | omega | simp) [q1, q2]; (first | refine ⟨fun h => hA ?_, fun h => hB ?_⟩ | refine hA ?_ | refine hB ?_) <;> (clear hA hB A B; (try (exfalso; omega))))
  all_goals (refine aEnR (aRes [true] fun K hK => ?_); simp (maxSteps := 10000000) (disch := first | omega | simp) []; refine hK _ ?_ (by simp); clear hK; first | done | (simp (maxSteps := 10000000) (disch := first | omega | simp) [*]; done) | (simp (maxSteps := 10000000) (disch := first | omega | simp) [*]; omega) | (simp_all []; done) | (simp_all []; omega))
theorem do_b (m : Image) (q : Req) (h1 : q.kind = 5 ∨ q.kind = 6) {b : Bad} (h2 : m.atE q = some b) (hl : m.topics.length ≤ 1000000) (hp : ∀ t ∈ m.topics, t.parts.length ≤ 1000000) : ACall pg 10 [encM m, encQ q] (.tup [.sl ((m.doL q).map encR), errE (m.doE q)]) := by
  refine s10.call mo (by simp) fun hxs => ?_
  clear hxs
  have hw := where_ok m q hl hp
  have e : m.doE q = erO (some b) := by unfold Image.doE; rw [if_neg (by omega), h2, if_pos (by rfl)]
  have e2 : m.doL q = [] := by unfold Image.doL; rw [e]; rfl
  rw [e, e2, ← errO_E]
  rw [h2] at hw
  obtain ⟨op, a, c⟩ := b
  unfold c10
  by_cases h3 : q.kind = 5
  · have q1 : (q.kind != 5) = false := by simp [h3]
    repeat' first | (with_reducible first | refine fS ?_ | refine fR ?_ | refine fQ ?_ | refine fT ?_ | refine awRet ?_) | ((with_reducible refine awReg fun K hok hK => ?_); clear hok; (try simp (maxSteps := 10000000) (disch := first | omega | simp) [q1, isConst]); (repeat' first | (with_reducible refine hK _ (by simp) ?_) | ((with_reducible refine callF' fun K2 hK2 => ?_); (try simp (maxSteps := 10000000) (disch := first | omega | simp) [q1, isConst]); (refine hK2 _ _ _ hw fun _ => ?_); clear hK2 K2; (try simp (maxSteps := 10000000) (disch := first | omega | simp) [q1, isConst]))) <;> clear hK K) | ((with_reducible refine awCond fun A B hA hB => ?_); simp (maxSteps := 10000000) (disch := first | omega | simp) [q1, isConst]; (first | refine ⟨fun h => hA ?_, fun h => hB ?_⟩ | refine hA ?_ | refine hB ?_) <;> (clear hA hB A B; (try (exfalso; omega))))
    all_goals (refine aEnR (aRes [true] fun K hK => ?_); simp (maxSteps := 10000000) (disch := first | omega | simp) [errF]; refine hK _ ?_ (by simp); clear hK; first | done | (simp (maxSteps := 10000000) (disch := first | omega | simp) [errF, *]; done) | (simp (maxSteps := 10000000) (disch := first | omega | simp) [errF, *]; omega) | (simp_all [errF]; done) | (simp_all [errF]; omega))
  · have q1 : (q.kind != 5) = true := by simpa using h3
    have q2 : (q.kind != 6) = false := by rcases h1 with h1 | h1 <;> simp [h1]; exact absurd h1 h3
    repeat' first | (with_reducible first | refine fS ?_ | refine fR ?_ | refine fQ ?_ | refine fT ?_ | refine awRet ?_) | ((with_reducible refine awReg fun K hok hK => ?_); clear hok; (try simp (maxSteps := 10000000) (disch := first | omega | simp) [q1, q2, isConst]); (repeat' first | (with_reducible refine hK _ (by simp) ?_) | ((with_reducible refine callF' fun K2 hK2 => ?_); (try simp (maxSteps := 10000000) (disch := first | omega | simp) [q1, q2, isConst]); (refine hK2 _ _ _ hw fun _ => ?_); clear hK2 K2; (try simp (maxSteps := 10000000) (disch := first | omega | simp) [q1, q2, isConst]))) <;> clear hK K) | ((with_reducible refine awCond fun A B hA hB => ?_); simp (maxSteps := 10000000) (disch := first | omega | simp) [q1, q2, isConst]; (first | refine ⟨fun h => hA ?_, fun h => hB ?_⟩ | refine hA ?_ | refine hB ?_) <;> (clear hA hB A B; (try (exfalso; omega))))
    all_goals (refine aEnR (aRes [true] fun K hK => ?_); simp (maxSteps := 10000000) (disch := first | omega | simp) [errF]; refine hK _ ?_ (by simp); clear hK; first | done | (simp (maxSteps := 10000000) (disch := first | omega | simp) [errF, *]; done) | (simp (maxSteps := 10000000) (disch := first | omega | simp) [errF, *]; omega) | (simp_all [errF]; done) | (simp_all [errF]; omega))
theorem do_c (m : Image) (q : Req) (h1 : q.kind = 5) (h2 : m.atE q = none) (hl : m.topics.length ≤ 1000000) (hp : ∀ t ∈ m.topics, t.parts.length ≤ 1000000) (hst : ACall pg 22 [encM m, encP (m.atP q), Li q.ids] (.tup [encP (m.startP (m.atP q) q.ids), errE (m.startE (m.atP q) q.ids)]))
    (hsm : (m.startP (m.atP q) q.ids).Small) (hk : 0 ≤ q.part) : ACall pg 10 [encM m, encQ q] (.tup [.sl ((m.doL q).map encR), errE (m.doE q)]) := by
  refine s10.call mo (by simp) fun hxs => ?_
  clear hxs
  have hw := where_ok m q hl hp
  have e : m.doE q = m.startE (m.atP q) q.ids := by unfold Image.doE; rw [if_neg (by omega), h2, if_neg (by simp), if_pos h1]
  have e3 : m.doP q = m.startP (m.atP q) q.ids := by unfold Image.doP; rw [if_pos h1]
  rw [h2] at hw
  have q1 : (q.kind != 5) = false := by simp [h1]
  have q2 : (q.kind == 5) = true := by simp [h1]
  rw [e]
  unfold c10
  cases hx : m.startE (m.atP q) q.ids with
  | some er =>
    have e2 : m.doL q = [] := by unfold Image.doL; rw [e, hx]; rfl
    rw [e2]
    obtain ⟨ty, v, he⟩ := encE_if er
    rw [hx] at hst
    simp only [errE_some, he] at hst ⊢
    repeat' first | (with_reducible first | refine fS ?_ | refine fR ?_ | refine fQ ?_ | refine fT ?_ | refine awRet ?_) | ((with_reducible refine awReg fun K hok hK => ?_); clear hok; (try simp (maxSteps := 10000000) (disch := first | omega | simp) [q1, q2, isConst]); (repeat' first | (with_reducible refine hK _ (by simp) ?_) | ((with_reducible refine callF' fun K2 hK2 => ?_); (try simp (maxSteps := 10000000) (disch := first | omega | simp) [q1, q2, isConst]); (first | refine hK2 _ _ _ hw fun _ => ?_ | refine hK2 _ _ _ hst fun _ => ?_); clear hK2 K2; (try simp (maxSteps := 10000000) (disch := first | omega | simp) [q1, q2, isConst]))) <;> clear hK K) | ((with_reducible refine awCond fun A B hA hB => ?_); simp (maxSteps := 10000000) (disch := first | omega | simp) [q1, q2, isConst]; (first | refine ⟨fun h => hA ?_, fun h => hB ?_⟩ | refine hA ?_ | refine hB ?_) <;> (clear hA hB A B; (try (exfalso; omega))))
    all_goals (refine aEnR (aRes [true] fun K hK => ?_); simp (maxSteps := 10000000) (disch := first | omega | simp) []; refine hK _ ?_ (by simp); clear hK; first | done | (simp (maxSteps := 10000000) (disch := first | omega | simp) [*]; done) | (simp (maxSteps := 10000000) (disch := first | omega | simp) [*]; omega) | (simp_all []; done) | (simp_all []; omega))
  | none =>
    obtain ⟨k, hk⟩ := Int.eq_ofNat_of_zero_le hk
    have e2 : m.doL q = [change (m.atI q) k (m.startP (m.atP q) q.ids)] := by unfold Image.doL; rw [e, hx, e3, hk]; rfl
    rw [e2]
    have hch := change_ok (m.atI q) k _ hsm
    rw [hx] at hst
    simp only [encQ_eq, hk] at hw
    clear e e2 e3
    generalize m.startP (m.atP q) q.ids = sp at *
    generalize m.atI q = ti at *
    generalize m.atP q = tp at *
    repeat' first | (with_reducible first | refine fS ?_ | refine fR ?_ | refine fQ ?_ | refine fT ?_ | refine awRet ?_) | ((with_reducible refine awReg fun K hok hK => ?_); clear hok; (try simp (maxSteps := 10000000) (disch := first | omega | simp) [q1, q2, hk, isConst]); (repeat' first | (with_reducible refine hK _ (by simp) ?_) | ((with_reducible refine callF' fun K2 hK2 => ?_); (try simp (maxSteps := 10000000) (disch := first | omega | simp) [q1, q2, hk, isConst]); (first | refine hK2 _ _ _ hw fun _ => ?_ | refine hK2 _ _ _ hst fun _ => ?_ | refine hK2 _ _ _ hch fun _ => ?_); clear hK2 K2; (try simp (maxSteps := 10000000) (disch := first | omega | simp) [q1, q2, hk, isConst]))) <;> clear hK K) | ((with_reducible refine awCond fun A B hA hB => ?_); simp (maxSteps := 10000000) (disch := first | omega | simp) [q1, q2, hk, isConst]; (first | refine ⟨fun h => hA ?_, fun h => hB ?_⟩ | refine hA ?_ | refine hB ?_) <;> (clear hA hB A B; (try (exfalso; omega))))
    all_goals (refine aEnR (aRes [true] fun K hK => ?_); simp (maxSteps := 10000000) (disch := first | omega | simp) []; refine hK _ ?_ (by simp); clear hK; first | done | (simp (maxSteps := 10000000) (disch := first | omega | simp) [*]; done) | (simp (maxSteps := 10000000) (disch := first | omega | simp) [*]; omega) | (simp_all []; done) | (simp_all []; omega))
theorem do_d (m : Image) (q : Req) (h1 : q.kind = 6) (h2 : m.atE q = none) (hl : m.topics.length ≤ 1000000) (hp : ∀ t ∈ m.topics, t.parts.length ≤ 1000000) (hst : ACall pg 24 [encM m, encP (m.atP q)] (.tup [encP (m.cancelP (m.atP q)), errO (m.cancelE (m.atP q))]))
    (hsm : (m.cancelP (m.atP q)).Small) (hk : 0 ≤ q.part) : ACall pg 10 [encM m, encQ q] (.tup [.sl ((m.doL q).map encR), errE (m.doE q)]) := by
  refine s10.call mo (by simp) fun hxs => ?_
  clear hxs
  have hw := where_ok m q hl hp
  have e : m.doE q = erO (m.cancelE (m.atP q)) := by unfold Image.doE; rw [if_neg (by omega), h2, if_neg (by simp), if_neg (by omega)]
  have e3 : m.doP q = m.cancelP (m.atP q) := by unfold Image.doP; rw [if_neg (by omega)]
  rw [h2] at hw
  have q1 : (q.kind != 5) = true := by simp [h1]
  have q3 : (q.kind != 6) = false := by simp [h1]
  have q2 : (q.kind == 5) = false := by simp [h1]
  rw [e]
  unfold c10
  cases hx : m.cancelE (m.atP q) with
  | some er =>
    have e2 : m.doL q = [] := by unfold Image.doL; rw [e, hx]; rfl
    rw [e2, ← errO_E]
    rw [hx] at hst
    obtain ⟨op, a, c⟩ := er
    repeat' first | (with_reducible first | refine fS ?_ | refine fR ?_ | refine fQ ?_ | refine fT ?_ | refine awRet ?_) | ((with_reducible refine awReg fun K hok hK => ?_); clear hok; (try simp (maxSteps := 10000000) (disch := first | omega | simp) [q1, q2, q3, isConst]); (repeat' first | (with_reducible refine hK _ (by simp) ?_) | ((with_reducible refine callF' fun K2 hK2 => ?_); (try simp (maxSteps := 10000000) (disch := first | omega | simp) [q1, q2, q3, isConst]); (first | refine hK2 _ _ _ hw fun _ => ?_ | refine hK2 _ _ _ hst fun _ => ?_); clear hK2 K2; (try simp (maxSteps := 10000000) (disch := first | omega | simp) [q1, q2, q3, isConst]))) <;> clear hK K) | ((with_reducible refine awCond fun A B hA hB => ?_); simp (maxSteps := 10000000) (disch := first | omega | simp) [q1, q2, q3, isConst]; (first | refine ⟨fun h => hA ?_, fun h => hB ?_⟩ | refine hA ?_ | refine hB ?_) <;> (clear hA hB A B; (try (exfalso; omega))))
    all_goals (refine aEnR (aRes [true] fun K hK => ?_); simp (maxSteps := 10000000) (disch := first | omega | simp) [errF]; refine hK _ ?_ (by simp); clear hK; first | done | (simp (maxSteps := 10000000) (disch := first | omega | simp) [errF, *]; done) | (simp (maxSteps := 10000000) (disch := first | omega | simp) [errF, *]; omega) | (simp_all [errF]; done) | (simp_all [errF]; omega))
  | none =>
    obtain ⟨k, hk⟩ := Int.eq_ofNat_of_zero_le hk
    have e2 : m.doL q = [change (m.atI q) k (m.cancelP (m.atP q))] := by unfold Image.doL; rw [e, hx, e3, hk]; rfl
    rw [e2]
    have hch := change_ok (m.atI q) k _ hsm
    rw [hx] at hst
    simp only [encQ_eq, hk] at hw
    clear e e2 e3
    generalize m.cancelP (m.atP q) = sp at *
    generalize m.atI q = ti at *
    generalize m.atP q = tp at *
    repeat' first | (with_reducible first | refine fS ?_ | refine fR ?_ | refine fQ ?_ | refine fT ?_ | refine awRet ?_) | ((with_reducible refine awReg fun K hok hK => ?_); clear hok; (try simp (maxSteps := 10000000) (disch := first | omega | simp) [q1, q2, q3, hk, isConst]); (repeat' first | (with_reducible refine hK _ (by simp) ?_) | ((with_reducible refine callF' fun K2 hK2 => ?_); (try simp (maxSteps := 10000000) (disch := first | omega | simp) [q1, q2, q3, hk, isConst]); (first | refine hK2 _ _ _ hw fun _ => ?_ | refine hK2 _ _ _ hst fun _ => ?_ | refine hK2 _ _ _ hch fun _ => ?_); clear hK2 K2; (try simp (maxSteps := 10000000) (disch := first | omega | simp) [q1, q2, q3, hk, isConst]))) <;> clear hK K) | ((with_reducible refine awCond fun A B hA hB => ?_); simp (maxSteps := 10000000) (disch := first | omega | simp) [q1, q2, q3, hk, isConst]; (first | refine ⟨fun h => hA ?_, fun h => hB ?_⟩ | refine hA ?_ | refine hB ?_) <;> (clear hA hB A B; (try (exfalso; omega))))
    all_goals (refine aEnR (aRes [true] fun K hK => ?_); simp (maxSteps := 10000000) (disch := first | omega | simp) [erO]; refine hK _ ?_ (by simp); clear hK; first | done | (simp (maxSteps := 10000000) (disch := first | omega | simp) [erO, *]; done) | (simp (maxSteps := 10000000) (disch := first | omega | simp) [erO, *]; omega) | (simp_all [erO]; done) | (simp_all [erO]; omega))
end
end Go.Am
end
section
set_option maxRecDepth 100000
set_option maxHeartbeats 0
namespace Go.Am
open Go
noncomputable section
def c12 : SC := (.seq (.reg [⟨some 1, .box 36 (.tmp 0), none, []⟩,
  ⟨some 2, .assign (.const (.slice none 0 0)), none, []⟩] [1]) (.seq (.reg [⟨some 3, .load 36 (.tmp 1), none, []⟩,
  ⟨some 4, .makeFunc (Fn.func 33) #[] #[.tmp 1], none, []⟩,
  ⟨some 5, .call { callee := .value (.func 32), args := #[.tmp 3, .tmp 4], argTypes := #[36, 79] }, none, []⟩,
  ⟨some 2, .assign (.tmp 5), none, []⟩] [2, 5]) .ret))
theorem s12 : TextK Proofs.Tryz.prog 0 12 6 [ResultVar.tmp 2] c12 := .mk' Proofs.Tryz.f12 _ (by kernel_rfl) rfl rfl rfl (by kernel_rfl) rfl (by kernel_rfl)
def c33 : SC := (.seq (.reg [⟨some 2, .box 52 (.tmp 0), none, []⟩,
  ⟨some 3, .alloc 52, none, []⟩] [1, 2, 3]) (.seq (.reg [⟨some 7, .load 36 (.tmp 1), none, []⟩,
  ⟨some 8, .load 52 (.tmp 2), none, []⟩,
  ⟨some 9, .call { callee := .value (.func 21), args := #[.tmp 7, .tmp 8], argTypes := #[36, 52] }, none, []⟩,
  ⟨some 6, .move (.tmp 9), none, []⟩,
  ⟨some 10, .extract (.tmp 6) 0, none, []⟩,
  ⟨some 11, .extract (.tmp 6) 1, none, []⟩,
  ⟨some 4, .alloc 52, none, []⟩,
  ⟨none, .store 52 (.tmp 4) (.tmp 10), none, []⟩,
  ⟨some 5, .assign (.tmp 11), none, []⟩] [3, 4]) (.seq (.reg [⟨some 12, .load 52 (.tmp 4), none, []⟩,
  ⟨none, .store 52 (.tmp 3) (.tmp 12), none, []⟩] [3]) .ret)))
theorem s33 : TextK Proofs.Tryz.prog 0 33 13 [ResultVar.cell 3 52] c33 := .mk' Proofs.Tryz.f33 _ (by kernel_rfl) rfl rfl rfl (by kernel_rfl) rfl (by kernel_rfl)
def c13 : SC := (.seq (.reg [⟨some 1, .box 36 (.tmp 0), none, []⟩,
  ⟨some 2, .assign (.const (.int .i64 0)), none, []⟩] [1, 25]) (.seq (.reg [⟨some 3, .assign (.const (.int .i64 0)), none, []⟩] [1, 3, 25]) (.seq (.reg [⟨some 8, .fieldAddr 36 (.tmp 1) 1, none, []⟩,
  ⟨some 9, .load 32 (.tmp 8), none, []⟩,
  ⟨some 10, .call { callee := .builtin .len, args := #[.tmp 9], argTypes := #[32] }, none, []⟩,
  ⟨some 11, .move (.const (.int .i64 0)), none, []⟩] [1, 3, 8, 9, 10, 11, 25, 27]) (.seq (.block 0 (.seq (.loop (.seq (.reg [⟨some 12, .binOp .lss 3 (.tmp 11) (.tmp 10) 3, none, []⟩] [1, 3, 8, 9, 10, 11, 12, 25, 27]) (.seq (.cond (.tmp 12) .skip (.exit 0)) (.seq (.block 1 (.seq (.reg [⟨some 13, .indexAddr 32 (.tmp 9) (.tmp 11), none, []⟩,
  ⟨some 14, .load 50 (.tmp 13), none, []⟩,
  ⟨some 5, .alloc 50, none, []⟩,
  ⟨none, .store 50 (.tmp 5) (.tmp 14), none, []⟩] [1, 3, 5, 8, 9, 10, 11, 25, 27]) (.seq (.reg [⟨some 15, .fieldAddr 50 (.tmp 5) 2, none, []⟩,
  ⟨some 16, .load 48 (.tmp 15), none, []⟩,
  ⟨some 17, .call { callee := .builtin .len, args := #[.tmp 16], argTypes := #[48] }, none, []⟩,
  ⟨some 18, .move (.const (.int .i64 0)), none, []⟩] [1, 3, 5, 8, 9, 10, 11, 15, 16, 17, 18, 25, 26, 27]) (.seq (.block 2 (.seq (.loop (.seq (.reg [⟨some 19, .binOp .lss 3 (.tmp 18) (.tmp 17) 3, none, []⟩] [1, 3, 5, 8, 9, 10, 11, 15, 16, 17, 18, 19, 25, 26, 27]) (.seq (.cond (.tmp 19) .skip (.exit 2)) (.seq (.block 3 (.seq (.reg [⟨some 20, .indexAddr 48 (.tmp 16) (.tmp 18), none, []⟩,
  ⟨some 21, .load 52 (.tmp 20), none, []⟩,
  ⟨some 7, .alloc 52, none, []⟩,
  ⟨none, .store 52 (.tmp 7) (.tmp 21), none, []⟩] [1, 3, 5, 7, 8, 9, 10, 11, 15, 16, 17, 18, 25, 26, 27]) (.seq (.reg [⟨some 22, .load 52 (.tmp 7), none, []⟩,
  ⟨some 23, .call { callee := .value (.func 20), args := #[.tmp 22], argTypes := #[52] }, none, []⟩] [1, 3, 5, 8, 9, 10, 11, 15, 16, 17, 18, 23, 25, 26, 27]) (.seq (.cond (.tmp 23) (.seq (.reg [⟨some 24, .move (.tmp 3), none, []⟩,
  ⟨some 25, .binOp .add 3 (.tmp 24) (.const (.int .i64 1)) 3, none, []⟩,
  ⟨some 3, .assign (.tmp 25), none, []⟩] [1, 3, 5, 8, 9, 10, 11, 15, 16, 17, 18, 25, 26, 27]) .skip) .skip) .skip)))) (.seq (.reg [⟨some 26, .binOp .add 3 (.tmp 18) (.const (.int .i64 1)) 3, none, []⟩,
  ⟨some 18, .move (.tmp 26), none, []⟩] [1, 3, 5, 8, 9, 10, 11, 15, 16, 17, 18, 25, 26, 27]) .skip))))) .skip)) .skip)))) (.seq (.reg [⟨some 27, .binOp .add 3 (.tmp 11) (.const (.int .i64 1)) 3, none, []⟩,
  ⟨some 11, .move (.tmp 27), none, []⟩] [1, 3, 8, 9, 10, 11, 25, 27]) .skip))))) .skip)) (.seq (.reg [⟨some 28, .move (.tmp 3), none, []⟩,
  ⟨some 2, .assign (.tmp 28), none, []⟩] [2, 3, 25, 28]) .ret)))))
theorem s13 : TextK Proofs.Tryz.prog 0 13 29 [ResultVar.tmp 2] c13 := .mk' Proofs.Tryz.f13 _ (by kernel_rfl) rfl rfl rfl (by kernel_rfl) rfl (by kernel_rfl)
theorem due1_ok (m : Image) (p : Part) (hbk : m.Brk) (hp : p.Small) (hb : ∀ n ∈ p.ids, big62 n) (he : 0 ≤ p.epoch ∧ p.epoch ≤ 1000000) : ACall pg 33 [encP p, .ip (encM m).cells 0] (encP (m.finish p).1) := by
  refine s33.call mo (by simp) fun hxs => ?_
  clear hxs
  unfold c33
  repeat' first | (with_reducible first | refine awRet ?_) | ((with_reducible refine awReg fun K hok hK => ?_); clear hok; (try simp (maxSteps := 10000000) (disch := first | omega | simp) []); (repeat' first | (with_reducible refine hK _ (by simp) ?_) | ((with_reducible refine callF' fun K2 hK2 => ?_); (try simp (maxSteps := 10000000) (disch := first | omega | simp) []); (refine hK2 _ _ _ (finish_ok m p hbk hp hb he) fun _ => ?_); clear hK2 K2; (try simp (maxSteps := 10000000) (disch := first | omega | simp) []))) <;> clear hK K) | ((with_reducible refine awCond fun A B hA hB => ?_); simp (maxSteps := 10000000) (disch := first | omega | simp) []; (first | refine ⟨fun h => hA ?_, fun h => hB ?_⟩ | refine hA ?_ | refine hB ?_) <;> (clear hA hB A B; (try (exfalso; omega))))
  (refine aEnR (aRes [true] fun K hK => ?_); simp (maxSteps := 10000000) (disch := first | omega | simp) []; refine hK _ ?_ (by simp); clear hK; first | done | (simp (maxSteps := 10000000) (disch := first | omega | simp) [*]; done) | (simp (maxSteps := 10000000) (disch := first | omega | simp) [*]; omega) | (simp_all []; done) | (simp_all []; omega))
theorem due_ok (m : Image) (hbk : m.Brk) (hm : m.Sml) (hb : ∀ t ∈ m.topics, ∀ p ∈ t.parts, ∀ n ∈ p.ids, big62 n) (he : ∀ t ∈ m.topics, ∀ p ∈ t.parts, 0 ≤ p.epoch ∧ p.epoch ≤ 1000000) (hS : ∀ t ∈ m.topics, ∀ p ∈ t.parts, (m.finish p).1.Small) : ACall pg 12 [encM m] (.sl (m.due.map encR)) := by
  refine s12.call mo (by simp) fun hxs => ?_
  clear hxs
  unfold c12
  have hall := eall_ok m 33 [.ip (encM m).cells 0] (by simp [pureL, pureB]) (fun p => (m.finish p).1) (fun t ht p hp => due1_ok m p hbk (hm.ps t ht p hp) (hb t ht p hp) (he t ht p hp)) hm hS
  repeat' first | (with_reducible first | refine awRet ?_) | ((with_reducible refine awReg fun K hok hK => ?_); clear hok; (try simp (maxSteps := 10000000) (disch := first | omega | simp) []); (repeat' first | (with_reducible refine hK _ (by simp) ?_) | ((with_reducible refine callF' fun K2 hK2 => ?_); (try simp (maxSteps := 10000000) (disch := first | omega | simp) []); (refine hK2 _ _ _ hall fun _ => ?_); clear hK2 K2; (try simp (maxSteps := 10000000) (disch := first | omega | simp) []))) <;> clear hK K) | ((with_reducible refine awCond fun A B hA hB => ?_); simp (maxSteps := 10000000) (disch := first | omega | simp) []; (first | refine ⟨fun h => hA ?_, fun h => hB ?_⟩ | refine hA ?_ | refine hB ?_) <;> (clear hA hB A B; (try (exfalso; omega))))
  (refine aEnR (aRes [true] fun K hK => ?_); simp (maxSteps := 10000000) (disch := first | omega | simp) [Image.due]; refine hK _ ?_ (by simp); clear hK; first | done | (simp (maxSteps := 10000000) (disch := first | omega | simp) [Image.due, *]; done) | (simp (maxSteps := 10000000) (disch := first | omega | simp) [Image.due, *]; omega) | (simp_all [Image.due]; done) | (simp_all [Image.due]; omega))
theorem underN_cons (p : Part) (l : List Part) : underN (p :: l) = (if p.under then 1 else 0) + underN l := by
  unfold underN
  rw [List.filter_cons]
  cases p.under <;> simp <;> omega
theorem left_ok (m : Image) (hm : m.Sml) : ACall pg 13 [encM m] (I m.left) := by
  refine s13.call mo (by simp) fun hxs => ?_
  clear hxs
  have htl := hm.tl
  unfold c13
  repeat' first | (with_reducible first | refine thN ?_ | refine thE ?_ | refine inN ?_ | refine inH ?_ | refine fS ?_ | refine fR ?_ | refine fQ ?_ | refine fE ?_ | refine awBlock ?_ | refine awExit ?_ | refine awRet ?_ | refine awSkip ?_) | ((with_reducible refine awReg fun K hok hK => ?_); clear hok; (try simp (maxSteps := 10000000) (disch := first | omega | simp) []); (repeat' first | (with_reducible refine hK _ (by simp) ?_)) <;> clear hK K) | ((with_reducible refine awCond fun A B hA hB => ?_); simp (maxSteps := 10000000) (disch := first | omega | simp) []; (first | refine ⟨fun h => hA ?_, fun h => hB ?_⟩ | refine hA ?_ | refine hB ?_) <;> (clear hA hB A B; (try (exfalso; omega))))
  refine awFor m.topics.length (fun i (s : Nat) => s + ((m.topics.drop i).map fun t => underN t.parts).sum = m.left ∧ s ≤ i * 1000) (fun i s => [(11, .p (I i)), (10, .p (I m.topics.length)), (9, .p (.sl (m.topics.map encT))), (3, .p (I s))]) 0 (Wk.ofA (by simp)) ⟨by simp [Image.left], by simp⟩ fun i s hi hs => ?_
  obtain ⟨hs, hsl⟩ := hs
  by_cases hlt : i < m.topics.length
  · rw [drop_cons hlt, List.map_cons, List.sum_cons] at hs
    have htm := List.getElem_mem hlt
    have hpl := hm.pl _ htm
    repeat' first | (with_reducible first | refine thN ?_ | refine thE ?_ | refine inN ?_ | refine inH ?_ | refine fS ?_ | refine fR ?_ | refine fQ ?_ | refine fE ?_ | refine awBlock ?_ | refine awExit ?_ | refine awRet ?_ | refine awSkip ?_) | ((with_reducible refine awReg fun K hok hK => ?_); clear hok; (try simp (maxSteps := 10000000) (disch := first | omega | simp) [hlt]); (repeat' first | (with_reducible refine hK _ (by simp) ?_)) <;> clear hK K) | ((with_reducible refine awCond fun A B hA hB => ?_); simp (maxSteps := 10000000) (disch := first | omega | simp) [hlt]; (first | refine ⟨fun h => hA ?_, fun h => hB ?_⟩ | refine hA ?_ | refine hB ?_) <;> (clear hA hB A B; (try (exfalso; omega))))
    refine awFor m.topics[i].parts.length (fun k (s : Nat) => s + (underN (m.topics[i].parts.drop k) + ((m.topics.drop (i + 1)).map fun t => underN t.parts).sum) = m.left ∧ s ≤ i * 1000 + k) (fun k s => [(18, .p (I k)), (17, .p (I m.topics[i].parts.length)), (16, .p (.sl (m.topics[i].parts.map encP))), (11, .p (I i)), (10, .p (I m.topics.length)), (9, .p (.sl (m.topics.map encT))), (3, .p (I s))]) s (Wk.ofA (by simp)) ⟨by simpa using hs, by omega⟩ fun k s hk hs2 => ?_
    obtain ⟨hs2, hs2l⟩ := hs2
    by_cases hkt : k < m.topics[i].parts.length
    · rw [drop_cons hkt, underN_cons] at hs2
      have hu := under_ok m.topics[i].parts[k]
      cases hx : m.topics[i].parts[k].under with
      | true =>
        rw [hx] at hu hs2
        simp only [if_true] at hs2
        repeat' first | (with_reducible first | refine thN ?_ | refine thE ?_ | refine inN ?_ | refine inH ?_ | refine fS ?_ | refine fR ?_ | refine fQ ?_ | refine fE ?_ | refine awBlock ?_ | refine awExit ?_ | refine awRet ?_ | refine awSkip ?_) | ((with_reducible refine awReg fun K hok hK => ?_); clear hok; (try simp (maxSteps := 10000000) (disch := first | omega | simp) [hkt]); (repeat' first | (with_reducible refine hK _ (by simp) ?_) | ((with_reducible refine callS' fun K2 hK2 => ?_); (try simp (maxSteps := 10000000) (disch := first | omega | simp) [hkt]); (refine hK2 _ _ hu rfl fun hk9 => ?_); clear hk9; clear hK2 K2; (try simp (maxSteps := 10000000) (disch := first | omega | simp) [hkt]))) <;> clear hK K) | ((with_reducible refine awCond fun A B hA hB => ?_); simp (maxSteps := 10000000) (disch := first | omega | simp) [hkt]; (first | refine ⟨fun h => hA ?_, fun h => hB ?_⟩ | refine hA ?_ | refine hB ?_) <;> (clear hA hB A B; (try (exfalso; omega))))
        (refine ⟨?_, s + 1, ?_, Wk.ofA ?_⟩; assumption; rotate_left; focus (simp []; done))
        exact ⟨by omega, by omega⟩
      | false =>
        rw [hx] at hu hs2
        simp only [Bool.false_eq_true, if_false] at hs2
        repeat' first | (with_reducible first | refine thN ?_ | refine thE ?_ | refine inN ?_ | refine inH ?_ | refine fS ?_ | refine fR ?_ | refine fQ ?_ | refine fE ?_ | refine awBlock ?_ | refine awExit ?_ | refine awRet ?_ | refine awSkip ?_) | ((with_reducible refine awReg fun K hok hK => ?_); clear hok; (try simp (maxSteps := 10000000) (disch := first | omega | simp) [hkt]); (repeat' first | (with_reducible refine hK _ (by simp) ?_) | ((with_reducible refine callS' fun K2 hK2 => ?_); (try simp (maxSteps := 10000000) (disch := first | omega | simp) [hkt]); (refine hK2 _ _ hu rfl fun hk9 => ?_); clear hk9; clear hK2 K2; (try simp (maxSteps := 10000000) (disch := first | omega | simp) [hkt]))) <;> clear hK K) | ((with_reducible refine awCond fun A B hA hB => ?_); simp (maxSteps := 10000000) (disch := first | omega | simp) [hkt]; (first | refine ⟨fun h => hA ?_, fun h => hB ?_⟩ | refine hA ?_ | refine hB ?_) <;> (clear hA hB A B; (try (exfalso; omega))))
        (refine ⟨?_, s, ?_, Wk.ofA ?_⟩; assumption; rotate_left; focus (simp []; done))
        exact ⟨by omega, by omega⟩
    · rw [drop_nil (by omega)] at hs2
      simp only [underN, List.filter_nil, List.length_nil] at hs2
      repeat' first | (with_reducible first | refine thN ?_ | refine thE ?_ | refine inN ?_ | refine inH ?_ | refine fS ?_ | refine fR ?_ | refine fQ ?_ | refine fE ?_ | refine awBlock ?_ | refine awExit ?_ | refine awRet ?_ | refine awSkip ?_) | ((with_reducible refine awReg fun K hok hK => ?_); clear hok; (try simp (maxSteps := 10000000) (disch := first | omega | simp) [hkt]); (repeat' first | (with_reducible refine hK _ (by simp) ?_)) <;> clear hK K) | ((with_reducible refine awCond fun A B hA hB => ?_); simp (maxSteps := 10000000) (disch := first | omega | simp) [hkt]; (first | refine ⟨fun h => hA ?_, fun h => hB ?_⟩ | refine hA ?_ | refine hB ?_) <;> (clear hA hB A B; (try (exfalso; omega))))
      (refine ⟨?_, s, ?_, Wk.ofA ?_⟩; assumption; rotate_left; focus (simp []; done))
      exact ⟨by simp only [underN]; omega, by omega⟩
  · rw [drop_nil (by omega)] at hs
    simp only [List.map_nil, List.sum_nil] at hs
    repeat' first | (with_reducible first | refine thN ?_ | refine thE ?_ | refine inN ?_ | refine inH ?_ | refine fS ?_ | refine fR ?_ | refine fQ ?_ | refine fE ?_ | refine awBlock ?_ | refine awExit ?_ | refine awRet ?_ | refine awSkip ?_) | ((with_reducible refine awReg fun K hok hK => ?_); clear hok; (try simp (maxSteps := 10000000) (disch := first | omega | simp) [hlt]); (repeat' first | (with_reducible refine hK _ (by simp) ?_)) <;> clear hK K) | ((with_reducible refine awCond fun A B hA hB => ?_); simp (maxSteps := 10000000) (disch := first | omega | simp) [hlt]; (first | refine ⟨fun h => hA ?_, fun h => hB ?_⟩ | refine hA ?_ | refine hB ?_) <;> (clear hA hB A B; (try (exfalso; omega))))
    have hs : s = m.left := by omega
    subst hs
    (refine aEnR (aRes [] fun K hK => ?_); simp (maxSteps := 10000000) (disch := first | omega | simp) []; refine hK _ ?_ (by simp); clear hK; first | done | (simp (maxSteps := 10000000) (disch := first | omega | simp) [*]; done) | (simp (maxSteps := 10000000) (disch := first | omega | simp) [*]; omega) | (simp_all []; done) | (simp_all []; omega))
end
end Go.Am
end
