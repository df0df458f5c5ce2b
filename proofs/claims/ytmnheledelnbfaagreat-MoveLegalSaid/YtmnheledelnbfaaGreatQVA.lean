/- Part of the proof of a law of moving. -/
import Derived.Test.YtmnheledelnbfaaGreatQV4
import Derived.Test.YtmnheledelnbfaaGreatQV5
import Derived.Test.YtmnheledelnbfaaGreatQVB
set_option linter.all false
section
set_option maxRecDepth 100000
set_option maxHeartbeats 0
namespace Go.Am
open Go
noncomputable section
def c22 : SC := (.seq (.reg [⟨some 3, .box 36 (.tmp 0), none, []⟩,
  ⟨some 4, .box 52 (.tmp 1), none, []⟩,
  ⟨some 6, .alloc 52, none, []⟩,
  ⟨some 7, .assign (.const .nilIface), none, []⟩] [2, 3, 4, 6, 9, 31, 33, 37, 45, 54, 85]) (.seq (.reg [⟨some 11, .load 36 (.tmp 3), none, [12, 13, 14, 15]⟩,
  ⟨some 12, .move (.tmp 2), none, [11, 13, 14]⟩,
  ⟨some 13, .fieldAddr 52 (.tmp 4) 0, none, [11, 12]⟩,
  ⟨some 14, .load 23 (.tmp 13), none, [11, 12]⟩,
  ⟨some 15, .call { callee := .value (.func 36), args := #[.tmp 12, .tmp 14], argTypes := #[23, 23] }, none, [11]⟩,
  ⟨some 16, .call { callee := .value (.func 38), args := #[.tmp 11, .tmp 15], argTypes := #[36, 23] }, none, []⟩,
  ⟨some 8, .assign (.tmp 16), none, []⟩] [2, 4, 6, 8, 9, 16, 31, 33, 37, 45, 54, 85]) (.seq (.reg [⟨some 17, .move (.tmp 8), none, []⟩,
  ⟨some 18, .binOp .neq 39 (.tmp 17) (.const .nilIface) 39, none, []⟩,
  ⟨some 19, .move (.tmp 18), none, []⟩,
  ⟨some 20, .move (.tmp 2), (some (19, true)), []⟩,
  ⟨some 21, .fieldAddr 52 (.tmp 4) 0, (some (19, true)), []⟩,
  ⟨some 22, .load 23 (.tmp 21), (some (19, true)), []⟩,
  ⟨some 23, .call { callee := .value (.func 36), args := #[.tmp 20, .tmp 22], argTypes := #[23, 23] }, (some (19, true)), []⟩,
  ⟨some 24, .call { callee := .builtin .len, args := #[.tmp 23], argTypes := #[23] }, (some (19, true)), []⟩,
  ⟨some 25, .binOp .gtr 3 (.tmp 24) (.const (.int .i64 0)) 3, (some (19, true)), []⟩,
  ⟨some 26, .pick (.tmp 19) (.tmp 25) (.const (.bool false)), none, []⟩] [2, 4, 6, 8, 9, 16, 18, 19, 25, 26, 31, 33, 37, 45, 54, 85]) (.seq (.cond (.tmp 26) (.seq (.reg [⟨some 27, .load 52 (.tmp 4), none, [28, 29, 30, 31]⟩,
  ⟨some 28, .move (.tmp 2), none, [27, 30]⟩,
  ⟨some 29, .call { callee := .builtin .len, args := #[.tmp 28], argTypes := #[23] }, none, [27, 30]⟩,
  ⟨some 30, .move (.tmp 8), none, [27, 28, 29]⟩,
  ⟨some 31, .call { callee := .value (.func 39), args := #[.const (.string ⟨#[116, 97, 114, 103, 101, 116]⟩), .tmp 29, .tmp 30], argTypes := #[9, 3, 39] }, none, [27]⟩,
  ⟨none, .store 52 (.tmp 6) (.tmp 27), none, []⟩,
  ⟨some 7, .assign (.tmp 31), none, []⟩] [6, 7, 9, 31, 33, 37, 45, 54, 85]) .ret) .skip) (.seq (.reg [⟨some 32, .move (.tmp 2), none, []⟩,
  ⟨some 33, .call { callee := .value (.func 40), args := #[.tmp 32], argTypes := #[23] }, none, []⟩,
  ⟨some 9, .assign (.tmp 33), none, []⟩] [2, 4, 6, 9, 31, 33, 37, 45, 54, 85]) (.seq (.reg [⟨some 34, .move (.tmp 9), none, []⟩,
  ⟨some 35, .binOp .neq 39 (.tmp 34) (.const .nilIface) 39, none, []⟩] [2, 4, 6, 9, 31, 33, 35, 37, 45, 54, 85]) (.seq (.cond (.tmp 35) (.seq (.reg [⟨some 36, .load 52 (.tmp 4), none, []⟩,
  ⟨some 37, .move (.tmp 9), none, []⟩,
  ⟨none, .store 52 (.tmp 6) (.tmp 36), none, []⟩,
  ⟨some 7, .assign (.tmp 37), none, []⟩] [6, 7, 9, 31, 33, 37, 45, 54, 85]) .ret) .skip) (.seq (.block 0 (.seq (.reg [⟨some 39, .load 52 (.tmp 4), none, []⟩,
  ⟨some 40, .call { callee := .value (.func 20), args := #[.tmp 39], argTypes := #[52] }, none, []⟩,
  ⟨some 38, .assign (.tmp 40), none, []⟩] [2, 4, 6, 9, 31, 33, 37, 38, 40, 45, 54, 85]) (.seq (.cond (.tmp 38) (.seq (.reg [⟨some 41, .load 52 (.tmp 4), none, [42, 43, 44, 45]⟩,
  ⟨some 42, .fieldAddr 52 (.tmp 4) 4, none, [41]⟩,
  ⟨some 43, .load 23 (.tmp 42), none, [41]⟩,
  ⟨some 44, .call { callee := .builtin .len, args := #[.tmp 43], argTypes := #[23] }, none, [41]⟩,
  ⟨some 45, .call { callee := .value (.func 29), args := #[.const (.string ⟨#[109, 111, 118, 101]⟩), .tmp 44, .const (.int .i64 10)], argTypes := #[9, 3, 42] }, none, [41]⟩,
  ⟨none, .store 52 (.tmp 6) (.tmp 41), none, []⟩,
  ⟨some 7, .assign (.tmp 45), none, []⟩] [6, 7, 9, 31, 33, 37, 45, 54, 85]) .ret) (.seq (.reg [⟨some 47, .fieldAddr 52 (.tmp 4) 0, none, []⟩,
  ⟨some 48, .load 23 (.tmp 47), none, []⟩,
  ⟨some 49, .move (.tmp 2), none, []⟩,
  ⟨some 50, .call { callee := .value (.func 41), args := #[.tmp 48, .tmp 49], argTypes := #[23, 23] }, none, []⟩,
  ⟨some 46, .assign (.tmp 50), none, []⟩] [2, 4, 6, 9, 31, 33, 37, 45, 46, 50, 54, 85]) (.seq (.cond (.tmp 46) (.seq (.reg [⟨some 51, .load 52 (.tmp 4), none, [52, 53, 54]⟩,
  ⟨some 52, .move (.tmp 2), none, [51]⟩,
  ⟨some 53, .call { callee := .builtin .len, args := #[.tmp 52], argTypes := #[23] }, none, [51]⟩,
  ⟨some 54, .call { callee := .value (.func 29), args := #[.const (.string ⟨#[116, 97, 114, 103, 101, 116]⟩), .tmp 53, .const (.int .i64 9)], argTypes := #[9, 3, 42] }, none, [51]⟩,
  ⟨none, .store 52 (.tmp 6) (.tmp 51), none, []⟩,
  ⟨some 7, .assign (.tmp 54), none, []⟩] [6, 7, 9, 31, 33, 37, 45, 54, 85]) .ret) .skip) .skip))) .skip))) (.seq (.reg [⟨some 55, .load 52 (.tmp 4), none, []⟩,
  ⟨some 56, .call { callee := .value (.func 42), args := #[.tmp 55], argTypes := #[52] }, none, []⟩,
  ⟨some 10, .alloc 52, none, []⟩,
  ⟨none, .store 52 (.tmp 10) (.tmp 56), none, []⟩] [2, 4, 6, 9, 10, 31, 33, 37, 45, 54, 85]) (.seq (.reg [⟨some 57, .move (.tmp 2), none, [58, 59, 61, 62, 63]⟩,
  ⟨some 58, .fieldAddr 52 (.tmp 4) 0, none, [57, 61, 62, 63]⟩,
  ⟨some 59, .load 23 (.tmp 58), none, [57, 61, 62, 63]⟩,
  ⟨some 60, .call { callee := .value (.func 36), args := #[.tmp 57, .tmp 59], argTypes := #[23, 23] }, none, [61, 62, 63]⟩,
  ⟨some 61, .fieldAddr 52 (.tmp 4) 0, none, [57, 58, 59, 60, 63, 65]⟩,
  ⟨some 62, .load 23 (.tmp 61), none, [57, 58, 59, 60, 63, 65]⟩,
  ⟨some 63, .move (.tmp 2), none, [57, 58, 59, 60, 61, 62, 65]⟩,
  ⟨some 64, .call { callee := .value (.func 36), args := #[.tmp 62, .tmp 63], argTypes := #[23, 23] }, none, [65]⟩,
  ⟨some 65, .fieldAddr 52 (.tmp 10) 4, none, [61, 62, 63, 64]⟩,
  ⟨none, .store 23 (.tmp 65) (.tmp 60), none, []⟩,
  ⟨some 66, .fieldAddr 52 (.tmp 10) 5, none, []⟩,
  ⟨none, .store 23 (.tmp 66) (.tmp 64), none, []⟩] [2, 4, 6, 9, 10, 31, 33, 37, 45, 54, 85]) (.seq (.reg [⟨some 67, .move (.tmp 2), none, [68, 69, 70, 71, 73, 74]⟩,
  ⟨some 68, .move (.tmp 2), none, [67, 70, 71, 73, 74]⟩,
  ⟨some 69, .call { callee := .builtin .len, args := #[.tmp 68], argTypes := #[23] }, none, [67, 70, 71, 73, 74]⟩,
  ⟨some 70, .move (.tmp 2), none, [67, 68, 69, 73, 74]⟩,
  ⟨some 71, .call { callee := .builtin .len, args := #[.tmp 70], argTypes := #[23] }, none, [67, 68, 69, 73, 74]⟩,
  ⟨some 72, .slice 23 (.tmp 67) none (some (.tmp 69)) (some (.tmp 71)), none, [73, 74]⟩,
  ⟨some 73, .fieldAddr 52 (.tmp 10) 5, none, [67, 68, 69, 70, 71, 72]⟩,
  ⟨some 74, .load 23 (.tmp 73), none, [67, 68, 69, 70, 71, 72]⟩,
  ⟨some 75, .call { callee := .builtin .append, args := #[.tmp 72, .tmp 74], argTypes := #[23, 23] }, none, []⟩,
  ⟨some 76, .fieldAddr 52 (.tmp 10) 0, none, []⟩,
  ⟨none, .store 23 (.tmp 76) (.tmp 75), none, []⟩] [4, 6, 9, 10, 31, 33, 37, 45, 54, 85]) (.seq (.reg [⟨some 77, .fieldAddr 52 (.tmp 10) 0, none, []⟩,
  ⟨some 78, .load 23 (.tmp 77), none, []⟩,
  ⟨some 79, .call { callee := .builtin .len, args := #[.tmp 78], argTypes := #[23] }, none, []⟩,
  ⟨some 80, .binOp .gtr 3 (.tmp 79) (.const (.int .i64 7)) 3, none, []⟩] [4, 6, 9, 10, 31, 33, 37, 45, 54, 80, 85]) (.seq (.cond (.tmp 80) (.seq (.reg [⟨some 81, .load 52 (.tmp 4), none, [82, 83, 84, 85]⟩,
  ⟨some 82, .fieldAddr 52 (.tmp 10) 0, none, [81]⟩,
  ⟨some 83, .load 23 (.tmp 82), none, [81]⟩,
  ⟨some 84, .call { callee := .builtin .len, args := #[.tmp 83], argTypes := #[23] }, none, [81]⟩,
  ⟨some 85, .call { callee := .value (.func 29), args := #[.const (.string ⟨#[116, 97, 114, 103, 101, 116]⟩), .tmp 84, .const (.int .i64 6)], argTypes := #[9, 3, 42] }, none, [81]⟩,
  ⟨none, .store 52 (.tmp 6) (.tmp 81), none, []⟩,
  ⟨some 7, .assign (.tmp 85), none, []⟩] [6, 7, 9, 31, 33, 37, 45, 54, 85]) .ret) .skip) (.seq (.reg [⟨some 86, .load 52 (.tmp 10), none, []⟩,
  ⟨some 87, .call { callee := .value (.func 42), args := #[.tmp 86], argTypes := #[52] }, none, []⟩,
  ⟨none, .store 52 (.tmp 6) (.tmp 87), none, []⟩,
  ⟨some 7, .assign (.const .nilIface), none, []⟩] [6, 7, 9, 31, 33, 37, 45, 54, 85]) .ret))))))))))))))
theorem s22 : TextK Proofs.Tryz.prog 0 22 88 [ResultVar.cell 6 52, ResultVar.tmp 7] c22 := .mk' Proofs.Tryz.f22 _ (by kernel_rfl) rfl rfl rfl (by kernel_rfl) rfl (by kernel_rfl)
@[simp] theorem pureL_ints (l : List Int) : pureL (l.map I) = true := by rw [pureL_eq, List.all_eq_true]; intro x hx; obtain ⟨n, _, rfl⟩ := List.mem_map.1 hx; rfl
theorem ck_or {m : Image} {p : Part} {t : List Int} (h1 : ¬ ((ckP m.order (minus t p.ids)).isSome = true ∧ 0 < (minus t p.ids).length)) : ckP m.order (minus t p.ids) = none ∨ ∃ b, ckP m.order (minus t p.ids) = some b ∧ ¬ 0 < (minus t p.ids).length := by
  cases hx : ckP m.order (minus t p.ids) with
  | none => exact .inl rfl
  | some b => exact .inr ⟨b, rfl, fun h => h1 ⟨by rw [hx]; rfl, h⟩⟩
theorem startP_no {m : Image} {p : Part} {t : List Int} {e : Er} (h : m.startE p t = some e) : m.startP p t = p := by unfold Image.startP; rw [h]; rfl
end
end Go.Am
end
section
set_option maxRecDepth 100000
set_option maxHeartbeats 0
namespace Go.Am
open Go
noncomputable section
theorem start_a (m : Image) (p : Part) (t : List Int) (hb : m.brokers.length ≤ 100) (hp : p.Small) (ht : t.length ≤ 1000) (hpi : p.ids.length ≤ 1000) (h1 : (ckP m.order (minus t p.ids)).isSome = true ∧ 0 < (minus t p.ids).length) : ACall pg 22 [encM m, encP p, Li t] (.tup [encP (m.startP p t), errE (m.startE p t)]) := by
  refine s22.call mo (by simp) fun hxs => ?_
  clear hxs
  have hw1 := without_ok t p.ids (by omega) (by omega)
  have hw2 := without_ok p.ids t (by omega) (by omega)
  have hl1 := minus_len t p.ids
  have hl2 := minus_len p.ids t
  have hck := check_ok m (minus t p.ids) hb (by omega)
  have hds := distinct_ok t (by omega)
  have hu := under_ok p
  have heq := equal_ok p.ids t (by omega) (by omega)
  unfold c22
  have e : m.startE p t = (erO (ckP m.order (minus t p.ids))).map (.fault tgt t.length) := by unfold Image.startE; rw [if_pos h1]
  have e2 : m.startP p t = p := by unfold Image.startP; rw [e]; obtain ⟨x, hx⟩ := Option.isSome_iff_exists.1 h1.1; rw [hx]; rfl
  rw [e, e2]
  obtain ⟨⟨op, a, c⟩, hx⟩ := Option.isSome_iff_exists.1 h1.1
  have hwr := wrap_ok tgt t.length (some (Er.fault op a (.code c)))
  have hf : errE (some (Er.fault op a (.code c))) = errF op a c := (errO_E (some (op, a, c))).symm
  rw [hf] at hwr
  obtain ⟨ty, v, he⟩ := encE_if (.fault tgt t.length (Er.fault op a (.code c)))
  simp only [Option.map_some, errE_some, he] at hwr
  rw [hx] at hck ⊢
  simp only [erO, Option.map_some, errE_some, he]
  have h2 := h1.2
  clear h1 e e2 hf
  repeat' first | (with_reducible first | refine fR ?_ | refine fQ ?_ | refine fT ?_ | refine awRet ?_) | ((with_reducible refine awReg fun K hok hK => ?_); clear hok; (try simp (maxSteps := 10000000) (disch := first | omega | simp) [h2, isConst]); (repeat' first | (with_reducible refine hK _ (by simp) ?_) | ((first | ((with_reducible refine callS' fun K2 hK2 => ?_); (try simp (maxSteps := 10000000) (disch := first | omega | simp) [h2, isConst]); (first | refine hK2 _ _ hw1 rfl fun hk9 => ?_ | refine hK2 _ _ hck rfl fun hk9 => ?_ | refine hK2 _ _ hwr rfl fun hk9 => ?_); clear hk9; clear hK2 K2) | ((with_reducible refine callF' fun K2 hK2 => ?_); (try simp (maxSteps := 10000000) (disch := first | omega | simp) [h2, isConst]); (first | refine hK2 _ _ _ hw1 fun _ => ?_ | refine hK2 _ _ _ hck fun _ => ?_ | refine hK2 _ _ _ hwr fun _ => ?_); clear hK2 K2) | ((with_reducible refine sideS' fun K2 hK2 => ?_); (try simp (maxSteps := 10000000) (disch := first | omega | simp) [h2, isConst]); (first | refine hK2 _ _ (hw1) rfl ?_ | refine hK2 _ _ (hck) rfl ?_ | refine hK2 _ _ (hwr) rfl ?_); clear hK2 K2) | ((with_reducible refine sideF' fun K2 hK2 => ?_); (try simp (maxSteps := 10000000) (disch := first | omega | simp) [h2, isConst]); (first | refine hK2 _ _ _ hw1 (by simp) ?_ | refine hK2 _ _ _ hck (by simp) ?_ | refine hK2 _ _ _ hwr (by simp) ?_); clear hK2 K2) | ((with_reducible refine sideQ' ?_ ?_ fun K2 hK2 => ?_); exact rfl; exact rfl; (try simp (maxSteps := 10000000) (disch := first | omega | simp) [h2, isConst]); with_reducible refine hK2 _ _ ?_; clear hK2 K2)); (try simp (maxSteps := 10000000) (disch := first | omega | simp) [h2, isConst]))) <;> clear hK K) | ((with_reducible refine awCond fun A B hA hB => ?_); simp (maxSteps := 10000000) (disch := first | omega | simp) [h2, isConst]; (first | refine ⟨fun h => hA ?_, fun h => hB ?_⟩ | refine hA ?_ | refine hB ?_) <;> (clear hA hB A B; (try (exfalso; omega))))
  all_goals (refine aEnR (aRes [true] fun K hK => ?_); simp (maxSteps := 10000000) (disch := first | omega | simp) []; refine hK _ ?_ (by simp); clear hK; first | done | (simp (maxSteps := 10000000) (disch := first | omega | simp) [*]; done) | (simp (maxSteps := 10000000) (disch := first | omega | simp) [*]; omega) | (simp_all []; done) | (simp_all []; omega))
end
end Go.Am
end
section
set_option maxRecDepth 100000
set_option maxHeartbeats 0
namespace Go.Am
open Go
noncomputable section
theorem start_b (m : Image) (p : Part) (t : List Int) (hb : m.brokers.length ≤ 100) (hp : p.Small) (ht : t.length ≤ 1000) (hpi : p.ids.length ≤ 1000) (h1 : ckP m.order (minus t p.ids) = none ∨ ∃ b, ckP m.order (minus t p.ids) = some b ∧ ¬ 0 < (minus t p.ids).length) (h2 : (dsP t).isSome = true) (h1' : m.startE p t = erO (dsP t)) : ACall pg 22 [encM m, encP p, Li t] (.tup [encP (m.startP p t), errE (m.startE p t)]) := by
  refine s22.call mo (by simp) fun hxs => ?_
  clear hxs
  have hw1 := without_ok t p.ids (by omega) (by omega)
  have hw2 := without_ok p.ids t (by omega) (by omega)
  have hl1 := minus_len t p.ids
  have hl2 := minus_len p.ids t
  have hck := check_ok m (minus t p.ids) hb (by omega)
  have hds := distinct_ok t (by omega)
  have hu := under_ok p
  have heq := equal_ok p.ids t (by omega) (by omega)
  unfold c22
  have e2 : m.startP p t = p := by unfold Image.startP; rw [h1']; obtain ⟨x, hx⟩ := Option.isSome_iff_exists.1 h2; rw [hx]; rfl
  rw [h1', e2, ← errO_E]
  obtain ⟨⟨op, a, c⟩, hx⟩ := Option.isSome_iff_exists.1 h2
  rw [hx] at hds ⊢
  rcases h1 with h1 | ⟨b, h1, h3⟩
  · rw [h1] at hck
    repeat' first | (with_reducible first | refine fS ?_ | refine fR ?_ | refine fQ ?_ | refine fT ?_ | refine awRet ?_) | ((with_reducible refine awReg fun K hok hK => ?_); clear hok; (try simp (maxSteps := 10000000) (disch := first | omega | simp) [isConst]); (repeat' first | (with_reducible refine hK _ (by simp) ?_) | ((first | ((with_reducible refine callS' fun K2 hK2 => ?_); (try simp (maxSteps := 10000000) (disch := first | omega | simp) [isConst]); (first | refine hK2 _ _ hw1 rfl fun hk9 => ?_ | refine hK2 _ _ hck rfl fun hk9 => ?_ | refine hK2 _ _ hds rfl fun hk9 => ?_); clear hk9; clear hK2 K2) | ((with_reducible refine callF' fun K2 hK2 => ?_); (try simp (maxSteps := 10000000) (disch := first | omega | simp) [isConst]); (first | refine hK2 _ _ _ hw1 fun _ => ?_ | refine hK2 _ _ _ hck fun _ => ?_ | refine hK2 _ _ _ hds fun _ => ?_); clear hK2 K2) | ((with_reducible refine sideF' fun K2 hK2 => ?_); (try simp (maxSteps := 10000000) (disch := first | omega | simp) [isConst]); (first | refine hK2 _ _ _ hw1 (by simp) ?_ | refine hK2 _ _ _ hck (by simp) ?_ | refine hK2 _ _ _ hds (by simp) ?_); clear hK2 K2) | ((with_reducible refine sideQ' ?_ ?_ fun K2 hK2 => ?_); exact rfl; exact rfl; (try simp (maxSteps := 10000000) (disch := first | omega | simp) [isConst]); with_reducible refine hK2 _ _ ?_; clear hK2 K2)); (try simp (maxSteps := 10000000) (disch := first | omega | simp) [isConst]))) <;> clear hK K) | ((with_reducible refine awCond fun A B hA hB => ?_); simp (maxSteps := 10000000) (disch := first | omega | simp) [isConst]; (first | refine ⟨fun h => hA ?_, fun h => hB ?_⟩ | refine hA ?_ | refine hB ?_) <;> (clear hA hB A B; (try (exfalso; omega))))
    all_goals (refine aEnR (aRes [true] fun K hK => ?_); simp (maxSteps := 10000000) (disch := first | omega | simp) [errF]; refine hK _ ?_ (by simp); clear hK; first | done | (simp (maxSteps := 10000000) (disch := first | omega | simp) [errF, *]; done) | (simp (maxSteps := 10000000) (disch := first | omega | simp) [errF, *]; omega) | (simp_all [errF]; done) | (simp_all [errF]; omega))
  · rw [h1] at hck
    repeat' first | (with_reducible first | refine fS ?_ | refine fR ?_ | refine fQ ?_ | refine fT ?_ | refine awRet ?_) | ((with_reducible refine awReg fun K hok hK => ?_); clear hok; (try simp (maxSteps := 10000000) (disch := first | omega | simp) [h3, isConst]); (repeat' first | (with_reducible refine hK _ (by simp) ?_) | ((first | ((with_reducible refine callS' fun K2 hK2 => ?_); (try simp (maxSteps := 10000000) (disch := first | omega | simp) [h3, isConst]); (first | refine hK2 _ _ hw1 rfl fun hk9 => ?_ | refine hK2 _ _ hck rfl fun hk9 => ?_ | refine hK2 _ _ hds rfl fun hk9 => ?_); clear hk9; clear hK2 K2) | ((with_reducible refine callF' fun K2 hK2 => ?_); (try simp (maxSteps := 10000000) (disch := first | omega | simp) [h3, isConst]); (first | refine hK2 _ _ _ hw1 fun _ => ?_ | refine hK2 _ _ _ hck fun _ => ?_ | refine hK2 _ _ _ hds fun _ => ?_); clear hK2 K2) | ((with_reducible refine sideF' fun K2 hK2 => ?_); (try simp (maxSteps := 10000000) (disch := first | omega | simp) [h3, isConst]); (first | refine hK2 _ _ _ hw1 (by simp) ?_ | refine hK2 _ _ _ hck (by simp) ?_ | refine hK2 _ _ _ hds (by simp) ?_); clear hK2 K2) | ((with_reducible refine sideQ' ?_ ?_ fun K2 hK2 => ?_); exact rfl; exact rfl; (try simp (maxSteps := 10000000) (disch := first | omega | simp) [h3, isConst]); with_reducible refine hK2 _ _ ?_; clear hK2 K2)); (try simp (maxSteps := 10000000) (disch := first | omega | simp) [h3, isConst]))) <;> clear hK K) | ((with_reducible refine awCond fun A B hA hB => ?_); simp (maxSteps := 10000000) (disch := first | omega | simp) [h3, isConst]; (first | refine ⟨fun h => hA ?_, fun h => hB ?_⟩ | refine hA ?_ | refine hB ?_) <;> (clear hA hB A B; (try (exfalso; omega))))
    all_goals (refine aEnR (aRes [true] fun K hK => ?_); simp (maxSteps := 10000000) (disch := first | omega | simp) [errF]; refine hK _ ?_ (by simp); clear hK; first | done | (simp (maxSteps := 10000000) (disch := first | omega | simp) [errF, *]; done) | (simp (maxSteps := 10000000) (disch := first | omega | simp) [errF, *]; omega) | (simp_all [errF]; done) | (simp_all [errF]; omega))
end
end Go.Am
end
section
set_option maxRecDepth 100000
set_option maxHeartbeats 0
namespace Go.Am
open Go
noncomputable section
theorem start_c (m : Image) (p : Part) (t : List Int) (hb : m.brokers.length ≤ 100) (hp : p.Small) (ht : t.length ≤ 1000) (hpi : p.ids.length ≤ 1000) (h1 : ckP m.order (minus t p.ids) = none ∨ ∃ b, ckP m.order (minus t p.ids) = some b ∧ ¬ 0 < (minus t p.ids).length) (h2 : dsP t = none) (hun : p.under = true) (h1' : m.startE p t = erO (some (mvs, (p.add.length : Int), 10))) : ACall pg 22 [encM m, encP p, Li t] (.tup [encP (m.startP p t), errE (m.startE p t)]) := by
  refine s22.call mo (by simp) fun hxs => ?_
  clear hxs
  have hw1 := without_ok t p.ids (by omega) (by omega)
  have hw2 := without_ok p.ids t (by omega) (by omega)
  have hl1 := minus_len t p.ids
  have hl2 := minus_len p.ids t
  have hck := check_ok m (minus t p.ids) hb (by omega)
  have hds := distinct_ok t (by omega)
  have hu := under_ok p
  have heq := equal_ok p.ids t (by omega) (by omega)
  unfold c22
  rw [startP_no h1', h1', ← errO_E]
  rw [h2] at hds
  rw [hun] at hu
  rcases h1 with h1 | ⟨b, h1, h3⟩
  · rw [h1] at hck
    repeat' first | (with_reducible first | refine thR ?_ | refine inR ?_ | refine fS ?_ | refine fR ?_ | refine fQ ?_ | refine fT ?_ | refine awBlock ?_ | refine awRet ?_) | ((with_reducible refine awReg fun K hok hK => ?_); clear hok; (try simp (maxSteps := 10000000) (disch := first | omega | simp) [isConst]); (repeat' first | (with_reducible refine hK _ (by simp) ?_) | ((first | ((with_reducible refine callS' fun K2 hK2 => ?_); (try simp (maxSteps := 10000000) (disch := first | omega | simp) [isConst]); (first | refine hK2 _ _ hw1 rfl fun hk9 => ?_ | refine hK2 _ _ hck rfl fun hk9 => ?_ | refine hK2 _ _ hds rfl fun hk9 => ?_ | refine hK2 _ _ hu rfl fun hk9 => ?_ | refine hK2 _ _ (new_ok _ _ _) rfl fun hk9 => ?_); clear hk9; clear hK2 K2) | ((with_reducible refine callF' fun K2 hK2 => ?_); (try simp (maxSteps := 10000000) (disch := first | omega | simp) [isConst]); (first | refine hK2 _ _ _ hw1 fun _ => ?_ | refine hK2 _ _ _ hck fun _ => ?_ | refine hK2 _ _ _ hds fun _ => ?_ | refine hK2 _ _ _ hu fun _ => ?_ | refine hK2 _ _ _ (new_ok _ _ _) fun _ => ?_); clear hK2 K2) | ((with_reducible refine sideS' fun K2 hK2 => ?_); (try simp (maxSteps := 10000000) (disch := first | omega | simp) [isConst]); (first | refine hK2 _ _ (hw1) rfl ?_ | refine hK2 _ _ (hck) rfl ?_ | refine hK2 _ _ (hds) rfl ?_ | refine hK2 _ _ (hu) rfl ?_ | refine hK2 _ _ (new_ok _ _ _) rfl ?_); clear hK2 K2) | ((with_reducible refine sideF' fun K2 hK2 => ?_); (try simp (maxSteps := 10000000) (disch := first | omega | simp) [isConst]); (first | refine hK2 _ _ _ hw1 (by simp) ?_ | refine hK2 _ _ _ hck (by simp) ?_ | refine hK2 _ _ _ hds (by simp) ?_ | refine hK2 _ _ _ hu (by simp) ?_ | refine hK2 _ _ _ (new_ok _ _ _) (by simp) ?_); clear hK2 K2) | ((with_reducible refine sideQ' ?_ ?_ fun K2 hK2 => ?_); exact rfl; exact rfl; (try simp (maxSteps := 10000000) (disch := first | omega | simp) [isConst]); with_reducible refine hK2 _ _ ?_; clear hK2 K2)); (try simp (maxSteps := 10000000) (disch := first | omega | simp) [isConst]))) <;> clear hK K) | ((with_reducible refine awCond fun A B hA hB => ?_); simp (maxSteps := 10000000) (disch := first | omega | simp) [isConst]; (first | refine ⟨fun h => hA ?_, fun h => hB ?_⟩ | refine hA ?_ | refine hB ?_) <;> (clear hA hB A B; (try (exfalso; omega))))
    all_goals (refine aEnR (aRes [true] fun K hK => ?_); simp (maxSteps := 10000000) (disch := first | omega | simp) [errF]; refine hK _ ?_ (by simp); clear hK; first | done | (simp (maxSteps := 10000000) (disch := first | omega | simp) [errF, *]; done) | (simp (maxSteps := 10000000) (disch := first | omega | simp) [errF, *]; omega) | (simp_all [errF]; done) | (simp_all [errF]; omega))
  · rw [h1] at hck
    repeat' first | (with_reducible first | refine thR ?_ | refine inR ?_ | refine fS ?_ | refine fR ?_ | refine fQ ?_ | refine fT ?_ | refine awBlock ?_ | refine awRet ?_) | ((with_reducible refine awReg fun K hok hK => ?_); clear hok; (try simp (maxSteps := 10000000) (disch := first | omega | simp) [h3, isConst]); (repeat' first | (with_reducible refine hK _ (by simp) ?_) | ((first | ((with_reducible refine callS' fun K2 hK2 => ?_); (try simp (maxSteps := 10000000) (disch := first | omega | simp) [h3, isConst]); (first | refine hK2 _ _ hw1 rfl fun hk9 => ?_ | refine hK2 _ _ hck rfl fun hk9 => ?_ | refine hK2 _ _ hds rfl fun hk9 => ?_ | refine hK2 _ _ hu rfl fun hk9 => ?_ | refine hK2 _ _ (new_ok _ _ _) rfl fun hk9 => ?_); clear hk9; clear hK2 K2) | ((with_reducible refine callF' fun K2 hK2 => ?_); (try simp (maxSteps := 10000000) (disch := first | omega | simp) [h3, isConst]); (first | refine hK2 _ _ _ hw1 fun _ => ?_ | refine hK2 _ _ _ hck fun _ => ?_ | refine hK2 _ _ _ hds fun _ => ?_ | refine hK2 _ _ _ hu fun _ => ?_ | refine hK2 _ _ _ (new_ok _ _ _) fun _ => ?_); clear hK2 K2) | ((with_reducible refine sideS' fun K2 hK2 => ?_); (try simp (maxSteps := 10000000) (disch := first | omega | simp) [h3, isConst]); (first | refine hK2 _ _ (hw1) rfl ?_ | refine hK2 _ _ (hck) rfl ?_ | refine hK2 _ _ (hds) rfl ?_ | refine hK2 _ _ (hu) rfl ?_ | refine hK2 _ _ (new_ok _ _ _) rfl ?_); clear hK2 K2) | ((with_reducible refine sideF' fun K2 hK2 => ?_); (try simp (maxSteps := 10000000) (disch := first | omega | simp) [h3, isConst]); (first | refine hK2 _ _ _ hw1 (by simp) ?_ | refine hK2 _ _ _ hck (by simp) ?_ | refine hK2 _ _ _ hds (by simp) ?_ | refine hK2 _ _ _ hu (by simp) ?_ | refine hK2 _ _ _ (new_ok _ _ _) (by simp) ?_); clear hK2 K2) | ((with_reducible refine sideQ' ?_ ?_ fun K2 hK2 => ?_); exact rfl; exact rfl; (try simp (maxSteps := 10000000) (disch := first | omega | simp) [h3, isConst]); with_reducible refine hK2 _ _ ?_; clear hK2 K2)); (try simp (maxSteps := 10000000) (disch := first | omega | simp) [h3, isConst]))) <;> clear hK K) | ((with_reducible refine awCond fun A B hA hB => ?_); simp (maxSteps := 10000000) (disch := first | omega | simp) [h3, isConst]; (first | refine ⟨fun h => hA ?_, fun h => hB ?_⟩ | refine hA ?_ | refine hB ?_) <;> (clear hA hB A B; (try (exfalso; omega))))
    all_goals (refine aEnR (aRes [true] fun K hK => ?_); simp (maxSteps := 10000000) (disch := first | omega | simp) [errF]; refine hK _ ?_ (by simp); clear hK; first | done | (simp (maxSteps := 10000000) (disch := first | omega | simp) [errF, *]; done) | (simp (maxSteps := 10000000) (disch := first | omega | simp) [errF, *]; omega) | (simp_all [errF]; done) | (simp_all [errF]; omega))
end
end Go.Am
end
section
set_option maxRecDepth 100000
set_option maxHeartbeats 0
namespace Go.Am
open Go
noncomputable section
theorem start_d (m : Image) (p : Part) (t : List Int) (hb : m.brokers.length ≤ 100) (hp : p.Small) (ht : t.length ≤ 1000) (hpi : p.ids.length ≤ 1000) (h1 : ckP m.order (minus t p.ids) = none ∨ ∃ b, ckP m.order (minus t p.ids) = some b ∧ ¬ 0 < (minus t p.ids).length) (h2 : dsP t = none) (hun : p.under = false) (he : (p.ids == t) = true) (h1' : m.startE p t = erO (some (tgt, (t.length : Int), 9))) : ACall pg 22 [encM m, encP p, Li t] (.tup [encP (m.startP p t), errE (m.startE p t)]) := by
  refine s22.call mo (by simp) fun hxs => ?_
  clear hxs
  have hw1 := without_ok t p.ids (by omega) (by omega)
  have hw2 := without_ok p.ids t (by omega) (by omega)
  have hl1 := minus_len t p.ids
  have hl2 := minus_len p.ids t
  have hck := check_ok m (minus t p.ids) hb (by omega)
  have hds := distinct_ok t (by omega)
  have hu := under_ok p
  have heq := equal_ok p.ids t (by omega) (by omega)
  unfold c22
  rw [startP_no h1', h1', ← errO_E]
  rw [h2] at hds
  rw [hun] at hu
  rw [he] at heq
  rcases h1 with h1 | ⟨b, h1, h3⟩
  · rw [h1] at hck
    repeat' first | (with_reducible first | refine thR ?_ | refine inR ?_ | refine fF ?_ | refine fS ?_ | refine fR ?_ | refine fQ ?_ | refine fC ?_ | refine fT ?_ | refine awBlock ?_ | refine awRet ?_) | ((with_reducible refine awReg fun K hok hK => ?_); clear hok; (try simp (maxSteps := 10000000) (disch := first | omega | simp) [isConst]); (repeat' first | (with_reducible refine hK _ (by simp) ?_) | ((first | ((with_reducible refine callS' fun K2 hK2 => ?_); (try simp (maxSteps := 10000000) (disch := first | omega | simp) [isConst]); (first | refine hK2 _ _ hw1 rfl fun hk9 => ?_ | refine hK2 _ _ hck rfl fun hk9 => ?_ | refine hK2 _ _ hds rfl fun hk9 => ?_ | refine hK2 _ _ hu rfl fun hk9 => ?_ | refine hK2 _ _ heq rfl fun hk9 => ?_ | refine hK2 _ _ (new_ok _ _ _) rfl fun hk9 => ?_); clear hk9; clear hK2 K2) | ((with_reducible refine callF' fun K2 hK2 => ?_); (try simp (maxSteps := 10000000) (disch := first | omega | simp) [isConst]); (first | refine hK2 _ _ _ hw1 fun _ => ?_ | refine hK2 _ _ _ hck fun _ => ?_ | refine hK2 _ _ _ hds fun _ => ?_ | refine hK2 _ _ _ hu fun _ => ?_ | refine hK2 _ _ _ heq fun _ => ?_ | refine hK2 _ _ _ (new_ok _ _ _) fun _ => ?_); clear hK2 K2) | ((with_reducible refine sideS' fun K2 hK2 => ?_); (try simp (maxSteps := 10000000) (disch := first | omega | simp) [isConst]); (first | refine hK2 _ _ (hw1) rfl ?_ | refine hK2 _ _ (hck) rfl ?_ | refine hK2 _ _ (hds) rfl ?_ | refine hK2 _ _ (hu) rfl ?_ | refine hK2 _ _ (heq) rfl ?_ | refine hK2 _ _ (new_ok _ _ _) rfl ?_); clear hK2 K2) | ((with_reducible refine sideF' fun K2 hK2 => ?_); (try simp (maxSteps := 10000000) (disch := first | omega | simp) [isConst]); (first | refine hK2 _ _ _ hw1 (by simp) ?_ | refine hK2 _ _ _ hck (by simp) ?_ | refine hK2 _ _ _ hds (by simp) ?_ | refine hK2 _ _ _ hu (by simp) ?_ | refine hK2 _ _ _ heq (by simp) ?_ | refine hK2 _ _ _ (new_ok _ _ _) (by simp) ?_); clear hK2 K2) | ((with_reducible refine sideQ' ?_ ?_ fun K2 hK2 => ?_); exact rfl; exact rfl; (try simp (maxSteps := 10000000) (disch := first | omega | simp) [isConst]); with_reducible refine hK2 _ _ ?_; clear hK2 K2)); (try simp (maxSteps := 10000000) (disch := first | omega | simp) [isConst]))) <;> clear hK K) | ((with_reducible refine awCond fun A B hA hB => ?_); simp (maxSteps := 10000000) (disch := first | omega | simp) [isConst]; (first | refine ⟨fun h => hA ?_, fun h => hB ?_⟩ | refine hA ?_ | refine hB ?_) <;> (clear hA hB A B; (try (exfalso; omega))))
    all_goals (refine aEnR (aRes [true] fun K hK => ?_); simp (maxSteps := 10000000) (disch := first | omega | simp) [errF]; refine hK _ ?_ (by simp); clear hK; first | done | (simp (maxSteps := 10000000) (disch := first | omega | simp) [errF, *]; done) | (simp (maxSteps := 10000000) (disch := first | omega | simp) [errF, *]; omega) | (simp_all [errF]; done) | (simp_all [errF]; omega))
  · rw [h1] at hck
    repeat' first | (with_reducible first | refine thR ?_ | refine inR ?_ | refine fF ?_ | refine fS ?_ | refine fR ?_ | refine fQ ?_ | refine fC ?_ | refine fT ?_ | refine awBlock ?_ | refine awRet ?_) | ((with_reducible refine awReg fun K hok hK => ?_); clear hok; (try simp (maxSteps := 10000000) (disch := first | omega | simp) [h3, isConst]); (repeat' first | (with_reducible refine hK _ (by simp) ?_) | ((first | ((with_reducible refine callS' fun K2 hK2 => ?_); (try simp (maxSteps := 10000000) (disch := first | omega | simp) [h3, isConst]); (first | refine hK2 _ _ hw1 rfl fun hk9 => ?_ | refine hK2 _ _ hck rfl fun hk9 => ?_ | refine hK2 _ _ hds rfl fun hk9 => ?_ | refine hK2 _ _ hu rfl fun hk9 => ?_ | refine hK2 _ _ heq rfl fun hk9 => ?_ | refine hK2 _ _ (new_ok _ _ _) rfl fun hk9 => ?_); clear hk9; clear hK2 K2) | ((with_reducible refine callF' fun K2 hK2 => ?_); (try simp (maxSteps := 10000000) (disch := first | omega | simp) [h3, isConst]); (first | refine hK2 _ _ _ hw1 fun _ => ?_ | refine hK2 _ _ _ hck fun _ => ?_ | refine hK2 _ _ _ hds fun _ => ?_ | refine hK2 _ _ _ hu fun _ => ?_ | refine hK2 _ _ _ heq fun _ => ?_ | refine hK2 _ _ _ (new_ok _ _ _) fun _ => ?_); clear hK2 K2) | ((with_reducible refine sideS' fun K2 hK2 => ?_); (try simp (maxSteps := 10000000) (disch := first | omega | simp) [h3, isConst]); (first | refine hK2 _ _ (hw1) rfl ?_ | refine hK2 _ _ (hck) rfl ?_ | refine hK2 _ _ (hds) rfl ?_ | refine hK2 _ _ (hu) rfl ?_ | refine hK2 _ _ (heq) rfl ?_ | refine hK2 _ _ (new_ok _ _ _) rfl ?_); clear hK2 K2) | ((with_reducible refine sideF' fun K2 hK2 => ?_); (try simp (maxSteps := 10000000) (disch := first | omega | simp) [h3, isConst]); (first | refine hK2 _ _ _ hw1 (by simp) ?_ | refine hK2 _ _ _ hck (by simp) ?_ | refine hK2 _ _ _ hds (by simp) ?_ | refine hK2 _ _ _ hu (by simp) ?_ | refine hK2 _ _ _ heq (by simp) ?_ | refine hK2 _ _ _ (new_ok _ _ _) (by simp) ?_); clear hK2 K2) | ((with_reducible refine sideQ' ?_ ?_ fun K2 hK2 => ?_); exact rfl; exact rfl; (try simp (maxSteps := 10000000) (disch := first | omega | simp) [h3, isConst]); with_reducible refine hK2 _ _ ?_; clear hK2 K2)); (try simp (maxSteps := 10000000) (disch := first | omega | simp) [h3, isConst]))) <;> clear hK K) | ((with_reducible refine awCond fun A B hA hB => ?_); simp (maxSteps := 10000000) (disch := first | omega | simp) [h3, isConst]; (first | refine ⟨fun h => hA ?_, fun h => hB ?_⟩ | refine hA ?_ | refine hB ?_) <;> (clear hA hB A B; (try (exfalso; omega))))
    all_goals (refine aEnR (aRes [true] fun K hK => ?_); simp (maxSteps := 10000000) (disch := first | omega | simp) [errF]; refine hK _ ?_ (by simp); clear hK; first | done | (simp (maxSteps := 10000000) (disch := first | omega | simp) [errF, *]; done) | (simp (maxSteps := 10000000) (disch := first | omega | simp) [errF, *]; omega) | (simp_all [errF]; done) | (simp_all [errF]; omega))
end
end Go.Am
end
section
set_option maxRecDepth 100000
set_option maxHeartbeats 0
namespace Go.Am
open Go
noncomputable section
theorem start_e (m : Image) (p : Part) (t : List Int) (hb : m.brokers.length ≤ 100) (hp : p.Small) (ht : t.length ≤ 1000) (hpi : p.ids.length ≤ 1000) (h1 : ckP m.order (minus t p.ids) = none ∨ ∃ b, ckP m.order (minus t p.ids) = some b ∧ ¬ 0 < (minus t p.ids).length) (h2 : dsP t = none) (htl : 0 < t.length) (hun : p.under = false) (he : (p.ids == t) = false) (h5 : 7 < t.length + (minus p.ids t).length) (h1' : m.startE p t = erO (some (tgt, ((t.length + (minus p.ids t).length : Nat) : Int), 6))) : ACall pg 22 [encM m, encP p, Li t] (.tup [encP (m.startP p t), errE (m.startE p t)]) := by
  refine s22.call mo (by simp) fun hxs => ?_
  clear hxs
  have hw1 := without_ok t p.ids (by omega) (by omega)
  have hw2 := without_ok p.ids t (by omega) (by omega)
  have hl1 := minus_len t p.ids
  have hl2 := minus_len p.ids t
  have hck := check_ok m (minus t p.ids) hb (by omega)
  have hds := distinct_ok t (by omega)
  have hu := under_ok p
  have heq := equal_ok p.ids t (by omega) (by omega)
  unfold c22
  rw [startP_no h1', h1', ← errO_E]
  rw [h2] at hds
  rw [hun] at hu
  rw [he] at heq
  have hnw := new_ok tgt ((t.length + (minus p.ids t).length : Nat) : Int) 6
  rw [Int.natCast_add] at hnw ⊢
  rcases h1 with h1 | ⟨b, h1, h3⟩
  · rw [h1] at hck
    repeat' first | (with_reducible first | refine thN ?_ | refine inN ?_ | refine fF ?_ | refine fS ?_ | refine fR ?_ | refine fQ ?_ | refine fC ?_ | refine fT ?_ | refine awBlock ?_ | refine awRet ?_ | refine awSkip ?_) | ((with_reducible refine awReg fun K hok hK => ?_); clear hok; (try simp (maxSteps := 10000000) (disch := first | omega | simp) [isConst]); (repeat' first | (with_reducible refine hK _ (by simp) ?_) | ((first | ((with_reducible refine callS' fun K2 hK2 => ?_); (try simp (maxSteps := 10000000) (disch := first | omega | simp) [isConst]); (first | refine hK2 _ _ hw1 rfl fun hk9 => ?_ | refine hK2 _ _ hck rfl fun hk9 => ?_ | refine hK2 _ _ hds rfl fun hk9 => ?_ | refine hK2 _ _ hu rfl fun hk9 => ?_ | refine hK2 _ _ heq rfl fun hk9 => ?_ | refine hK2 _ _ hw2 rfl fun hk9 => ?_ | refine hK2 _ _ (alone_ok p hp) rfl fun hk9 => ?_ | refine hK2 _ _ hnw rfl fun hk9 => ?_); clear hk9; clear hK2 K2) | ((with_reducible refine callF' fun K2 hK2 => ?_); (try simp (maxSteps := 10000000) (disch := first | omega | simp) [isConst]); (first | refine hK2 _ _ _ hw1 fun _ => ?_ | refine hK2 _ _ _ hck fun _ => ?_ | refine hK2 _ _ _ hds fun _ => ?_ | refine hK2 _ _ _ hu fun _ => ?_ | refine hK2 _ _ _ heq fun _ => ?_ | refine hK2 _ _ _ hw2 fun _ => ?_ | refine hK2 _ _ _ (alone_ok p hp) fun _ => ?_ | refine hK2 _ _ _ hnw fun _ => ?_); clear hK2 K2) | ((with_reducible refine sideS' fun K2 hK2 => ?_); (try simp (maxSteps := 10000000) (disch := first | omega | simp) [isConst]); (first | refine hK2 _ _ (hw1) rfl ?_ | refine hK2 _ _ (hck) rfl ?_ | refine hK2 _ _ (hds) rfl ?_ | refine hK2 _ _ (hu) rfl ?_ | refine hK2 _ _ (heq) rfl ?_ | refine hK2 _ _ (hw2) rfl ?_ | refine hK2 _ _ (alone_ok p hp) rfl ?_ | refine hK2 _ _ (hnw) rfl ?_); clear hK2 K2) | ((with_reducible refine sideF' fun K2 hK2 => ?_); (try simp (maxSteps := 10000000) (disch := first | omega | simp) [isConst]); (first | refine hK2 _ _ _ hw1 (by simp) ?_ | refine hK2 _ _ _ hck (by simp) ?_ | refine hK2 _ _ _ hds (by simp) ?_ | refine hK2 _ _ _ hu (by simp) ?_ | refine hK2 _ _ _ heq (by simp) ?_ | refine hK2 _ _ _ hw2 (by simp) ?_ | refine hK2 _ _ _ (alone_ok p hp) (by simp) ?_ | refine hK2 _ _ _ hnw (by simp) ?_); clear hK2 K2) | ((with_reducible refine sideQ' ?_ ?_ fun K2 hK2 => ?_); exact rfl; exact rfl; (try simp (maxSteps := 10000000) (disch := first | omega | simp) [isConst]); with_reducible refine hK2 _ _ ?_; clear hK2 K2) | ((with_reducible refine side' ?_ fun K2 hK2 => ?_); exact rfl; (try simp (maxSteps := 10000000) (disch := first | omega | simp) [isConst]); refine hK2 _ _ (by simp) ?_; clear hK2 K2)); (try simp (maxSteps := 10000000) (disch := first | omega | simp) [isConst]))) <;> clear hK K) | ((with_reducible refine awCond fun A B hA hB => ?_); simp (maxSteps := 10000000) (disch := first | omega | simp) [isConst]; (first | refine ⟨fun h => hA ?_, fun h => hB ?_⟩ | refine hA ?_ | refine hB ?_) <;> (clear hA hB A B; (try (exfalso; omega))))
    all_goals (refine aEnR (aRes [true] fun K hK => ?_); simp (maxSteps := 10000000) (disch := first | omega | simp) [errF]; refine hK _ ?_ (by simp); clear hK; first | done | (simp (maxSteps := 10000000) (disch := first | omega | simp) [errF, *]; done) | (simp (maxSteps := 10000000) (disch := first | omega | simp) [errF, *]; omega) | (simp_all [errF]; done) | (simp_all [errF]; omega))
  · rw [h1] at hck
    repeat' first | (with_reducible first | refine thN ?_ | refine inN ?_ | refine fF ?_ | refine fS ?_ | refine fR ?_ | refine fQ ?_ | refine fC ?_ | refine fT ?_ | refine awBlock ?_ | refine awRet ?_ | refine awSkip ?_) | ((with_reducible refine awReg fun K hok hK => ?_); clear hok; (try simp (maxSteps := 10000000) (disch := first | omega | simp) [h3, isConst]); (repeat' first | (with_reducible refine hK _ (by simp) ?_) | ((first | ((with_reducible refine callS' fun K2 hK2 => ?_); (try simp (maxSteps := 10000000) (disch := first | omega | simp) [h3, isConst]); (first | refine hK2 _ _ hw1 rfl fun hk9 => ?_ | refine hK2 _ _ hck rfl fun hk9 => ?_ | refine hK2 _ _ hds rfl fun hk9 => ?_ | refine hK2 _ _ hu rfl fun hk9 => ?_ | refine hK2 _ _ heq rfl fun hk9 => ?_ | refine hK2 _ _ hw2 rfl fun hk9 => ?_ | refine hK2 _ _ (alone_ok p hp) rfl fun hk9 => ?_ | refine hK2 _ _ hnw rfl fun hk9 => ?_); clear hk9; clear hK2 K2) | ((with_reducible refine callF' fun K2 hK2 => ?_); (try simp (maxSteps := 10000000) (disch := first | omega | simp) [h3, isConst]); (first | refine hK2 _ _ _ hw1 fun _ => ?_ | refine hK2 _ _ _ hck fun _ => ?_ | refine hK2 _ _ _ hds fun _ => ?_ | refine hK2 _ _ _ hu fun _ => ?_ | refine hK2 _ _ _ heq fun _ => ?_ | refine hK2 _ _ _ hw2 fun _ => ?_ | refine hK2 _ _ _ (alone_ok p hp) fun _ => ?_ | refine hK2 _ _ _ hnw fun _ => ?_); clear hK2 K2) | ((with_reducible refine sideS' fun K2 hK2 => ?_); (try simp (maxSteps := 10000000) (disch := first | omega | simp) [h3, isConst]); (first | refine hK2 _ _ (hw1) rfl ?_ | refine hK2 _ _ (hck) rfl ?_ | refine hK2 _ _ (hds) rfl ?_ | refine hK2 _ _ (hu) rfl ?_ | refine hK2 _ _ (heq) rfl ?_ | refine hK2 _ _ (hw2) rfl ?_ | refine hK2 _ _ (alone_ok p hp) rfl ?_ | refine hK2 _ _ (hnw) rfl ?_); clear hK2 K2) | ((with_reducible refine sideF' fun K2 hK2 => ?_); (try simp (maxSteps := 10000000) (disch := first | omega | simp) [h3, isConst]); (first | refine hK2 _ _ _ hw1 (by simp) ?_ | refine hK2 _ _ _ hck (by simp) ?_ | refine hK2 _ _ _ hds (by simp) ?_ | refine hK2 _ _ _ hu (by simp) ?_ | refine hK2 _ _ _ heq (by simp) ?_ | refine hK2 _ _ _ hw2 (by simp) ?_ | refine hK2 _ _ _ (alone_ok p hp) (by simp) ?_ | refine hK2 _ _ _ hnw (by simp) ?_); clear hK2 K2) | ((with_reducible refine sideQ' ?_ ?_ fun K2 hK2 => ?_); exact rfl; exact rfl; (try simp (maxSteps := 10000000) (disch := first | omega | simp) [h3, isConst]); with_reducible refine hK2 _ _ ?_; clear hK2 K2) | ((with_reducible refine side' ?_ fun K2 hK2 => ?_); exact rfl; (try simp (maxSteps := 10000000) (disch := first | omega | simp) [h3, isConst]); refine hK2 _ _ (by simp) ?_; clear hK2 K2)); (try simp (maxSteps := 10000000) (disch := first | omega | simp) [h3, isConst]))) <;> clear hK K) | ((with_reducible refine awCond fun A B hA hB => ?_); simp (maxSteps := 10000000) (disch := first | omega | simp) [h3, isConst]; (first | refine ⟨fun h => hA ?_, fun h => hB ?_⟩ | refine hA ?_ | refine hB ?_) <;> (clear hA hB A B; (try (exfalso; omega))))
    all_goals (refine aEnR (aRes [true] fun K hK => ?_); simp (maxSteps := 10000000) (disch := first | omega | simp) [errF]; refine hK _ ?_ (by simp); clear hK; first | done | (simp (maxSteps := 10000000) (disch := first | omega | simp) [errF, *]; done) | (simp (maxSteps := 10000000) (disch := first | omega | simp) [errF, *]; omega) | (simp_all [errF]; done) | (simp_all [errF]; omega))
end
end Go.Am
end
section
set_option maxRecDepth 100000
set_option maxHeartbeats 0
namespace Go.Am
open Go
noncomputable section
theorem start_f (m : Image) (p : Part) (t : List Int) (hb : m.brokers.length ≤ 100) (hp : p.Small) (ht : t.length ≤ 1000) (hpi : p.ids.length ≤ 1000) (h1 : ckP m.order (minus t p.ids) = none ∨ ∃ b, ckP m.order (minus t p.ids) = some b ∧ ¬ 0 < (minus t p.ids).length) (h2 : dsP t = none) (htl : 0 < t.length) (hun : p.under = false) (he : (p.ids == t) = false) (h5 : ¬ 7 < t.length + (minus p.ids t).length) (h1' : m.startE p t = none) : ACall pg 22 [encM m, encP p, Li t] (.tup [encP (m.startP p t), errE (m.startE p t)]) := by
  refine s22.call mo (by simp) fun hxs => ?_
  clear hxs
  have hw1 := without_ok t p.ids (by omega) (by omega)
  have hw2 := without_ok p.ids t (by omega) (by omega)
  have hl1 := minus_len t p.ids
  have hl2 := minus_len p.ids t
  have hck := check_ok m (minus t p.ids) hb (by omega)
  have hds := distinct_ok t (by omega)
  have hu := under_ok p
  have heq := equal_ok p.ids t (by omega) (by omega)
  unfold c22
  have e2 : m.startP p t = p.sent t := by unfold Image.startP; rw [h1']; rfl
  rw [e2, h1']
  rw [h2] at hds
  rw [hun] at hu
  rw [he] at heq
  have hss : (p.sent t).Small := ⟨by simp [Part.sent]; omega, hp.isr, by simp only [Part.sent]; omega, by simp only [Part.sent]; omega⟩
  have hal := alone_ok (p.sent t) hss
  simp only [Part.sent, encP_eq, Li, List.map_append] at hal
  have h5' : decide (7 < (t.length : Int) + ((minus p.ids t).length : Int)) = false := decide_eq_false (by omega)
  rcases h1 with h1 | ⟨b, h1, h3⟩
  · rw [h1] at hck
    repeat' first | (with_reducible first | refine thN ?_ | refine inN ?_ | refine fF ?_ | refine fS ?_ | refine fR ?_ | refine fQ ?_ | refine fC ?_ | refine awBlock ?_ | refine awRet ?_ | refine awSkip ?_) | ((with_reducible refine awReg fun K hok hK => ?_); clear hok; (try simp (maxSteps := 10000000) (disch := first | omega | simp) [h5', isConst]); (repeat' first | (with_reducible refine hK _ (by simp) ?_) | ((first | ((with_reducible refine callS' fun K2 hK2 => ?_); (try simp (maxSteps := 10000000) (disch := first | omega | simp) [h5', isConst]); (first | refine hK2 _ _ hw1 rfl fun hk9 => ?_ | refine hK2 _ _ hck rfl fun hk9 => ?_ | refine hK2 _ _ hds rfl fun hk9 => ?_ | refine hK2 _ _ hu rfl fun hk9 => ?_ | refine hK2 _ _ heq rfl fun hk9 => ?_ | refine hK2 _ _ hw2 rfl fun hk9 => ?_ | refine hK2 _ _ (alone_ok p hp) rfl fun hk9 => ?_ | refine hK2 _ _ hal rfl fun hk9 => ?_); clear hk9; clear hK2 K2) | ((with_reducible refine callF' fun K2 hK2 => ?_); (try simp (maxSteps := 10000000) (disch := first | omega | simp) [h5', isConst]); (first | refine hK2 _ _ _ hw1 fun _ => ?_ | refine hK2 _ _ _ hck fun _ => ?_ | refine hK2 _ _ _ hds fun _ => ?_ | refine hK2 _ _ _ hu fun _ => ?_ | refine hK2 _ _ _ heq fun _ => ?_ | refine hK2 _ _ _ hw2 fun _ => ?_ | refine hK2 _ _ _ (alone_ok p hp) fun _ => ?_ | refine hK2 _ _ _ hal fun _ => ?_); clear hK2 K2) | ((with_reducible refine sideF' fun K2 hK2 => ?_); (try simp (maxSteps := 10000000) (disch := first | omega | simp) [h5', isConst]); (first | refine hK2 _ _ _ hw1 (by simp) ?_ | refine hK2 _ _ _ hck (by simp) ?_ | refine hK2 _ _ _ hds (by simp) ?_ | refine hK2 _ _ _ hu (by simp) ?_ | refine hK2 _ _ _ heq (by simp) ?_ | refine hK2 _ _ _ hw2 (by simp) ?_ | refine hK2 _ _ _ (alone_ok p hp) (by simp) ?_ | refine hK2 _ _ _ hal (by simp) ?_); clear hK2 K2) | ((with_reducible refine sideQ' ?_ ?_ fun K2 hK2 => ?_); exact rfl; exact rfl; (try simp (maxSteps := 10000000) (disch := first | omega | simp) [h5', isConst]); with_reducible refine hK2 _ _ ?_; clear hK2 K2) | ((with_reducible refine side' ?_ fun K2 hK2 => ?_); exact rfl; (try simp (maxSteps := 10000000) (disch := first | omega | simp) [h5', isConst]); refine hK2 _ _ (by simp) ?_; clear hK2 K2)); (try simp (maxSteps := 10000000) (disch := first | omega | simp) [h5', isConst]))) <;> clear hK K) | ((with_reducible refine awCond fun A B hA hB => ?_); simp (maxSteps := 10000000) (disch := first | omega | simp) [h5', isConst]; (first | refine ⟨fun h => hA ?_, fun h => hB ?_⟩ | refine hA ?_ | refine hB ?_) <;> (clear hA hB A B; (try (exfalso; omega))))
    all_goals (refine aEnR (aRes [true] fun K hK => ?_); simp (maxSteps := 10000000) (disch := first | omega | simp) [Part.sent]; refine hK _ ?_ (by simp); clear hK; first | done | (simp (maxSteps := 10000000) (disch := first | omega | simp) [Part.sent, *]; done) | (simp (maxSteps := 10000000) (disch := first | omega | simp) [Part.sent, *]; omega) | (simp_all [Part.sent]; done) | (simp_all [Part.sent]; omega))
  · rw [h1] at hck
    repeat' first | (with_reducible first | refine thN ?_ | refine inN ?_ | refine fF ?_ | refine fS ?_ | refine fR ?_ | refine fQ ?_ | refine fC ?_ | refine awBlock ?_ | refine awRet ?_ | refine awSkip ?_) | ((with_reducible refine awReg fun K hok hK => ?_); clear hok; (try simp (maxSteps := 10000000) (disch := first | omega | simp) [h3, h5', isConst]); (repeat' first | (with_reducible refine hK _ (by simp) ?_) | ((first | ((with_reducible refine callS' fun K2 hK2 => ?_); (try simp (maxSteps := 10000000) (disch := first | omega | simp) [h3, h5', isConst]); (first | refine hK2 _ _ hw1 rfl fun hk9 => ?_ | refine hK2 _ _ hck rfl fun hk9 => ?_ | refine hK2 _ _ hds rfl fun hk9 => ?_ | refine hK2 _ _ hu rfl fun hk9 => ?_ | refine hK2 _ _ heq rfl fun hk9 => ?_ | refine hK2 _ _ hw2 rfl fun hk9 => ?_ | refine hK2 _ _ (alone_ok p hp) rfl fun hk9 => ?_ | refine hK2 _ _ hal rfl fun hk9 => ?_); clear hk9; clear hK2 K2) | ((with_reducible refine callF' fun K2 hK2 => ?_); (try simp (maxSteps := 10000000) (disch := first | omega | simp) [h3, h5', isConst]); (first | refine hK2 _ _ _ hw1 fun _ => ?_ | refine hK2 _ _ _ hck fun _ => ?_ | refine hK2 _ _ _ hds fun _ => ?_ | refine hK2 _ _ _ hu fun _ => ?_ | refine hK2 _ _ _ heq fun _ => ?_ | refine hK2 _ _ _ hw2 fun _ => ?_ | refine hK2 _ _ _ (alone_ok p hp) fun _ => ?_ | refine hK2 _ _ _ hal fun _ => ?_); clear hK2 K2) | ((with_reducible refine sideF' fun K2 hK2 => ?_); (try simp (maxSteps := 10000000) (disch := first | omega | simp) [h3, h5', isConst]); (first | refine hK2 _ _ _ hw1 (by simp) ?_ | refine hK2 _ _ _ hck (by simp) ?_ | refine hK2 _ _ _ hds (by simp) ?_ | refine hK2 _ _ _ hu (by simp) ?_ | refine hK2 _ _ _ heq (by simp) ?_ | refine hK2 _ _ _ hw2 (by simp) ?_ | refine hK2 _ _ _ (alone_ok p hp) (by simp) ?_ | refine hK2 _ _ _ hal (by simp) ?_); clear hK2 K2) | ((with_reducible refine sideQ' ?_ ?_ fun K2 hK2 => ?_); exact rfl; exact rfl; (try simp (maxSteps := 10000000) (disch := first | omega | simp) [h3, h5', isConst]); with_reducible refine hK2 _ _ ?_; clear hK2 K2) | ((with_reducible refine side' ?_ fun K2 hK2 => ?_); exact rfl; (try simp (maxSteps := 10000000) (disch := first | omega | simp) [h3, h5', isConst]); refine hK2 _ _ (by simp) ?_; clear hK2 K2)); (try simp (maxSteps := 10000000) (disch := first | omega | simp) [h3, h5', isConst]))) <;> clear hK K) | ((with_reducible refine awCond fun A B hA hB => ?_); simp (maxSteps := 10000000) (disch := first | omega | simp) [h3, h5', isConst]; (first | refine ⟨fun h => hA ?_, fun h => hB ?_⟩ | refine hA ?_ | refine hB ?_) <;> (clear hA hB A B; (try (exfalso; omega))))
    all_goals (refine aEnR (aRes [true] fun K hK => ?_); simp (maxSteps := 10000000) (disch := first | omega | simp) [Part.sent]; refine hK _ ?_ (by simp); clear hK; first | done | (simp (maxSteps := 10000000) (disch := first | omega | simp) [Part.sent, *]; done) | (simp (maxSteps := 10000000) (disch := first | omega | simp) [Part.sent, *]; omega) | (simp_all [Part.sent]; done) | (simp_all [Part.sent]; omega))
end
end Go.Am
end
section
set_option maxRecDepth 100000
set_option maxHeartbeats 0
namespace Go.Am
open Go
noncomputable section
theorem start_walk (m : Image) (p : Part) (t : List Int) (hb : m.brokers.length ≤ 100) (hp : p.Small) (ht : t.length ≤ 1000) (hpi : p.ids.length ≤ 1000) : ACall pg 22 [encM m, encP p, Li t] (.tup [encP (m.startP p t), errE (m.startE p t)]) := by
  by_cases h1 : (ckP m.order (minus t p.ids)).isSome = true ∧ 0 < (minus t p.ids).length
  · exact start_a m p t hb hp ht hpi h1
  have h1' := ck_or h1
  by_cases h2 : (dsP t).isSome = true
  · exact start_b m p t hb hp ht hpi h1' h2 (by unfold Image.startE; rw [if_neg h1, if_pos h2])
  have h2' : dsP t = none := by
    cases hc : dsP t with
    | none => rfl
    | some b => rw [hc] at h2; exact absurd rfl h2
  have htl := (dsP_get h2').1
  by_cases h3 : p.under = true
  · exact start_c m p t hb hp ht hpi h1' h2' h3 (by unfold Image.startE; rw [if_neg h1, if_neg h2, if_pos h3])
  have h3' : p.under = false := by simpa using h3
  by_cases h4 : p.ids = t
  · exact start_d m p t hb hp ht hpi h1' h2' h3' (by simpa using h4) (by unfold Image.startE; rw [if_neg h1, if_neg h2, if_neg h3, if_pos h4])
  by_cases h5 : 7 < t.length + (minus p.ids t).length
  · exact start_e m p t hb hp ht hpi h1' h2' htl h3' (by simpa using h4) h5 (by unfold Image.startE; rw [if_neg h1, if_neg h2, if_neg h3, if_neg h4, if_pos h5])
  · exact start_f m p t hb hp ht hpi h1' h2' htl h3' (by simpa using h4) h5 (by unfold Image.startE; rw [if_neg h1, if_neg h2, if_neg h3, if_neg h4, if_neg h5])
end
end Go.Am
end
