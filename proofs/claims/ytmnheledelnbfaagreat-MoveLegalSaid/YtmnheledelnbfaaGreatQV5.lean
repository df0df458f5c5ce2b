/- Part of the proof of a law of moving. -/
import Derived.Test.YtmnheledelnbfaaGreatQVB
set_option linter.all false
set_option maxRecDepth 100000
set_option maxHeartbeats 0
namespace Go.Am
open Go
noncomputable section
def c37 : SC := (.seq (.reg [⟨some 3, .box 36 (.tmp 0), none, []⟩,
  ⟨some 4, .box 52 (.tmp 1), none, []⟩,
  ⟨some 6, .alloc 52, none, []⟩,
  ⟨some 7, .assign (.const (.bool false)), none, []⟩] [2, 3, 4, 6]) (.seq (.reg [⟨some 10, .load 52 (.tmp 4), none, []⟩,
  ⟨some 11, .call { callee := .value (.func 42), args := #[.tmp 10], argTypes := #[52] }, none, []⟩,
  ⟨some 8, .alloc 52, none, []⟩,
  ⟨none, .store 52 (.tmp 8) (.tmp 11), none, []⟩] [2, 3, 4, 6, 8]) (.seq (.reg [⟨some 12, .fieldAddr 52 (.tmp 4) 0, none, [14, 16, 17, 18]⟩,
  ⟨some 13, .load 23 (.tmp 12), none, [14, 16, 17, 18]⟩,
  ⟨some 14, .move (.tmp 2), none, [12, 13, 16, 17, 18]⟩,
  ⟨some 15, .call { callee := .value (.func 36), args := #[.tmp 13, .tmp 14], argTypes := #[23, 23] }, none, [16, 17, 18]⟩,
  ⟨some 16, .fieldAddr 52 (.tmp 4) 1, none, [12, 13, 14, 15, 18, 20]⟩,
  ⟨some 17, .load 23 (.tmp 16), none, [12, 13, 14, 15, 18, 20]⟩,
  ⟨some 18, .move (.tmp 2), none, [12, 13, 14, 15, 16, 17, 20]⟩,
  ⟨some 19, .call { callee := .value (.func 36), args := #[.tmp 17, .tmp 18], argTypes := #[23, 23] }, none, [20]⟩,
  ⟨some 20, .fieldAddr 52 (.tmp 8) 0, none, [16, 17, 18, 19]⟩,
  ⟨none, .store 23 (.tmp 20) (.tmp 15), none, []⟩,
  ⟨some 21, .fieldAddr 52 (.tmp 8) 1, none, []⟩,
  ⟨none, .store 23 (.tmp 21) (.tmp 19), none, []⟩] [2, 3, 4, 6, 8]) (.seq (.reg [⟨some 22, .fieldAddr 52 (.tmp 8) 4, none, []⟩,
  ⟨none, .store 23 (.tmp 22) (.const (.slice none 0 0)), none, []⟩,
  ⟨some 23, .fieldAddr 52 (.tmp 8) 5, none, []⟩,
  ⟨none, .store 23 (.tmp 23) (.const (.slice none 0 0)), none, []⟩] [2, 3, 4, 6, 8]) (.seq (.reg [⟨some 24, .fieldAddr 52 (.tmp 8) 1, none, []⟩,
  ⟨some 25, .load 23 (.tmp 24), none, []⟩,
  ⟨some 26, .call { callee := .builtin .len, args := #[.tmp 25], argTypes := #[23] }, none, []⟩,
  ⟨some 27, .binOp .eql 3 (.tmp 26) (.const (.int .i64 0)) 3, none, []⟩] [2, 3, 4, 6, 8, 27]) (.seq (.cond (.tmp 27) (.seq (.reg [⟨some 28, .load 52 (.tmp 4), none, []⟩,
  ⟨none, .store 52 (.tmp 6) (.tmp 28), none, []⟩,
  ⟨some 7, .assign (.const (.bool false)), none, []⟩] [6, 7]) .ret) .skip) (.seq (.reg [⟨some 29, .fieldAddr 52 (.tmp 8) 2, none, []⟩,
  ⟨some 30, .load 3 (.tmp 29), none, []⟩,
  ⟨some 31, .binOp .neq 3 (.tmp 30) (.const (.int .i64 0)) 3, none, []⟩,
  ⟨some 32, .move (.tmp 31), none, []⟩,
  ⟨some 33, .move (.tmp 2), (some (32, true)), []⟩,
  ⟨some 34, .fieldAddr 52 (.tmp 8) 2, (some (32, true)), []⟩,
  ⟨some 35, .load 3 (.tmp 34), (some (32, true)), []⟩,
  ⟨some 36, .call { callee := .value (.func 55), args := #[.tmp 33, .tmp 35], argTypes := #[23, 3] }, (some (32, true)), []⟩,
  ⟨some 37, .pick (.tmp 32) (.tmp 36) (.const (.bool false)), none, []⟩] [3, 4, 6, 8, 31, 32, 36, 37]) (.seq (.cond (.tmp 37) (.seq (.reg [⟨some 38, .load 36 (.tmp 3), none, []⟩,
  ⟨some 39, .load 52 (.tmp 8), none, []⟩,
  ⟨some 40, .fieldAddr 52 (.tmp 8) 2, none, []⟩,
  ⟨some 41, .load 3 (.tmp 40), none, []⟩,
  ⟨some 42, .call { callee := .value (.func 56), args := #[.tmp 38, .tmp 39, .tmp 41], argTypes := #[36, 52, 3] }, none, []⟩,
  ⟨some 9, .assign (.tmp 42), none, []⟩] [4, 6, 8, 9, 42]) (.seq (.reg [⟨some 43, .move (.tmp 9), none, []⟩,
  ⟨some 44, .binOp .eql 3 (.tmp 43) (.const (.int .i64 0)) 3, none, []⟩] [4, 6, 8, 9, 42, 44]) (.seq (.cond (.tmp 44) (.seq (.reg [⟨some 45, .load 52 (.tmp 4), none, []⟩,
  ⟨none, .store 52 (.tmp 6) (.tmp 45), none, []⟩,
  ⟨some 7, .assign (.const (.bool false)), none, []⟩] [6, 7]) .ret) .skip) (.seq (.reg [⟨some 46, .move (.tmp 9), none, []⟩,
  ⟨some 47, .fieldAddr 52 (.tmp 8) 2, none, []⟩,
  ⟨none, .store 3 (.tmp 47) (.tmp 46), none, []⟩] [6, 8]) (.seq (.reg [⟨some 48, .fieldAddr 52 (.tmp 8) 3, none, []⟩,
  ⟨some 49, .load 3 (.tmp 48), none, []⟩,
  ⟨some 50, .binOp .add 3 (.tmp 49) (.const (.int .i64 1)) 3, none, []⟩,
  ⟨some 51, .fieldAddr 52 (.tmp 8) 3, none, []⟩,
  ⟨none, .store 3 (.tmp 51) (.tmp 50), none, []⟩] [6, 8]) .skip))))) .skip) (.seq (.reg [⟨some 52, .load 52 (.tmp 8), none, []⟩,
  ⟨none, .store 52 (.tmp 6) (.tmp 52), none, []⟩,
  ⟨some 7, .assign (.const (.bool true)), none, []⟩] [6, 7]) .ret)))))))))
theorem s37 : TextK Proofs.Tryz.prog 0 37 53 [ResultVar.cell 6 52, ResultVar.tmp 7] c37 := .mk' Proofs.Tryz.f37 _ (by kernel_rfl) rfl rfl rfl (by kernel_rfl) rfl (by kernel_rfl)
def c21 : SC := (.seq (.reg [⟨some 2, .box 36 (.tmp 0), none, []⟩,
  ⟨some 3, .box 52 (.tmp 1), none, []⟩,
  ⟨some 4, .alloc 52, none, []⟩,
  ⟨some 5, .assign (.const (.bool false)), none, []⟩] [2, 3, 4, 23, 25]) (.seq (.reg [⟨some 6, .load 52 (.tmp 3), none, []⟩,
  ⟨some 7, .call { callee := .value (.func 20), args := #[.tmp 6], argTypes := #[52] }, none, []⟩,
  ⟨some 8, .unOp .not 4 (.tmp 7), none, []⟩,
  ⟨some 9, .move (.tmp 8), none, []⟩,
  ⟨some 10, .fieldAddr 52 (.tmp 3) 4, (some (9, false)), []⟩,
  ⟨some 11, .load 23 (.tmp 10), (some (9, false)), []⟩,
  ⟨some 12, .fieldAddr 52 (.tmp 3) 1, (some (9, false)), []⟩,
  ⟨some 13, .load 23 (.tmp 12), (some (9, false)), []⟩,
  ⟨some 14, .call { callee := .value (.func 36), args := #[.tmp 11, .tmp 13], argTypes := #[23, 23] }, (some (9, false)), []⟩,
  ⟨some 15, .call { callee := .builtin .len, args := #[.tmp 14], argTypes := #[23] }, (some (9, false)), []⟩,
  ⟨some 16, .binOp .gtr 3 (.tmp 15) (.const (.int .i64 0)) 3, (some (9, false)), []⟩,
  ⟨some 17, .pick (.tmp 9) (.const (.bool true)) (.tmp 16), none, []⟩] [2, 3, 4, 8, 9, 16, 17, 23, 25]) (.seq (.cond (.tmp 17) (.seq (.reg [⟨some 18, .load 52 (.tmp 3), none, []⟩,
  ⟨none, .store 52 (.tmp 4) (.tmp 18), none, []⟩,
  ⟨some 5, .assign (.const (.bool false)), none, []⟩] [4, 5, 23, 25]) .ret) .skip) (.seq (.reg [⟨some 19, .load 36 (.tmp 2), none, []⟩,
  ⟨some 20, .load 52 (.tmp 3), none, []⟩,
  ⟨some 21, .fieldAddr 52 (.tmp 3) 5, none, []⟩,
  ⟨some 22, .load 23 (.tmp 21), none, []⟩,
  ⟨some 23, .call { callee := .value (.func 37), args := #[.tmp 19, .tmp 20, .tmp 22], argTypes := #[36, 52, 23] }, none, []⟩,
  ⟨some 24, .extract (.tmp 23) 0, none, []⟩,
  ⟨some 25, .extract (.tmp 23) 1, none, []⟩,
  ⟨none, .store 52 (.tmp 4) (.tmp 24), none, []⟩,
  ⟨some 5, .assign (.tmp 25), none, []⟩] [4, 5, 23, 25]) .ret))))
theorem s21 : TextK Proofs.Tryz.prog 0 21 26 [ResultVar.cell 4 52, ResultVar.tmp 5] c21 := .mk' Proofs.Tryz.f21 _ (by kernel_rfl) rfl rfl rfl (by kernel_rfl) rfl (by kernel_rfl)
def c24 : SC := (.seq (.reg [⟨some 2, .box 36 (.tmp 0), none, []⟩,
  ⟨some 3, .box 52 (.tmp 1), none, []⟩,
  ⟨some 4, .alloc 52, none, []⟩,
  ⟨some 5, .assign (.const .nilIface), none, []⟩] [2, 3, 4, 12, 27]) (.seq (.reg [⟨some 8, .load 52 (.tmp 3), none, []⟩,
  ⟨some 9, .call { callee := .value (.func 20), args := #[.tmp 8], argTypes := #[52] }, none, []⟩,
  ⟨some 10, .unOp .not 4 (.tmp 9), none, []⟩] [2, 3, 4, 10, 12, 27]) (.seq (.cond (.tmp 10) (.seq (.reg [⟨some 11, .load 52 (.tmp 3), none, [12]⟩,
  ⟨some 12, .call { callee := .value (.func 29), args := #[.const (.string ⟨#[109, 111, 118, 101]⟩), .const (.int .i64 0), .const (.int .i64 8)], argTypes := #[9, 3, 42] }, none, [11]⟩,
  ⟨none, .store 52 (.tmp 4) (.tmp 11), none, []⟩,
  ⟨some 5, .assign (.tmp 12), none, []⟩] [4, 5, 12, 27]) .ret) .skip) (.seq (.reg [⟨some 14, .load 36 (.tmp 2), none, []⟩,
  ⟨some 15, .load 52 (.tmp 3), none, []⟩,
  ⟨some 16, .fieldAddr 52 (.tmp 3) 4, none, []⟩,
  ⟨some 17, .load 23 (.tmp 16), none, []⟩,
  ⟨some 18, .call { callee := .value (.func 37), args := #[.tmp 14, .tmp 15, .tmp 17], argTypes := #[36, 52, 23] }, none, []⟩,
  ⟨some 13, .move (.tmp 18), none, []⟩,
  ⟨some 19, .extract (.tmp 13) 0, none, []⟩,
  ⟨some 20, .extract (.tmp 13) 1, none, []⟩,
  ⟨some 6, .alloc 52, none, []⟩,
  ⟨none, .store 52 (.tmp 6) (.tmp 19), none, []⟩,
  ⟨some 7, .assign (.tmp 20), none, []⟩] [3, 4, 6, 7, 12, 13, 18, 20, 27]) (.seq (.reg [⟨some 21, .move (.tmp 7), none, []⟩,
  ⟨some 22, .unOp .not 4 (.tmp 21), none, []⟩] [3, 4, 6, 12, 22, 27]) (.seq (.cond (.tmp 22) (.seq (.reg [⟨some 23, .load 52 (.tmp 3), none, [24, 25, 26, 27]⟩,
  ⟨some 24, .fieldAddr 52 (.tmp 3) 4, none, [23]⟩,
  ⟨some 25, .load 23 (.tmp 24), none, [23]⟩,
  ⟨some 26, .call { callee := .builtin .len, args := #[.tmp 25], argTypes := #[23] }, none, [23]⟩,
  ⟨some 27, .call { callee := .value (.func 29), args := #[.const (.string ⟨#[109, 111, 118, 101]⟩), .tmp 26, .const (.int .i64 10)], argTypes := #[9, 3, 42] }, none, [23]⟩,
  ⟨none, .store 52 (.tmp 4) (.tmp 23), none, []⟩,
  ⟨some 5, .assign (.tmp 27), none, []⟩] [4, 5, 12, 27]) .ret) .skip) (.seq (.reg [⟨some 28, .load 52 (.tmp 6), none, []⟩,
  ⟨none, .store 52 (.tmp 4) (.tmp 28), none, []⟩,
  ⟨some 5, .assign (.const .nilIface), none, []⟩] [4, 5, 12, 27]) .ret)))))))
theorem s24 : TextK Proofs.Tryz.prog 0 24 29 [ResultVar.cell 4 52, ResultVar.tmp 5] c24 := .mk' Proofs.Tryz.f24 _ (by kernel_rfl) rfl rfl rfl (by kernel_rfl) rfl (by kernel_rfl)
theorem settle_ok (m : Image) (p : Part) (g : List Int) (hbk : m.Brk) (hp : p.Small) (hg : g.length ≤ 1000000) (hb : ∀ n ∈ p.ids, big62 n) (he : 0 ≤ p.epoch ∧ p.epoch ≤ 1000000) : ACall pg 37 [encM m, encP p, Li g] (.tup [encP (m.settle p g).1, B (m.settle p g).2]) := by
  refine s37.call mo (by simp) fun hxs => ?_
  clear hxs
  have hw1 := without_ok p.ids g hp.ids hg
  have hw2 := without_ok p.isr g hp.isr hg
  have hls : (p.less g).Small := ⟨Nat.le_trans (minus_len _ _) hp.ids, Nat.le_trans (minus_len _ _) hp.isr, by simp [Part.less], by simp [Part.less]⟩
  have hch := chooseP_ok m (p.less g) p.leader hbk hls (fun n hn => hb n (List.mem_filter.1 hn).1)
  unfold c37
  by_cases h1 : (p.less g).isr.length = 0
  · have e : m.settle p g = (p, false) := by unfold Image.settle; rw [if_pos h1]
    rw [e]
    have h1 : (minus p.isr g).length = 0 := h1
    repeat' first | (with_reducible first | refine fF ?_ | refine fS ?_ | refine fR ?_ | refine fQ ?_ | refine fC ?_ | refine fT ?_ | refine awRet ?_) | ((with_reducible refine awReg fun K hok hK => ?_); clear hok; (try simp (maxSteps := 10000000) (disch := first | omega | simp) [h1]); (repeat' first | (with_reducible refine hK _ (by simp) ?_) | ((with_reducible refine gdT (fun h => ?_) (fun h => ?_)) <;> (simp (maxSteps := 10000000) (disch := first | omega | simp) [h, h1]; (try simp at h); (try (exfalso; omega)))) | ((first | ((with_reducible refine callS' fun K2 hK2 => ?_); (try simp (maxSteps := 10000000) (disch := first | omega | simp) [h1]); (first | refine hK2 _ _ (alone_ok p hp) rfl fun hk9 => ?_ | refine hK2 _ _ hw1 rfl fun hk9 => ?_ | refine hK2 _ _ hw2 rfl fun hk9 => ?_); clear hk9; clear hK2 K2) | ((with_reducible refine callF' fun K2 hK2 => ?_); (try simp (maxSteps := 10000000) (disch := first | omega | simp) [h1]); (first | refine hK2 _ _ _ (alone_ok p hp) fun _ => ?_ | refine hK2 _ _ _ hw1 fun _ => ?_ | refine hK2 _ _ _ hw2 fun _ => ?_); clear hK2 K2) | ((with_reducible refine sideF' fun K2 hK2 => ?_); (try simp (maxSteps := 10000000) (disch := first | omega | simp) [h1]); (first | refine hK2 _ _ _ (alone_ok p hp) (by simp) ?_ | refine hK2 _ _ _ hw1 (by simp) ?_ | refine hK2 _ _ _ hw2 (by simp) ?_); clear hK2 K2) | ((with_reducible refine sideQ' ?_ ?_ fun K2 hK2 => ?_); exact rfl; exact rfl; (try simp (maxSteps := 10000000) (disch := first | omega | simp) [h1]); with_reducible refine hK2 _ _ ?_; clear hK2 K2)); (try simp (maxSteps := 10000000) (disch := first | omega | simp) [h1]))) <;> clear hK K) | ((with_reducible refine awCond fun A B hA hB => ?_); simp (maxSteps := 10000000) (disch := first | omega | simp) [h1]; (first | refine ⟨fun h => hA ?_, fun h => hB ?_⟩ | refine hA ?_ | refine hB ?_) <;> (clear hA hB A B; (try (exfalso; omega))))
    all_goals (refine aEnR (aRes [true] fun K hK => ?_); simp (maxSteps := 10000000) (disch := first | omega | simp) []; refine hK _ ?_ (by simp); clear hK; first | done | (simp (maxSteps := 10000000) (disch := first | omega | simp) [*]; done) | (simp (maxSteps := 10000000) (disch := first | omega | simp) [*]; omega) | (simp_all []; done) | (simp_all []; omega))
  · by_cases h2 : p.leader ≠ 0 ∧ g.contains p.leader = true
    · by_cases h3 : m.chooseP (p.less g) p.leader = 0
      · have e : m.settle p g = (p, false) := by unfold Image.settle; rw [if_neg h1, if_pos h2, if_pos h3]
        rw [e]
        have h1 : (minus p.isr g).length ≠ 0 := h1
        have hc := contains_ok g p.leader hg
        obtain ⟨h2, h4⟩ := h2
        rw [h4] at hc
        rw [h3] at hch
        repeat' first | (with_reducible first | refine fF ?_ | refine fS ?_ | refine fR ?_ | refine fQ ?_ | refine fC ?_ | refine fT ?_ | refine awRet ?_) | ((with_reducible refine awReg fun K hok hK => ?_); clear hok; (try simp (maxSteps := 10000000) (disch := first | omega | simp) [h1, h2]); (repeat' first | (with_reducible refine hK _ (by simp) ?_) | ((with_reducible refine gdT (fun h => ?_) (fun h => ?_)) <;> (simp (maxSteps := 10000000) (disch := first | omega | simp) [h, h1, h2]; (try simp at h); (try (exfalso; omega)))) | ((first | ((with_reducible refine callS' fun K2 hK2 => ?_); (try simp (maxSteps := 10000000) (disch := first | omega | simp) [h1, h2]); (first | refine hK2 _ _ (alone_ok p hp) rfl fun hk9 => ?_ | refine hK2 _ _ hw1 rfl fun hk9 => ?_ | refine hK2 _ _ hw2 rfl fun hk9 => ?_ | refine hK2 _ _ hc rfl fun hk9 => ?_ | refine hK2 _ _ hch rfl fun hk9 => ?_); clear hk9; clear hK2 K2) | ((with_reducible refine callF' fun K2 hK2 => ?_); (try simp (maxSteps := 10000000) (disch := first | omega | simp) [h1, h2]); (first | refine hK2 _ _ _ (alone_ok p hp) fun _ => ?_ | refine hK2 _ _ _ hw1 fun _ => ?_ | refine hK2 _ _ _ hw2 fun _ => ?_ | refine hK2 _ _ _ hc fun _ => ?_ | refine hK2 _ _ _ hch fun _ => ?_); clear hK2 K2) | ((with_reducible refine sideF' fun K2 hK2 => ?_); (try simp (maxSteps := 10000000) (disch := first | omega | simp) [h1, h2]); (first | refine hK2 _ _ _ (alone_ok p hp) (by simp) ?_ | refine hK2 _ _ _ hw1 (by simp) ?_ | refine hK2 _ _ _ hw2 (by simp) ?_ | refine hK2 _ _ _ hc (by simp) ?_ | refine hK2 _ _ _ hch (by simp) ?_); clear hK2 K2) | ((with_reducible refine sideQ' ?_ ?_ fun K2 hK2 => ?_); exact rfl; exact rfl; (try simp (maxSteps := 10000000) (disch := first | omega | simp) [h1, h2]); with_reducible refine hK2 _ _ ?_; clear hK2 K2)); (try simp (maxSteps := 10000000) (disch := first | omega | simp) [h1, h2]))) <;> clear hK K) | ((with_reducible refine awCond fun A B hA hB => ?_); simp (maxSteps := 10000000) (disch := first | omega | simp) [h1, h2]; (first | refine ⟨fun h => hA ?_, fun h => hB ?_⟩ | refine hA ?_ | refine hB ?_) <;> (clear hA hB A B; (try (exfalso; omega))))
        all_goals (refine aEnR (aRes [true] fun K hK => ?_); simp (maxSteps := 10000000) (disch := first | omega | simp) []; refine hK _ ?_ (by simp); clear hK; first | done | (simp (maxSteps := 10000000) (disch := first | omega | simp) [*]; done) | (simp (maxSteps := 10000000) (disch := first | omega | simp) [*]; omega) | (simp_all []; done) | (simp_all []; omega))
      · have e : m.settle p g = ({ p.less g with leader := m.chooseP (p.less g) p.leader, epoch := p.epoch + 1 }, true) := by unfold Image.settle; rw [if_neg h1, if_pos h2, if_neg h3]
        rw [e]
        have h1 : (minus p.isr g).length ≠ 0 := h1
        have hc := contains_ok g p.leader hg
        obtain ⟨h2, h4⟩ := h2
        rw [h4] at hc
        repeat' first | (with_reducible first | refine fF ?_ | refine fS ?_ | refine fR ?_ | refine fQ ?_ | refine fC ?_ | refine fT ?_ | refine awRet ?_) | ((with_reducible refine awReg fun K hok hK => ?_); clear hok; (try simp (maxSteps := 10000000) (disch := first | omega | simp) [h1, h2, h3]); (repeat' first | (with_reducible refine hK _ (by simp) ?_) | ((with_reducible refine gdT (fun h => ?_) (fun h => ?_)) <;> (simp (maxSteps := 10000000) (disch := first | omega | simp) [h, h1, h2, h3]; (try simp at h); (try (exfalso; omega)))) | ((first | ((with_reducible refine callS' fun K2 hK2 => ?_); (try simp (maxSteps := 10000000) (disch := first | omega | simp) [h1, h2, h3]); (first | refine hK2 _ _ (alone_ok p hp) rfl fun hk9 => ?_ | refine hK2 _ _ hw1 rfl fun hk9 => ?_ | refine hK2 _ _ hw2 rfl fun hk9 => ?_ | refine hK2 _ _ hc rfl fun hk9 => ?_ | refine hK2 _ _ hch rfl fun hk9 => ?_); clear hk9; clear hK2 K2) | ((with_reducible refine callF' fun K2 hK2 => ?_); (try simp (maxSteps := 10000000) (disch := first | omega | simp) [h1, h2, h3]); (first | refine hK2 _ _ _ (alone_ok p hp) fun _ => ?_ | refine hK2 _ _ _ hw1 fun _ => ?_ | refine hK2 _ _ _ hw2 fun _ => ?_ | refine hK2 _ _ _ hc fun _ => ?_ | refine hK2 _ _ _ hch fun _ => ?_); clear hK2 K2) | ((with_reducible refine sideF' fun K2 hK2 => ?_); (try simp (maxSteps := 10000000) (disch := first | omega | simp) [h1, h2, h3]); (first | refine hK2 _ _ _ (alone_ok p hp) (by simp) ?_ | refine hK2 _ _ _ hw1 (by simp) ?_ | refine hK2 _ _ _ hw2 (by simp) ?_ | refine hK2 _ _ _ hc (by simp) ?_ | refine hK2 _ _ _ hch (by simp) ?_); clear hK2 K2) | ((with_reducible refine sideQ' ?_ ?_ fun K2 hK2 => ?_); exact rfl; exact rfl; (try simp (maxSteps := 10000000) (disch := first | omega | simp) [h1, h2, h3]); with_reducible refine hK2 _ _ ?_; clear hK2 K2)); (try simp (maxSteps := 10000000) (disch := first | omega | simp) [h1, h2, h3]))) <;> clear hK K) | ((with_reducible refine awCond fun A B hA hB => ?_); simp (maxSteps := 10000000) (disch := first | omega | simp) [h1, h2, h3]; (first | refine ⟨fun h => hA ?_, fun h => hB ?_⟩ | refine hA ?_ | refine hB ?_) <;> (clear hA hB A B; (try (exfalso; omega))))
        all_goals (refine aEnR (aRes [true] fun K hK => ?_); simp (maxSteps := 10000000) (disch := first | omega | simp) [Part.less]; refine hK _ ?_ (by simp); clear hK; first | done | (simp (maxSteps := 10000000) (disch := first | omega | simp) [Part.less, *]; done) | (simp (maxSteps := 10000000) (disch := first | omega | simp) [Part.less, *]; omega) | (simp_all [Part.less]; done) | (simp_all [Part.less]; omega))
    · have e : m.settle p g = (p.less g, true) := by unfold Image.settle; rw [if_neg h1, if_neg h2]
      rw [e]
      have h1 : (minus p.isr g).length ≠ 0 := h1
      have hc := contains_ok g p.leader hg
      by_cases h3 : p.leader = 0
      · have q3 : (p.leader != 0) = false := by simp [h3]
        repeat' first | (with_reducible first | refine fF ?_ | refine fS ?_ | refine fR ?_ | refine fQ ?_ | refine fC ?_ | refine fT ?_ | refine awRet ?_) | ((with_reducible refine awReg fun K hok hK => ?_); clear hok; (try simp (maxSteps := 10000000) (disch := first | omega | simp) [h1, q3]); (repeat' first | (with_reducible refine hK _ (by simp) ?_) | ((with_reducible refine gdT (fun h => ?_) (fun h => ?_)) <;> (simp (maxSteps := 10000000) (disch := first | omega | simp) [h, h1, q3]; (try simp at h); (try (exfalso; omega)))) | ((first | ((with_reducible refine callS' fun K2 hK2 => ?_); (try simp (maxSteps := 10000000) (disch := first | omega | simp) [h1, q3]); (first | refine hK2 _ _ (alone_ok p hp) rfl fun hk9 => ?_ | refine hK2 _ _ hw1 rfl fun hk9 => ?_ | refine hK2 _ _ hw2 rfl fun hk9 => ?_ | refine hK2 _ _ hc rfl fun hk9 => ?_); clear hk9; clear hK2 K2) | ((with_reducible refine callF' fun K2 hK2 => ?_); (try simp (maxSteps := 10000000) (disch := first | omega | simp) [h1, q3]); (first | refine hK2 _ _ _ (alone_ok p hp) fun _ => ?_ | refine hK2 _ _ _ hw1 fun _ => ?_ | refine hK2 _ _ _ hw2 fun _ => ?_ | refine hK2 _ _ _ hc fun _ => ?_); clear hK2 K2) | ((with_reducible refine sideF' fun K2 hK2 => ?_); (try simp (maxSteps := 10000000) (disch := first | omega | simp) [h1, q3]); (first | refine hK2 _ _ _ (alone_ok p hp) (by simp) ?_ | refine hK2 _ _ _ hw1 (by simp) ?_ | refine hK2 _ _ _ hw2 (by simp) ?_ | refine hK2 _ _ _ hc (by simp) ?_); clear hK2 K2) | ((with_reducible refine sideQ' ?_ ?_ fun K2 hK2 => ?_); exact rfl; exact rfl; (try simp (maxSteps := 10000000) (disch := first | omega | simp) [h1, q3]); with_reducible refine hK2 _ _ ?_; clear hK2 K2)); (try simp (maxSteps := 10000000) (disch := first | omega | simp) [h1, q3]))) <;> clear hK K) | ((with_reducible refine awCond fun A B hA hB => ?_); simp (maxSteps := 10000000) (disch := first | omega | simp) [h1, q3]; (first | refine ⟨fun h => hA ?_, fun h => hB ?_⟩ | refine hA ?_ | refine hB ?_) <;> (clear hA hB A B; (try (exfalso; omega))))
        all_goals (refine aEnR (aRes [true] fun K hK => ?_); simp (maxSteps := 10000000) (disch := first | omega | simp) [Part.less]; refine hK _ ?_ (by simp); clear hK; first | done | (simp (maxSteps := 10000000) (disch := first | omega | simp) [Part.less, *]; done) | (simp (maxSteps := 10000000) (disch := first | omega | simp) [Part.less, *]; omega) | (simp_all [Part.less]; done) | (simp_all [Part.less]; omega))
      · have h4 : g.contains p.leader = false := by
          cases hx : g.contains p.leader with
          | false => rfl
          | true => exact absurd ⟨h3, hx⟩ h2
        rw [h4] at hc
        repeat' first | (with_reducible first | refine fF ?_ | refine fS ?_ | refine fR ?_ | refine fQ ?_ | refine fC ?_ | refine fT ?_ | refine awRet ?_) | ((with_reducible refine awReg fun K hok hK => ?_); clear hok; (try simp (maxSteps := 10000000) (disch := first | omega | simp) [h1, h3]); (repeat' first | (with_reducible refine hK _ (by simp) ?_) | ((with_reducible refine gdT (fun h => ?_) (fun h => ?_)) <;> (simp (maxSteps := 10000000) (disch := first | omega | simp) [h, h1, h3]; (try simp at h); (try (exfalso; omega)))) | ((first | ((with_reducible refine callS' fun K2 hK2 => ?_); (try simp (maxSteps := 10000000) (disch := first | omega | simp) [h1, h3]); (first | refine hK2 _ _ (alone_ok p hp) rfl fun hk9 => ?_ | refine hK2 _ _ hw1 rfl fun hk9 => ?_ | refine hK2 _ _ hw2 rfl fun hk9 => ?_ | refine hK2 _ _ hc rfl fun hk9 => ?_); clear hk9; clear hK2 K2) | ((with_reducible refine callF' fun K2 hK2 => ?_); (try simp (maxSteps := 10000000) (disch := first | omega | simp) [h1, h3]); (first | refine hK2 _ _ _ (alone_ok p hp) fun _ => ?_ | refine hK2 _ _ _ hw1 fun _ => ?_ | refine hK2 _ _ _ hw2 fun _ => ?_ | refine hK2 _ _ _ hc fun _ => ?_); clear hK2 K2) | ((with_reducible refine sideF' fun K2 hK2 => ?_); (try simp (maxSteps := 10000000) (disch := first | omega | simp) [h1, h3]); (first | refine hK2 _ _ _ (alone_ok p hp) (by simp) ?_ | refine hK2 _ _ _ hw1 (by simp) ?_ | refine hK2 _ _ _ hw2 (by simp) ?_ | refine hK2 _ _ _ hc (by simp) ?_); clear hK2 K2) | ((with_reducible refine sideQ' ?_ ?_ fun K2 hK2 => ?_); exact rfl; exact rfl; (try simp (maxSteps := 10000000) (disch := first | omega | simp) [h1, h3]); with_reducible refine hK2 _ _ ?_; clear hK2 K2)); (try simp (maxSteps := 10000000) (disch := first | omega | simp) [h1, h3]))) <;> clear hK K) | ((with_reducible refine awCond fun A B hA hB => ?_); simp (maxSteps := 10000000) (disch := first | omega | simp) [h1, h3]; (first | refine ⟨fun h => hA ?_, fun h => hB ?_⟩ | refine hA ?_ | refine hB ?_) <;> (clear hA hB A B; (try (exfalso; omega))))
        all_goals (refine aEnR (aRes [true] fun K hK => ?_); simp (maxSteps := 10000000) (disch := first | omega | simp) [Part.less]; refine hK _ ?_ (by simp); clear hK; first | done | (simp (maxSteps := 10000000) (disch := first | omega | simp) [Part.less, *]; done) | (simp (maxSteps := 10000000) (disch := first | omega | simp) [Part.less, *]; omega) | (simp_all [Part.less]; done) | (simp_all [Part.less]; omega))
theorem finish_ok (m : Image) (p : Part) (hbk : m.Brk) (hp : p.Small) (hb : ∀ n ∈ p.ids, big62 n) (he : 0 ≤ p.epoch ∧ p.epoch ≤ 1000000) : ACall pg 21 [encM m, encP p] (.tup [encP (m.finish p).1, B (m.finish p).2]) := by
  refine s21.call mo (by simp) fun hxs => ?_
  clear hxs
  have hw := without_ok p.add p.isr hp.add hp.isr
  have hs := settle_ok m p p.drop hbk hp hp.drop hb he
  have hu := under_ok p
  unfold c21
  cases h1 : p.under with
  | false =>
    have e : m.finish p = (p, false) := by unfold Image.finish; rw [if_pos (.inl h1)]
    rw [e]
    rw [h1] at hu
    repeat' first | (with_reducible first | refine fS ?_ | refine fR ?_ | refine fQ ?_ | refine fT ?_ | refine awRet ?_) | ((with_reducible refine awReg fun K hok hK => ?_); clear hok; (try simp (maxSteps := 10000000) (disch := first | omega | simp) []); (repeat' first | (with_reducible refine hK _ (by simp) ?_) | ((first | ((with_reducible refine callS' fun K2 hK2 => ?_); (try simp (maxSteps := 10000000) (disch := first | omega | simp) []); (refine hK2 _ _ hu rfl fun hk9 => ?_); clear hk9; clear hK2 K2) | ((with_reducible refine callF' fun K2 hK2 => ?_); (try simp (maxSteps := 10000000) (disch := first | omega | simp) []); (refine hK2 _ _ _ hu fun _ => ?_); clear hK2 K2)); (try simp (maxSteps := 10000000) (disch := first | omega | simp) []))) <;> clear hK K) | ((with_reducible refine awCond fun A B hA hB => ?_); simp (maxSteps := 10000000) (disch := first | omega | simp) []; (first | refine ⟨fun h => hA ?_, fun h => hB ?_⟩ | refine hA ?_ | refine hB ?_) <;> (clear hA hB A B; (try (exfalso; omega))))
    all_goals (refine aEnR (aRes [true] fun K hK => ?_); simp (maxSteps := 10000000) (disch := first | omega | simp) []; refine hK _ ?_ (by simp); clear hK; first | done | (simp (maxSteps := 10000000) (disch := first | omega | simp) [*]; done) | (simp (maxSteps := 10000000) (disch := first | omega | simp) [*]; omega) | (simp_all []; done) | (simp_all []; omega))
  | true =>
    rw [h1] at hu
    by_cases h2 : 0 < (minus p.add p.isr).length
    · have e : m.finish p = (p, false) := by unfold Image.finish; rw [if_pos (.inr h2)]
      rw [e]
      repeat' first | (with_reducible first | refine fS ?_ | refine fR ?_ | refine fQ ?_ | refine fT ?_ | refine awRet ?_) | ((with_reducible refine awReg fun K hok hK => ?_); clear hok; (try simp (maxSteps := 10000000) (disch := first | omega | simp) [h2]); (repeat' first | (with_reducible refine hK _ (by simp) ?_) | ((first | ((with_reducible refine callS' fun K2 hK2 => ?_); (try simp (maxSteps := 10000000) (disch := first | omega | simp) [h2]); (first | refine hK2 _ _ hu rfl fun hk9 => ?_ | refine hK2 _ _ hw rfl fun hk9 => ?_); clear hk9; clear hK2 K2) | ((with_reducible refine callF' fun K2 hK2 => ?_); (try simp (maxSteps := 10000000) (disch := first | omega | simp) [h2]); (first | refine hK2 _ _ _ hu fun _ => ?_ | refine hK2 _ _ _ hw fun _ => ?_); clear hK2 K2)); (try simp (maxSteps := 10000000) (disch := first | omega | simp) [h2]))) <;> clear hK K) | ((with_reducible refine awCond fun A B hA hB => ?_); simp (maxSteps := 10000000) (disch := first | omega | simp) [h2]; (first | refine ⟨fun h => hA ?_, fun h => hB ?_⟩ | refine hA ?_ | refine hB ?_) <;> (clear hA hB A B; (try (exfalso; omega))))
      all_goals (refine aEnR (aRes [true] fun K hK => ?_); simp (maxSteps := 10000000) (disch := first | omega | simp) []; refine hK _ ?_ (by simp); clear hK; first | done | (simp (maxSteps := 10000000) (disch := first | omega | simp) [*]; done) | (simp (maxSteps := 10000000) (disch := first | omega | simp) [*]; omega) | (simp_all []; done) | (simp_all []; omega))
    · have e : m.finish p = m.settle p p.drop := by unfold Image.finish; rw [if_neg (by simp [h1, h2])]
      rw [e]
      repeat' first | (with_reducible first | refine fS ?_ | refine fR ?_ | refine fQ ?_ | refine fT ?_ | refine awRet ?_) | ((with_reducible refine awReg fun K hok hK => ?_); clear hok; (try simp (maxSteps := 10000000) (disch := first | omega | simp) [h2]); (repeat' first | (with_reducible refine hK _ (by simp) ?_) | ((first | ((with_reducible refine callS' fun K2 hK2 => ?_); (try simp (maxSteps := 10000000) (disch := first | omega | simp) [h2]); (first | refine hK2 _ _ hu rfl fun hk9 => ?_ | refine hK2 _ _ hw rfl fun hk9 => ?_ | refine hK2 _ _ hs rfl fun hk9 => ?_); clear hk9; clear hK2 K2) | ((with_reducible refine callF' fun K2 hK2 => ?_); (try simp (maxSteps := 10000000) (disch := first | omega | simp) [h2]); (first | refine hK2 _ _ _ hu fun _ => ?_ | refine hK2 _ _ _ hw fun _ => ?_ | refine hK2 _ _ _ hs fun _ => ?_); clear hK2 K2)); (try simp (maxSteps := 10000000) (disch := first | omega | simp) [h2]))) <;> clear hK K) | ((with_reducible refine awCond fun A B hA hB => ?_); simp (maxSteps := 10000000) (disch := first | omega | simp) [h2]; (first | refine ⟨fun h => hA ?_, fun h => hB ?_⟩ | refine hA ?_ | refine hB ?_) <;> (clear hA hB A B; (try (exfalso; omega))))
      all_goals (refine aEnR (aRes [true] fun K hK => ?_); simp (maxSteps := 10000000) (disch := first | omega | simp) []; refine hK _ ?_ (by simp); clear hK; first | done | (simp (maxSteps := 10000000) (disch := first | omega | simp) [*]; done) | (simp (maxSteps := 10000000) (disch := first | omega | simp) [*]; omega) | (simp_all []; done) | (simp_all []; omega))
theorem cancel_ok (m : Image) (p : Part) (hbk : m.Brk) (hp : p.Small) (hb : ∀ n ∈ p.ids, big62 n) (he : 0 ≤ p.epoch ∧ p.epoch ≤ 1000000) : ACall pg 24 [encM m, encP p] (.tup [encP (m.cancelP p), errO (m.cancelE p)]) := by
  refine s24.call mo (by simp) fun hxs => ?_
  clear hxs
  have hs := settle_ok m p p.add hbk hp hp.add hb he
  have hu := under_ok p
  unfold c24
  cases h1 : p.under with
  | false =>
    have e : m.cancelE p = some (mvs, 0, 8) := by unfold Image.cancelE; rw [if_pos h1]
    have e2 : m.cancelP p = p := by unfold Image.cancelP; rw [e]; rfl
    rw [e, e2]
    rw [h1] at hu
    repeat' first | (with_reducible first | refine fS ?_ | refine fR ?_ | refine fQ ?_ | refine fT ?_ | refine awRet ?_) | ((with_reducible refine awReg fun K hok hK => ?_); clear hok; (try simp (maxSteps := 10000000) (disch := first | omega | simp) []); (repeat' first | (with_reducible refine hK _ (by simp) ?_) | ((first | ((with_reducible refine callS' fun K2 hK2 => ?_); (try simp (maxSteps := 10000000) (disch := first | omega | simp) []); (first | refine hK2 _ _ hu rfl fun hk9 => ?_ | refine hK2 _ _ (new_ok _ _ _) rfl fun hk9 => ?_); clear hk9; clear hK2 K2) | ((with_reducible refine callF' fun K2 hK2 => ?_); (try simp (maxSteps := 10000000) (disch := first | omega | simp) []); (first | refine hK2 _ _ _ hu fun _ => ?_ | refine hK2 _ _ _ (new_ok _ _ _) fun _ => ?_); clear hK2 K2) | ((with_reducible refine sideS' fun K2 hK2 => ?_); (try simp (maxSteps := 10000000) (disch := first | omega | simp) []); (first | refine hK2 _ _ (hu) rfl ?_ | refine hK2 _ _ (new_ok _ _ _) rfl ?_); clear hK2 K2) | ((with_reducible refine sideQ' ?_ ?_ fun K2 hK2 => ?_); exact rfl; exact rfl; (try simp (maxSteps := 10000000) (disch := first | omega | simp) []); with_reducible refine hK2 _ _ ?_; clear hK2 K2)); (try simp (maxSteps := 10000000) (disch := first | omega | simp) []))) <;> clear hK K) | ((with_reducible refine awCond fun A B hA hB => ?_); simp (maxSteps := 10000000) (disch := first | omega | simp) []; (first | refine ⟨fun h => hA ?_, fun h => hB ?_⟩ | refine hA ?_ | refine hB ?_) <;> (clear hA hB A B; (try (exfalso; omega))))
    all_goals (refine aEnR (aRes [true] fun K hK => ?_); simp (maxSteps := 10000000) (disch := first | omega | simp) [mvs]; refine hK _ ?_ (by simp); clear hK; first | done | (simp (maxSteps := 10000000) (disch := first | omega | simp) [mvs, *]; done) | (simp (maxSteps := 10000000) (disch := first | omega | simp) [mvs, *]; omega) | (simp_all [mvs]; done) | (simp_all [mvs]; omega))
  | true =>
    rw [h1] at hu
    generalize hst : m.settle p p.add = st at hs
    obtain ⟨q, b⟩ := st
    cases b with
    | false =>
      have e : m.cancelE p = some (mvs, (p.add.length : Int), 10) := by unfold Image.cancelE; rw [hst, h1]; rfl
      have e2 : m.cancelP p = p := by unfold Image.cancelP; rw [e]; rfl
      rw [e, e2]
      repeat' first | (with_reducible first | refine fS ?_ | refine fR ?_ | refine fQ ?_ | refine fT ?_ | refine awRet ?_) | ((with_reducible refine awReg fun K hok hK => ?_); clear hok; (try simp (maxSteps := 10000000) (disch := first | omega | simp) []); (repeat' first | (with_reducible refine hK _ (by simp) ?_) | ((first | ((with_reducible refine callS' fun K2 hK2 => ?_); (try simp (maxSteps := 10000000) (disch := first | omega | simp) []); (first | refine hK2 _ _ hu rfl fun hk9 => ?_ | refine hK2 _ _ hs rfl fun hk9 => ?_ | refine hK2 _ _ (new_ok _ _ _) rfl fun hk9 => ?_); clear hk9; clear hK2 K2) | ((with_reducible refine callF' fun K2 hK2 => ?_); (try simp (maxSteps := 10000000) (disch := first | omega | simp) []); (first | refine hK2 _ _ _ hu fun _ => ?_ | refine hK2 _ _ _ hs fun _ => ?_ | refine hK2 _ _ _ (new_ok _ _ _) fun _ => ?_); clear hK2 K2) | ((with_reducible refine sideS' fun K2 hK2 => ?_); (try simp (maxSteps := 10000000) (disch := first | omega | simp) []); (first | refine hK2 _ _ (hu) rfl ?_ | refine hK2 _ _ (hs) rfl ?_ | refine hK2 _ _ (new_ok _ _ _) rfl ?_); clear hK2 K2) | ((with_reducible refine sideQ' ?_ ?_ fun K2 hK2 => ?_); exact rfl; exact rfl; (try simp (maxSteps := 10000000) (disch := first | omega | simp) []); with_reducible refine hK2 _ _ ?_; clear hK2 K2)); (try simp (maxSteps := 10000000) (disch := first | omega | simp) []))) <;> clear hK K) | ((with_reducible refine awCond fun A B hA hB => ?_); simp (maxSteps := 10000000) (disch := first | omega | simp) []; (first | refine ⟨fun h => hA ?_, fun h => hB ?_⟩ | refine hA ?_ | refine hB ?_) <;> (clear hA hB A B; (try (exfalso; omega))))
      all_goals (refine aEnR (aRes [true] fun K hK => ?_); simp (maxSteps := 10000000) (disch := first | omega | simp) [mvs]; refine hK _ ?_ (by simp); clear hK; first | done | (simp (maxSteps := 10000000) (disch := first | omega | simp) [mvs, *]; done) | (simp (maxSteps := 10000000) (disch := first | omega | simp) [mvs, *]; omega) | (simp_all [mvs]; done) | (simp_all [mvs]; omega))
    | true =>
      have e : m.cancelE p = none := by unfold Image.cancelE; rw [hst, h1]; rfl
      have e2 : m.cancelP p = q := by unfold Image.cancelP; rw [e, hst]; rfl
      rw [e, e2]
      repeat' first | (with_reducible first | refine fS ?_ | refine fR ?_ | refine fQ ?_ | refine fT ?_ | refine awRet ?_) | ((with_reducible refine awReg fun K hok hK => ?_); clear hok; (try simp (maxSteps := 10000000) (disch := first | omega | simp) []); (repeat' first | (with_reducible refine hK _ (by simp) ?_) | ((first | ((with_reducible refine callS' fun K2 hK2 => ?_); (try simp (maxSteps := 10000000) (disch := first | omega | simp) []); (first | refine hK2 _ _ hu rfl fun hk9 => ?_ | refine hK2 _ _ hs rfl fun hk9 => ?_); clear hk9; clear hK2 K2) | ((with_reducible refine callF' fun K2 hK2 => ?_); (try simp (maxSteps := 10000000) (disch := first | omega | simp) []); (first | refine hK2 _ _ _ hu fun _ => ?_ | refine hK2 _ _ _ hs fun _ => ?_); clear hK2 K2) | ((with_reducible refine sideS' fun K2 hK2 => ?_); (try simp (maxSteps := 10000000) (disch := first | omega | simp) []); (first | refine hK2 _ _ (hu) rfl ?_ | refine hK2 _ _ (hs) rfl ?_); clear hK2 K2) | ((with_reducible refine sideQ' ?_ ?_ fun K2 hK2 => ?_); exact rfl; exact rfl; (try simp (maxSteps := 10000000) (disch := first | omega | simp) []); with_reducible refine hK2 _ _ ?_; clear hK2 K2)); (try simp (maxSteps := 10000000) (disch := first | omega | simp) []))) <;> clear hK K) | ((with_reducible refine awCond fun A B hA hB => ?_); simp (maxSteps := 10000000) (disch := first | omega | simp) []; (first | refine ⟨fun h => hA ?_, fun h => hB ?_⟩ | refine hA ?_ | refine hB ?_) <;> (clear hA hB A B; (try (exfalso; omega))))
      all_goals (refine aEnR (aRes [true] fun K hK => ?_); simp (maxSteps := 10000000) (disch := first | omega | simp) []; refine hK _ ?_ (by simp); clear hK; first | done | (simp (maxSteps := 10000000) (disch := first | omega | simp) [*]; done) | (simp (maxSteps := 10000000) (disch := first | omega | simp) [*]; omega) | (simp_all []; done) | (simp_all []; omega))
end
end Go.Am
