/- Part of the proof of a law of placing. -/
import Derived.Test.YteijffflinnccaaDoorQP2
set_option linter.all false
set_option maxRecDepth 100000
set_option maxHeartbeats 0
namespace Go.Am
open Go
noncomputable section
def c10 : SC := (.seq (.reg [⟨some 1, .box 30 (.tmp 0), none, []⟩,
  ⟨some 2, .assign (.const (.slice none 0 0)), none, []⟩] [1, 32]) (.seq (.reg [⟨some 3, .assign (.const (.slice none 0 0)), none, []⟩] [1, 3, 32]) (.seq (.reg [⟨some 9, .load 30 (.tmp 1), none, []⟩,
  ⟨some 10, .call { callee := .value (.func 19), args := #[.tmp 9], argTypes := #[30] }, none, []⟩,
  ⟨some 4, .assign (.tmp 10), none, []⟩] [3, 4, 10, 32]) (.seq (.reg [⟨some 5, .assign (.const (.bool true)), none, []⟩,
  ⟨some 6, .assign (.const (.int .i64 0)), none, []⟩] [3, 4, 5, 6, 10, 13, 32]) (.seq (.block 0 (.seq (.loop (.seq (.reg [⟨some 11, .move (.tmp 5), none, []⟩] [3, 4, 5, 6, 10, 11, 13, 32]) (.seq (.cond (.tmp 11) .skip (.exit 0)) (.seq (.block 1 (.seq (.reg [⟨some 5, .assign (.const (.bool false)), none, []⟩] [3, 4, 5, 6, 10, 13, 32]) (.seq (.reg [⟨some 14, .move (.tmp 4), none, []⟩,
  ⟨some 15, .call { callee := .builtin .len, args := #[.tmp 14], argTypes := #[52] }, none, []⟩,
  ⟨some 16, .move (.const (.int .i64 0)), none, []⟩] [3, 4, 5, 6, 10, 13, 14, 15, 16, 32, 33]) (.seq (.block 2 (.seq (.loop (.seq (.reg [⟨some 17, .binOp .lss 3 (.tmp 16) (.tmp 15) 3, none, []⟩] [3, 4, 5, 6, 10, 13, 14, 15, 16, 17, 32, 33]) (.seq (.cond (.tmp 17) .skip (.exit 2)) (.seq (.block 3 (.seq (.reg [⟨some 18, .indexAddr 52 (.tmp 14) (.tmp 16), none, []⟩,
  ⟨some 19, .load 55 (.tmp 18), none, []⟩,
  ⟨some 8, .alloc 55, none, []⟩,
  ⟨none, .store 55 (.tmp 8) (.tmp 19), none, []⟩] [3, 4, 5, 6, 8, 10, 13, 14, 15, 16, 32, 33]) (.seq (.reg [⟨some 20, .move (.tmp 6), none, []⟩,
  ⟨some 21, .fieldAddr 55 (.tmp 8) 1, none, []⟩,
  ⟨some 22, .load 23 (.tmp 21), none, []⟩,
  ⟨some 23, .call { callee := .builtin .len, args := #[.tmp 22], argTypes := #[23] }, none, []⟩,
  ⟨some 24, .binOp .lss 3 (.tmp 20) (.tmp 23) 3, none, []⟩] [3, 4, 5, 6, 8, 10, 13, 14, 15, 16, 24, 32, 33]) (.seq (.cond (.tmp 24) (.seq (.reg [⟨some 25, .move (.tmp 3), none, []⟩,
  ⟨some 26, .fieldAddr 55 (.tmp 8) 1, none, []⟩,
  ⟨some 27, .load 23 (.tmp 26), none, []⟩,
  ⟨some 28, .move (.tmp 6), none, []⟩,
  ⟨some 29, .indexAddr 23 (.tmp 27) (.tmp 28), none, []⟩,
  ⟨some 30, .load 3 (.tmp 29), none, []⟩,
  ⟨some 31, .buildSlice 23 1 #[(0, .tmp 30)], none, []⟩,
  ⟨some 32, .call { callee := .builtin .append, args := #[.tmp 25, .tmp 31], argTypes := #[23, 23] }, none, []⟩,
  ⟨some 3, .assign (.tmp 32), none, []⟩] [3, 4, 6, 10, 13, 14, 15, 16, 32, 33]) (.seq (.reg [⟨some 5, .assign (.const (.bool true)), none, []⟩] [3, 4, 5, 6, 10, 13, 14, 15, 16, 32, 33]) .skip)) .skip) .skip)))) (.seq (.reg [⟨some 33, .binOp .add 3 (.tmp 16) (.const (.int .i64 1)) 3, none, []⟩,
  ⟨some 16, .move (.tmp 33), none, []⟩] [3, 4, 5, 6, 10, 13, 14, 15, 16, 32, 33]) .skip))))) .skip)) .skip)))) (.seq (.reg [⟨some 12, .move (.tmp 6), none, []⟩,
  ⟨some 13, .binOp .add 3 (.tmp 12) (.const (.int .i64 1)) 3, none, []⟩,
  ⟨some 6, .assign (.tmp 13), none, []⟩] [3, 4, 5, 6, 10, 13, 32]) .skip))))) .skip)) (.seq (.reg [⟨some 34, .move (.tmp 3), none, []⟩,
  ⟨some 2, .assign (.tmp 34), none, []⟩] [2, 3, 32, 34]) .ret))))))
theorem s10 : TextK Proofs.Tryd.prog 0 10 35 [ResultVar.tmp 2] c10 := .mk' Proofs.Tryd.f10 _ (by kernel_rfl) rfl rfl rfl (by kernel_rfl) rfl (by kernel_rfl)
theorem Wk.frz0 {l : List (Nat × E)} {r : Nat} {X : List V} (h : Am.ofA l r = .p (.uq X)) : Wk (Am.ofA l) (Am.ofA ((r, .p (.sl (pvL X))) :: blurK r [] l)) := by
  have hc : cont (Am.ofA l) r = .uq X := by simp [cont, h]
  have := Wk.freeze (Γ := Am.ofA l) (r := r) (q := []) (D := .uq X) (by rw [hc]; rfl) (by simp)
  rw [upd_ofA, hc] at this
  exact this
theorem order_ok (m : Image) (hb : m.brokers.length ≤ 100) : ACall pg 10 [encM m] (.uq (m.order.map I)) := by
  refine s10.call mo (by simp) fun hxs => ?_
  clear hxs
  unfold c10
  have hra := racks_ok m (by omega)
  have hl0 := racksOf_len m.brokers [] 0 (by simp) (by simp)
  unfold Image.order
  change ACall _ _ _ (.uq ((racksOf m.brokers).map encK)) at hra
  have hll : (racksOf m.brokers).length ≤ 100 := by have := hl0.1; unfold racksOf; omega
  have hil : ∀ r ∈ racksOf m.brokers, r.ids.length ≤ 100 := fun r hr => by have := hl0.2 r hr; omega
  clear hl0
  generalize racksOf m.brokers = l at *
  have hol := orderOf_len l
  repeat' first
      | (with_reducible first | refine thN ?_ | refine thR ?_ | refine thE ?_ | refine inN ?_ | refine inR ?_ | refine inH ?_ | refine fF ?_ | refine fS ?_ | refine fR ?_ | refine fQ ?_ | refine fC ?_ | refine fB ?_ | refine fL ?_ | refine fE ?_ | refine fT ?_ | refine awBlock ?_ | refine awExit ?_ | refine awRet ?_ | refine awSkip ?_ | refine inM (by decide) ?_)
      | ((with_reducible refine awReg fun K hok hK => ?_); clear hok; (try simp (maxSteps := 10000000) (disch := first | omega | simp) []); (repeat' first
          | (with_reducible refine hK _ (by simp) ?_)
          | ((with_reducible refine gdT (fun h => ?_) (fun h => ?_)) <;> (simp (maxSteps := 10000000) (disch := first | omega | simp) [h]; (try simp at h); (try (exfalso; omega))))
          | ((with_reducible refine gdF (fun h => ?_) (fun h => ?_)) <;> (simp (maxSteps := 10000000) (disch := first | omega | simp) [h]; (try simp at h); (try (exfalso; omega))))
          | ((with_reducible refine callS' fun K2 hK2 => ?_); (try simp (maxSteps := 10000000) (disch := first | omega | simp) []); (first | (refine hK2 _ _ (hra) rfl fun hk9 => ?_; clear hk9)); clear hK2 K2; (try simp (maxSteps := 10000000) (disch := first | omega | simp) []))
          | ((with_reducible refine callF' fun K2 hK2 => ?_); (try simp (maxSteps := 10000000) (disch := first | omega | simp) []); (first | refine hK2 _ _ _ (hra) fun _ => ?_); clear hK2 K2; (try simp (maxSteps := 10000000) (disch := first | omega | simp) []))
          | ((with_reducible refine callM' rfl fun K2 hK2 => ?_); (try simp (maxSteps := 10000000) (disch := first | omega | simp) []); (first | refine hK2 _ _ _ _ _ _ _ (hra) rfl fun _ _ => ?_); clear hK2 K2; (try simp (maxSteps := 10000000) (disch := first | omega | simp) []))
          | ((with_reducible refine callT' rfl fun K2 hK2 => ?_); (try simp (maxSteps := 10000000) (disch := first | omega | simp) []); (first | refine hK2 _ _ _ _ _ (hra) fun _ => ?_); clear hK2 K2; (try simp (maxSteps := 10000000) (disch := first | omega | simp) []))
          | ((with_reducible refine gdU ?_); (try simp (maxSteps := 10000000) (disch := first | omega | simp) []))) <;> clear hK K)
      | ((with_reducible refine awCond fun A B hA hB => ?_); simp (maxSteps := 10000000) (disch := first | omega | simp) []; (first | refine ⟨fun h => hA ?_, fun h => hB ?_⟩ | refine hA ?_ | refine hB ?_) <;> (clear hA hB A B; (try (exfalso; omega))))
  refine awWhile (fun (s : List Int × Bool × Nat) => 102 - s.2.2) (fun s => s.1 ++ ((List.range 1000).drop s.2.2).flatMap (roundK l) = orderOf l ∧ (s.2.1 = false → ∀ r ∈ l, r.ids.length ≤ s.2.2) ∧ s.2.2 ≤ 101 ∧ (s.2.1 = true → s.2.2 ≤ 100))
    (fun s => [(6, .p (I s.2.2)), (5, .p (B s.2.1)), (4, .p (.sl (l.map encKf))), (3, .p (.uq (s.1.map I)))]) ([], true, 0) (((Wk.frz0 (r := 4) rfl).trans (Wk.ofA (by simp)))) ⟨by simp [orderOf], by simp, by simp, by simp⟩ fun s hs => ?_
  obtain ⟨out, more, i⟩ := s
  simp only at hs
  obtain ⟨hs, hf, hi1, hi2⟩ := hs
  cases more with
  | false =>
    have e : orderOf l = out := by rw [rest_nil (hf rfl), List.append_nil] at hs; exact hs.symm
    repeat' first
        | (with_reducible first | refine thN ?_ | refine thR ?_ | refine thE ?_ | refine inN ?_ | refine inR ?_ | refine inH ?_ | refine fF ?_ | refine fS ?_ | refine fR ?_ | refine fQ ?_ | refine fC ?_ | refine fB ?_ | refine fL ?_ | refine fE ?_ | refine fT ?_ | refine awBlock ?_ | refine awExit ?_ | refine awRet ?_ | refine awSkip ?_ | refine inM (by decide) ?_)
        | ((with_reducible refine awReg fun K hok hK => ?_); clear hok; (try simp (maxSteps := 10000000) (disch := first | omega | simp) []); (repeat' first
            | (with_reducible refine hK _ (by simp) ?_)
            | ((with_reducible refine gdT (fun h => ?_) (fun h => ?_)) <;> (simp (maxSteps := 10000000) (disch := first | omega | simp) [h]; (try simp at h); (try (exfalso; omega))))
            | ((with_reducible refine gdF (fun h => ?_) (fun h => ?_)) <;> (simp (maxSteps := 10000000) (disch := first | omega | simp) [h]; (try simp at h); (try (exfalso; omega))))
            | ((with_reducible refine gdU ?_); (try simp (maxSteps := 10000000) (disch := first | omega | simp) []))) <;> clear hK K)
        | ((with_reducible refine awCond fun A B hA hB => ?_); simp (maxSteps := 10000000) (disch := first | omega | simp) []; (first | refine ⟨fun h => hA ?_, fun h => hB ?_⟩ | refine hA ?_ | refine hB ?_) <;> (clear hA hB A B; (try (exfalso; omega))))
    (refine aEnR (aRes [] fun K hK => ?_); simp (maxSteps := 10000000) (disch := first | omega | simp) [e]; refine hK _ ?_ (by simp); clear hK; first | done | (simp (maxSteps := 10000000) (disch := first | omega | simp) [e, *]; done) | (simp (maxSteps := 10000000) (disch := first | omega | simp) [e, *]; omega) | (simp_all [e]; done) | (simp_all [e]; omega))
  | true =>
    have hi := hi2 rfl
    rw [drop_cons (show i < (List.range 1000).length by simp; omega)] at hs
    simp only [List.getElem_range, List.flatMap_cons] at hs
    generalize hrest : ((List.range 1000).drop (i + 1)).flatMap (roundK l) = rest at hs
    repeat' first
        | (with_reducible first | refine thN ?_ | refine thR ?_ | refine thE ?_ | refine inN ?_ | refine inR ?_ | refine inH ?_ | refine fF ?_ | refine fS ?_ | refine fR ?_ | refine fQ ?_ | refine fC ?_ | refine fB ?_ | refine fL ?_ | refine fE ?_ | refine fT ?_ | refine awBlock ?_ | refine awExit ?_ | refine awRet ?_ | refine awSkip ?_ | refine inM (by decide) ?_)
        | ((with_reducible refine awReg fun K hok hK => ?_); clear hok; (try simp (maxSteps := 10000000) (disch := first | omega | simp) []); (repeat' first
            | (with_reducible refine hK _ (by simp) ?_)
            | ((with_reducible refine gdT (fun h => ?_) (fun h => ?_)) <;> (simp (maxSteps := 10000000) (disch := first | omega | simp) [h]; (try simp at h); (try (exfalso; omega))))
            | ((with_reducible refine gdF (fun h => ?_) (fun h => ?_)) <;> (simp (maxSteps := 10000000) (disch := first | omega | simp) [h]; (try simp at h); (try (exfalso; omega))))
            | ((with_reducible refine gdU ?_); (try simp (maxSteps := 10000000) (disch := first | omega | simp) []))) <;> clear hK K)
        | ((with_reducible refine awCond fun A B hA hB => ?_); simp (maxSteps := 10000000) (disch := first | omega | simp) []; (first | refine ⟨fun h => hA ?_, fun h => hB ?_⟩ | refine hA ?_ | refine hB ?_) <;> (clear hA hB A B; (try (exfalso; omega))))
    refine awFor l.length (fun k (s : List Int × Bool) => s.1 ++ (roundK (l.drop k) i ++ rest) = orderOf l ∧ (s.2 = false → ∀ r ∈ l.take k, r.ids.length ≤ i) ∧ (s.2 = true → i + 1 ≤ 100)) (fun k s => [(16, .p (I k)), (15, .p (I l.length)), (14, .p (.sl (l.map encKf))), (6, .p (I i)), (5, .p (B s.2)), (4, .p (.sl (l.map encKf))), (3, .p (.uq (s.1.map I)))]) (out, false) (Wk.ofA (by simp)) ⟨by simpa using hs, by simp, by simp⟩ fun k s hk hs2 => ?_
    obtain ⟨o2, more⟩ := s
    simp only at hs2
    obtain ⟨h1, h2, h3⟩ := hs2
    have ho2 : o2.length ≤ 100000 := by
      have := congrArg List.length h1
      simp only [List.length_append] at this
      omega
    by_cases hlt : k < l.length
    · rw [drop_cons hlt] at h1
      simp only [roundK, List.flatMap_cons] at h1
      have hrl := hil _ (List.getElem_mem hlt)
      generalize hr : l[k] = r at *
      by_cases hir : i < r.ids.length
      · rw [List.getElem?_eq_getElem hir] at h1
        repeat' first
            | (with_reducible first | refine thN ?_ | refine thR ?_ | refine thE ?_ | refine inN ?_ | refine inR ?_ | refine inH ?_ | refine fF ?_ | refine fS ?_ | refine fR ?_ | refine fQ ?_ | refine fC ?_ | refine fB ?_ | refine fL ?_ | refine fE ?_ | refine fT ?_ | refine awBlock ?_ | refine awExit ?_ | refine awRet ?_ | refine awSkip ?_ | refine inM (by decide) ?_)
            | ((with_reducible refine awReg fun K hok hK => ?_); clear hok; (try simp (maxSteps := 10000000) (disch := first | omega | simp) [hr, hir]); (repeat' first
                | (with_reducible refine hK _ (by simp) ?_)
                | ((with_reducible refine gdT (fun h => ?_) (fun h => ?_)) <;> (simp (maxSteps := 10000000) (disch := first | omega | simp) [h, hr, hir]; (try simp at h); (try (exfalso; omega))))
                | ((with_reducible refine gdF (fun h => ?_) (fun h => ?_)) <;> (simp (maxSteps := 10000000) (disch := first | omega | simp) [h, hr, hir]; (try simp at h); (try (exfalso; omega))))
                | ((with_reducible refine gdU ?_); (try simp (maxSteps := 10000000) (disch := first | omega | simp) [hr, hir]))) <;> clear hK K)
            | ((with_reducible refine awCond fun A B hA hB => ?_); simp (maxSteps := 10000000) (disch := first | omega | simp) [hr, hir]; (first | refine ⟨fun h => hA ?_, fun h => hB ?_⟩ | refine hA ?_ | refine hB ?_) <;> (clear hA hB A B; (try (exfalso; omega))))
        (refine ⟨?_, (o2 ++ [r.ids[i]], true), ?_, Wk.ofA ?_⟩; assumption; rotate_left; focus (simp []; done))
        exact ⟨by simp only [roundK]; simpa using h1, by simp, fun _ => by omega⟩
      · rw [List.getElem?_eq_none (by omega)] at h1
        repeat' first
            | (with_reducible first | refine thN ?_ | refine thR ?_ | refine thE ?_ | refine inN ?_ | refine inR ?_ | refine inH ?_ | refine fF ?_ | refine fS ?_ | refine fR ?_ | refine fQ ?_ | refine fC ?_ | refine fB ?_ | refine fL ?_ | refine fE ?_ | refine fT ?_ | refine awBlock ?_ | refine awExit ?_ | refine awRet ?_ | refine awSkip ?_ | refine inM (by decide) ?_)
            | ((with_reducible refine awReg fun K hok hK => ?_); clear hok; (try simp (maxSteps := 10000000) (disch := first | omega | simp) [hr]); (repeat' first
                | (with_reducible refine hK _ (by simp) ?_)
                | ((with_reducible refine gdT (fun h => ?_) (fun h => ?_)) <;> (simp (maxSteps := 10000000) (disch := first | omega | simp) [h, hr]; (try simp at h); (try (exfalso; omega))))
                | ((with_reducible refine gdF (fun h => ?_) (fun h => ?_)) <;> (simp (maxSteps := 10000000) (disch := first | omega | simp) [h, hr]; (try simp at h); (try (exfalso; omega))))
                | ((with_reducible refine gdU ?_); (try simp (maxSteps := 10000000) (disch := first | omega | simp) [hr]))) <;> clear hK K)
            | ((with_reducible refine awCond fun A B hA hB => ?_); simp (maxSteps := 10000000) (disch := first | omega | simp) [hr]; (first | refine ⟨fun h => hA ?_, fun h => hB ?_⟩ | refine hA ?_ | refine hB ?_) <;> (clear hA hB A B; (try (exfalso; omega))))
        (refine ⟨?_, (o2, more), ?_, Wk.ofA ?_⟩; assumption; rotate_left; focus (simp []; done))
        refine ⟨by simp only [roundK]; simpa using h1, fun e q hq => ?_, h3⟩
        rw [List.take_add_one, List.getElem?_eq_getElem hlt, hr] at hq
        rcases List.mem_append.1 hq with hq | hq
        · exact h2 e q hq
        · have : q = r := by simpa using hq
          subst this; omega
    · have e : l.drop k = [] := drop_nil (by omega)
      rw [e] at h1
      simp only [roundK, List.flatMap_nil, List.nil_append] at h1
      repeat' first
          | (with_reducible first | refine thN ?_ | refine thR ?_ | refine thE ?_ | refine inN ?_ | refine inR ?_ | refine inH ?_ | refine fF ?_ | refine fS ?_ | refine fR ?_ | refine fQ ?_ | refine fC ?_ | refine fB ?_ | refine fL ?_ | refine fE ?_ | refine fT ?_ | refine awBlock ?_ | refine awExit ?_ | refine awRet ?_ | refine awSkip ?_ | refine inM (by decide) ?_)
          | ((with_reducible refine awReg fun K hok hK => ?_); clear hok; (try simp (maxSteps := 10000000) (disch := first | omega | simp) []); (repeat' first
              | (with_reducible refine hK _ (by simp) ?_)
              | ((with_reducible refine gdT (fun h => ?_) (fun h => ?_)) <;> (simp (maxSteps := 10000000) (disch := first | omega | simp) [h]; (try simp at h); (try (exfalso; omega))))
              | ((with_reducible refine gdF (fun h => ?_) (fun h => ?_)) <;> (simp (maxSteps := 10000000) (disch := first | omega | simp) [h]; (try simp at h); (try (exfalso; omega))))
              | ((with_reducible refine gdU ?_); (try simp (maxSteps := 10000000) (disch := first | omega | simp) []))) <;> clear hK K)
          | ((with_reducible refine awCond fun A B hA hB => ?_); simp (maxSteps := 10000000) (disch := first | omega | simp) []; (first | refine ⟨fun h => hA ?_, fun h => hB ?_⟩ | refine hA ?_ | refine hB ?_) <;> (clear hA hB A B; (try (exfalso; omega))))
      refine ⟨(o2, more, i + 1), by simp only; omega, ⟨by simp only; rw [hrest]; exact h1, fun em r hr => ?_, by simp only; omega, fun em => h3 em⟩, Wk.ofA (by simp)⟩
      have := h2 em r (by rw [List.take_of_length_le (by omega)]; exact hr)
      simp only; omega
end
end Go.Am
