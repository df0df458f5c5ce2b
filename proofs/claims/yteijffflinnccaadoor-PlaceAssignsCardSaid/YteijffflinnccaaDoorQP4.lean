/- Part of the proof of a law of placing. -/
import Derived.Test.YteijffflinnccaaDoorQP3
import Derived.Test.YteijffflinnccaaDoorQPK
set_option linter.all false
set_option maxRecDepth 100000
set_option maxHeartbeats 0
namespace Go.Am
open Go
noncomputable section
def c28 : SC := (.seq (.reg [⟨some 4, .assign (.const (.int .i64 0)), none, []⟩] [0, 1, 5, 8, 10, 17, 18]) (.seq (.reg [⟨some 6, .move (.tmp 0), none, []⟩,
  ⟨some 7, .call { callee := .builtin .len, args := #[.tmp 6], argTypes := #[25] }, none, []⟩,
  ⟨some 8, .move (.const (.int .i64 0)), none, []⟩] [0, 1, 5, 7, 8, 10, 17, 18]) (.seq (.block 0 (.seq (.loop (.seq (.reg [⟨some 9, .binOp .lss 3 (.tmp 8) (.tmp 7) 3, none, []⟩] [0, 1, 5, 7, 8, 9, 10, 17, 18]) (.seq (.cond (.tmp 9) .skip (.exit 0)) (.seq (.block 1 (.seq (.reg [⟨some 10, .move (.tmp 8), none, []⟩,
  ⟨some 5, .assign (.tmp 10), none, []⟩] [0, 1, 5, 7, 8, 10, 17, 18]) (.seq (.reg [⟨some 11, .move (.tmp 1), none, []⟩,
  ⟨some 12, .move (.tmp 0), none, []⟩,
  ⟨some 13, .move (.tmp 5), none, []⟩,
  ⟨some 14, .indexAddr 25 (.tmp 12) (.tmp 13), none, []⟩,
  ⟨some 15, .load 34 (.tmp 14), none, []⟩,
  ⟨some 16, .call { callee := .value (.tmp 11), args := #[.tmp 15], argTypes := #[34] }, none, []⟩] [0, 1, 5, 7, 8, 10, 16, 17, 18]) (.seq (.cond (.tmp 16) (.seq (.reg [⟨some 17, .move (.tmp 5), none, []⟩,
  ⟨some 4, .assign (.tmp 17), none, []⟩] [4, 5, 8, 10, 17, 18]) .ret) .skip) .skip)))) (.seq (.reg [⟨some 18, .binOp .add 3 (.tmp 8) (.const (.int .i64 1)) 3, none, []⟩,
  ⟨some 8, .move (.tmp 18), none, []⟩] [0, 1, 5, 7, 8, 10, 17, 18]) .skip))))) .skip)) (.seq (.reg [⟨some 4, .assign (.const (.int .i64 (-1))), none, []⟩] [4, 5, 8, 10, 17, 18]) .ret))))
theorem s28 : TextK Proofs.Tryd.prog 0 28 19 [ResultVar.tmp 4] c28 := .mk' Proofs.Tryd.f28 _ (by kernel_rfl) rfl rfl rfl (by kernel_rfl) rfl (by kernel_rfl)
def c29 : SC := (.seq (.reg [⟨some 2, .box 34 (.tmp 0), none, []⟩,
  ⟨some 3, .assign (.const (.bool false)), none, []⟩] [1, 2]) (.seq (.reg [⟨some 4, .fieldAddr 34 (.tmp 2) 0, none, []⟩,
  ⟨some 5, .load 3 (.tmp 4), none, []⟩,
  ⟨some 6, .load 3 (.tmp 1), none, []⟩,
  ⟨some 7, .binOp .eql 3 (.tmp 5) (.tmp 6) 3, none, []⟩,
  ⟨some 3, .assign (.tmp 7), none, []⟩] [3, 7]) .ret))
theorem s29 : TextK Proofs.Tryd.prog 0 29 8 [ResultVar.tmp 3] c29 := .mk' Proofs.Tryd.f29 _ (by kernel_rfl) rfl rfl rfl (by kernel_rfl) rfl (by kernel_rfl)
def c27 : SC := (.seq (.reg [⟨some 2, .box 3 (.tmp 0), none, []⟩,
  ⟨some 3, .assign (.const (.string ⟨#[]⟩)), none, []⟩] [1, 2]) (.seq (.reg [⟨some 5, .fieldAddr 30 (.tmp 1) 0, none, []⟩,
  ⟨some 6, .load 25 (.tmp 5), none, []⟩,
  ⟨some 7, .makeFunc (Fn.func 29) #[] #[.tmp 2], none, []⟩,
  ⟨some 8, .call { callee := .value (.func 28), args := #[.tmp 6, .tmp 7], argTypes := #[25, 32] }, none, []⟩,
  ⟨some 4, .assign (.tmp 8), none, []⟩] [1, 4, 8]) (.seq (.reg [⟨some 9, .fieldAddr 30 (.tmp 1) 0, none, []⟩,
  ⟨some 10, .load 25 (.tmp 9), none, []⟩,
  ⟨some 11, .move (.tmp 4), none, []⟩,
  ⟨some 12, .indexAddr 25 (.tmp 10) (.tmp 11), none, []⟩,
  ⟨some 13, .fieldAddr 34 (.tmp 12) 2, none, []⟩,
  ⟨some 14, .load 9 (.tmp 13), none, []⟩,
  ⟨some 3, .assign (.tmp 14), none, []⟩] [1, 3, 4, 8, 9, 10, 11, 12, 13, 14]) .ret)))
theorem s27 : TextK Proofs.Tryd.prog 0 27 15 [ResultVar.tmp 3] c27 := .mk' Proofs.Tryd.f27 _ (by kernel_rfl) rfl rfl rfl (by kernel_rfl) rfl (by kernel_rfl)
def idxF {α : Type} (p : α → Bool) : List α → Nat → Int
  | [], _ => -1
  | x :: l, i => if p x then (i : Int) else idxF p l (i + 1)
theorem idxF_some {α : Type} (p : α → Bool) : ∀ (l : List α) (i : Nat) (x : α), l.find? p = some x → ∃ j, idxF p l i = ((i + j : Nat) : Int) ∧ l[j]? = some x := by
  intro l
  induction l with
  | nil => intro i x h; simp at h
  | cons y l ih =>
    intro i x h
    rw [List.find?_cons] at h
    cases hp : p y with
    | true => rw [hp] at h; cases h; exact ⟨0, by simp [idxF, hp], rfl⟩
    | false =>
      rw [hp] at h
      obtain ⟨j, h1, h2⟩ := ih (i + 1) x h
      exact ⟨j + 1, by simp only [idxF, hp]; rw [if_neg (by simp), h1]; congr 1; omega, by simpa using h2⟩
theorem indexFuncB_ok (l : List Broker) (f : FuncId) (caps : List V) (hp : pureL caps = true) (p : Broker → Bool) (hc : ∀ x ∈ l, ACall pg f ([encB x] ++ caps) (B (p x))) (hl : l.length ≤ 1000000) :
    ACall pg 28 [.sl (l.map encB), .clo f caps] (I (idxF p l 0)) := by
  refine s28.call mo (by simp) fun hxs => ?_
  clear hxs
  unfold c28
  have hv := pvL_pure caps hp
  repeat' first
      | (with_reducible first | refine thN ?_ | refine thR ?_ | refine thE ?_ | refine inN ?_ | refine inR ?_ | refine inH ?_ | refine fF ?_ | refine fS ?_ | refine fR ?_ | refine fQ ?_ | refine fC ?_ | refine fB ?_ | refine fL ?_ | refine fE ?_ | refine fT ?_ | refine awBlock ?_ | refine awExit ?_ | refine awRet ?_ | refine awSkip ?_ | refine inM (by decide) ?_)
      | ((with_reducible refine awReg fun K hok hK => ?_); clear hok; (try simp (maxSteps := 10000000) (disch := first | omega | simp) [hp, hv]); (repeat' first
          | (with_reducible refine hK _ (by simp) ?_)
          | ((with_reducible refine gdT (fun h => ?_) (fun h => ?_)) <;> (simp (maxSteps := 10000000) (disch := first | omega | simp) [h, hp, hv]; (try simp at h); (try (exfalso; omega))))
          | ((with_reducible refine gdF (fun h => ?_) (fun h => ?_)) <;> (simp (maxSteps := 10000000) (disch := first | omega | simp) [h, hp, hv]; (try simp at h); (try (exfalso; omega))))
          | ((with_reducible refine gdU ?_); (try simp (maxSteps := 10000000) (disch := first | omega | simp) [hp, hv]))) <;> clear hK K)
      | ((with_reducible refine awCond fun A B hA hB => ?_); simp (maxSteps := 10000000) (disch := first | omega | simp) [hp, hv]; (first | refine ⟨fun h => hA ?_, fun h => hB ?_⟩ | refine hA ?_ | refine hB ?_) <;> (clear hA hB A B; (try (exfalso; omega))))
  refine awFor l.length (fun i (_ : Unit) => idxF p (l.drop i) i = idxF p l 0) (fun i _ => [(8, .p (I i)), (7, .p (I l.length)), (1, .p (.clo f caps)), (0, .p (.sl (l.map encB)))]) () (Wk.ofA (by simp)) rfl fun i _ hi hs => ?_
  by_cases hlt : i < l.length
  · rw [drop_cons hlt] at hs
    simp only [idxF] at hs
    have hcx := hc _ (List.getElem_mem hlt)
    cases hpx : p l[i] with
    | true =>
      rw [hpx] at hs hcx
      rw [if_pos rfl] at hs
      repeat' first
          | (with_reducible first | refine thN ?_ | refine thR ?_ | refine thE ?_ | refine inN ?_ | refine inR ?_ | refine inH ?_ | refine fF ?_ | refine fS ?_ | refine fR ?_ | refine fQ ?_ | refine fC ?_ | refine fB ?_ | refine fL ?_ | refine fE ?_ | refine fT ?_ | refine awBlock ?_ | refine awExit ?_ | refine awRet ?_ | refine awSkip ?_ | refine inM (by decide) ?_)
          | ((with_reducible refine awReg fun K hok hK => ?_); clear hok; (try simp (maxSteps := 10000000) (disch := first | omega | simp) [hp, hv]); (repeat' first
              | (with_reducible refine hK _ (by simp) ?_)
              | ((with_reducible refine gdT (fun h => ?_) (fun h => ?_)) <;> (simp (maxSteps := 10000000) (disch := first | omega | simp) [h, hp, hv]; (try simp at h); (try (exfalso; omega))))
              | ((with_reducible refine gdF (fun h => ?_) (fun h => ?_)) <;> (simp (maxSteps := 10000000) (disch := first | omega | simp) [h, hp, hv]; (try simp at h); (try (exfalso; omega))))
              | ((with_reducible refine callS' fun K2 hK2 => ?_); (try simp (maxSteps := 10000000) (disch := first | omega | simp) [hp, hv]); (first | (refine hK2 _ _ (hcx) rfl fun hk9 => ?_; clear hk9)); clear hK2 K2; (try simp (maxSteps := 10000000) (disch := first | omega | simp) [hp, hv]))
              | ((with_reducible refine callF' fun K2 hK2 => ?_); (try simp (maxSteps := 10000000) (disch := first | omega | simp) [hp, hv]); (first | refine hK2 _ _ _ (hcx) fun _ => ?_); clear hK2 K2; (try simp (maxSteps := 10000000) (disch := first | omega | simp) [hp, hv]))
              | ((with_reducible refine callCS' fun K2 hK2 => ?_); (try simp (maxSteps := 10000000) (disch := first | omega | simp) [hp, hv]); (first | (refine hK2 _ _ _ _ (hcx) rfl fun hk9 => ?_; clear hk9)); clear hK2 K2; (try simp (maxSteps := 10000000) (disch := first | omega | simp) [hp, hv]))
              | ((with_reducible refine callC' fun K2 hK2 => ?_); (try simp (maxSteps := 10000000) (disch := first | omega | simp) [hp, hv]); (first | refine hK2 _ _ _ _ _ (hcx) fun _ => ?_); clear hK2 K2; (try simp (maxSteps := 10000000) (disch := first | omega | simp) [hp, hv]))
              | ((with_reducible refine callM' rfl fun K2 hK2 => ?_); (try simp (maxSteps := 10000000) (disch := first | omega | simp) [hp, hv]); (first | refine hK2 _ _ _ _ _ _ _ (hcx) rfl fun _ _ => ?_); clear hK2 K2; (try simp (maxSteps := 10000000) (disch := first | omega | simp) [hp, hv]))
              | ((with_reducible refine callT' rfl fun K2 hK2 => ?_); (try simp (maxSteps := 10000000) (disch := first | omega | simp) [hp, hv]); (first | refine hK2 _ _ _ _ _ (hcx) fun _ => ?_); clear hK2 K2; (try simp (maxSteps := 10000000) (disch := first | omega | simp) [hp, hv]))
              | ((with_reducible refine gdU ?_); (try simp (maxSteps := 10000000) (disch := first | omega | simp) [hp, hv]))) <;> clear hK K)
          | ((with_reducible refine awCond fun A B hA hB => ?_); simp (maxSteps := 10000000) (disch := first | omega | simp) [hp, hv]; (first | refine ⟨fun h => hA ?_, fun h => hB ?_⟩ | refine hA ?_ | refine hB ?_) <;> (clear hA hB A B; (try (exfalso; omega))))
      (refine aEnR (aRes [] fun K hK => ?_); simp (maxSteps := 10000000) (disch := first | omega | simp) [hs]; refine hK _ ?_ (by simp); clear hK; first | done | (simp (maxSteps := 10000000) (disch := first | omega | simp) [hs, *]; done) | (simp (maxSteps := 10000000) (disch := first | omega | simp) [hs, *]; omega) | (simp_all [hs]; done) | (simp_all [hs]; omega))
    | false =>
      rw [hpx] at hs hcx
      rw [if_neg (by simp)] at hs
      repeat' first
          | (with_reducible first | refine thN ?_ | refine thR ?_ | refine thE ?_ | refine inN ?_ | refine inR ?_ | refine inH ?_ | refine fF ?_ | refine fS ?_ | refine fR ?_ | refine fQ ?_ | refine fC ?_ | refine fB ?_ | refine fL ?_ | refine fE ?_ | refine fT ?_ | refine awBlock ?_ | refine awExit ?_ | refine awRet ?_ | refine awSkip ?_ | refine inM (by decide) ?_)
          | ((with_reducible refine awReg fun K hok hK => ?_); clear hok; (try simp (maxSteps := 10000000) (disch := first | omega | simp) [hp, hv]); (repeat' first
              | (with_reducible refine hK _ (by simp) ?_)
              | ((with_reducible refine gdT (fun h => ?_) (fun h => ?_)) <;> (simp (maxSteps := 10000000) (disch := first | omega | simp) [h, hp, hv]; (try simp at h); (try (exfalso; omega))))
              | ((with_reducible refine gdF (fun h => ?_) (fun h => ?_)) <;> (simp (maxSteps := 10000000) (disch := first | omega | simp) [h, hp, hv]; (try simp at h); (try (exfalso; omega))))
              | ((with_reducible refine callS' fun K2 hK2 => ?_); (try simp (maxSteps := 10000000) (disch := first | omega | simp) [hp, hv]); (first | (refine hK2 _ _ (hcx) rfl fun hk9 => ?_; clear hk9)); clear hK2 K2; (try simp (maxSteps := 10000000) (disch := first | omega | simp) [hp, hv]))
              | ((with_reducible refine callF' fun K2 hK2 => ?_); (try simp (maxSteps := 10000000) (disch := first | omega | simp) [hp, hv]); (first | refine hK2 _ _ _ (hcx) fun _ => ?_); clear hK2 K2; (try simp (maxSteps := 10000000) (disch := first | omega | simp) [hp, hv]))
              | ((with_reducible refine callCS' fun K2 hK2 => ?_); (try simp (maxSteps := 10000000) (disch := first | omega | simp) [hp, hv]); (first | (refine hK2 _ _ _ _ (hcx) rfl fun hk9 => ?_; clear hk9)); clear hK2 K2; (try simp (maxSteps := 10000000) (disch := first | omega | simp) [hp, hv]))
              | ((with_reducible refine callC' fun K2 hK2 => ?_); (try simp (maxSteps := 10000000) (disch := first | omega | simp) [hp, hv]); (first | refine hK2 _ _ _ _ _ (hcx) fun _ => ?_); clear hK2 K2; (try simp (maxSteps := 10000000) (disch := first | omega | simp) [hp, hv]))
              | ((with_reducible refine callM' rfl fun K2 hK2 => ?_); (try simp (maxSteps := 10000000) (disch := first | omega | simp) [hp, hv]); (first | refine hK2 _ _ _ _ _ _ _ (hcx) rfl fun _ _ => ?_); clear hK2 K2; (try simp (maxSteps := 10000000) (disch := first | omega | simp) [hp, hv]))
              | ((with_reducible refine callT' rfl fun K2 hK2 => ?_); (try simp (maxSteps := 10000000) (disch := first | omega | simp) [hp, hv]); (first | refine hK2 _ _ _ _ _ (hcx) fun _ => ?_); clear hK2 K2; (try simp (maxSteps := 10000000) (disch := first | omega | simp) [hp, hv]))
              | ((with_reducible refine gdU ?_); (try simp (maxSteps := 10000000) (disch := first | omega | simp) [hp, hv]))) <;> clear hK K)
          | ((with_reducible refine awCond fun A B hA hB => ?_); simp (maxSteps := 10000000) (disch := first | omega | simp) [hp, hv]; (first | refine ⟨fun h => hA ?_, fun h => hB ?_⟩ | refine hA ?_ | refine hB ?_) <;> (clear hA hB A B; (try (exfalso; omega))))
      (refine ⟨?_, (), ?_, Wk.ofA ?_⟩; assumption; rotate_left; focus (simp []; done))
      exact hs
  · rw [drop_nil (by omega)] at hs
    simp only [idxF] at hs
    repeat' first
        | (with_reducible first | refine thN ?_ | refine thR ?_ | refine thE ?_ | refine inN ?_ | refine inR ?_ | refine inH ?_ | refine fF ?_ | refine fS ?_ | refine fR ?_ | refine fQ ?_ | refine fC ?_ | refine fB ?_ | refine fL ?_ | refine fE ?_ | refine fT ?_ | refine awBlock ?_ | refine awExit ?_ | refine awRet ?_ | refine awSkip ?_ | refine inM (by decide) ?_)
        | ((with_reducible refine awReg fun K hok hK => ?_); clear hok; (try simp (maxSteps := 10000000) (disch := first | omega | simp) []); (repeat' first
            | (with_reducible refine hK _ (by simp) ?_)
            | ((with_reducible refine gdT (fun h => ?_) (fun h => ?_)) <;> (simp (maxSteps := 10000000) (disch := first | omega | simp) [h]; (try simp at h); (try (exfalso; omega))))
            | ((with_reducible refine gdF (fun h => ?_) (fun h => ?_)) <;> (simp (maxSteps := 10000000) (disch := first | omega | simp) [h]; (try simp at h); (try (exfalso; omega))))
            | ((with_reducible refine gdU ?_); (try simp (maxSteps := 10000000) (disch := first | omega | simp) []))) <;> clear hK K)
        | ((with_reducible refine awCond fun A B hA hB => ?_); simp (maxSteps := 10000000) (disch := first | omega | simp) []; (first | refine ⟨fun h => hA ?_, fun h => hB ?_⟩ | refine hA ?_ | refine hB ?_) <;> (clear hA hB A B; (try (exfalso; omega))))
    (refine aEnR (aRes [] fun K hK => ?_); simp (maxSteps := 10000000) (disch := first | omega | simp) [hs]; refine hK _ ?_ (by simp); clear hK; first | done | (simp (maxSteps := 10000000) (disch := first | omega | simp) [hs, *]; done) | (simp (maxSteps := 10000000) (disch := first | omega | simp) [hs, *]; omega) | (simp_all [hs]; done) | (simp_all [hs]; omega))
theorem assign11_ok (b : Broker) (id : Int) : ACall pg 29 ([encB b] ++ [.ip [I id] 0]) (B (b.id == id)) := by
  refine s29.call mo (by simp) fun hxs => ?_
  clear hxs
  unfold c29
  repeat' first
      | (with_reducible first | refine thN ?_ | refine thR ?_ | refine thE ?_ | refine inN ?_ | refine inR ?_ | refine inH ?_ | refine fF ?_ | refine fS ?_ | refine fR ?_ | refine fQ ?_ | refine fC ?_ | refine fB ?_ | refine fL ?_ | refine fE ?_ | refine fT ?_ | refine awBlock ?_ | refine awExit ?_ | refine awRet ?_ | refine awSkip ?_ | refine inM (by decide) ?_)
      | ((with_reducible refine awReg fun K hok hK => ?_); clear hok; (try simp (maxSteps := 10000000) (disch := first | omega | simp) []); (repeat' first
          | (with_reducible refine hK _ (by simp) ?_)
          | ((with_reducible refine gdT (fun h => ?_) (fun h => ?_)) <;> (simp (maxSteps := 10000000) (disch := first | omega | simp) [h]; (try simp at h); (try (exfalso; omega))))
          | ((with_reducible refine gdF (fun h => ?_) (fun h => ?_)) <;> (simp (maxSteps := 10000000) (disch := first | omega | simp) [h]; (try simp at h); (try (exfalso; omega))))
          | ((with_reducible refine gdU ?_); (try simp (maxSteps := 10000000) (disch := first | omega | simp) []))) <;> clear hK K)
      | ((with_reducible refine awCond fun A B hA hB => ?_); simp (maxSteps := 10000000) (disch := first | omega | simp) []; (first | refine ⟨fun h => hA ?_, fun h => hB ?_⟩ | refine hA ?_ | refine hB ?_) <;> (clear hA hB A B; (try (exfalso; omega))))
  (refine aEnR (aRes [] fun K hK => ?_); simp (maxSteps := 10000000) (disch := first | omega | simp) []; refine hK _ ?_ (by simp); clear hK; first | done | (simp (maxSteps := 10000000) (disch := first | omega | simp) [*]; done) | (simp (maxSteps := 10000000) (disch := first | omega | simp) [*]; omega) | (simp_all []; done) | (simp_all []; omega))
theorem assign1_ok (m : Image) (id : Int) (hb : m.brokers.length ≤ 100) (h : (m.broker id).isSome = true) : ACall pg 27 ([I id] ++ [.ip (encM m).cells 0]) (St (rackOf m id)) := by
  refine s27.call mo (by simp) fun hxs => ?_
  clear hxs
  unfold c27
  obtain ⟨b, hbr⟩ := Option.isSome_iff_exists.1 h
  obtain ⟨j, h1, h2⟩ := idxF_some (fun x : Broker => x.id == id) m.brokers 0 b hbr
  have hif := indexFuncB_ok m.brokers 29 [.ip [I id] 0] (by simp [pureL, pureB]) (fun x => x.id == id) (fun x _ => assign11_ok x id) (by omega)
  rw [h1] at hif
  simp only [Nat.zero_add] at hif
  have hj : j < m.brokers.length := by
    rcases Nat.lt_or_ge j m.brokers.length with h | h
    · exact h
    · rw [List.getElem?_eq_none h] at h2; cases h2
  have h3 : m.brokers[j] = b := by rw [List.getElem?_eq_getElem hj] at h2; simpa using h2
  have e : rackOf m id = b.rack := by simp [rackOf, hbr]
  rw [e]
  repeat' first
      | (with_reducible first | refine thN ?_ | refine thR ?_ | refine thE ?_ | refine inN ?_ | refine inR ?_ | refine inH ?_ | refine fF ?_ | refine fS ?_ | refine fR ?_ | refine fQ ?_ | refine fC ?_ | refine fB ?_ | refine fL ?_ | refine fE ?_ | refine fT ?_ | refine awBlock ?_ | refine awExit ?_ | refine awRet ?_ | refine awSkip ?_ | refine inM (by decide) ?_)
      | ((with_reducible refine awReg fun K hok hK => ?_); clear hok; (try simp (maxSteps := 10000000) (disch := first | omega | simp) [h3, hj]); (repeat' first
          | (with_reducible refine hK _ (by simp) ?_)
          | ((with_reducible refine gdT (fun h => ?_) (fun h => ?_)) <;> (simp (maxSteps := 10000000) (disch := first | omega | simp) [h, h3, hj]; (try simp at h); (try (exfalso; omega))))
          | ((with_reducible refine gdF (fun h => ?_) (fun h => ?_)) <;> (simp (maxSteps := 10000000) (disch := first | omega | simp) [h, h3, hj]; (try simp at h); (try (exfalso; omega))))
          | ((with_reducible refine callS' fun K2 hK2 => ?_); (try simp (maxSteps := 10000000) (disch := first | omega | simp) [h3, hj]); (first | (refine hK2 _ _ (hif) rfl fun hk9 => ?_; clear hk9)); clear hK2 K2; (try simp (maxSteps := 10000000) (disch := first | omega | simp) [h3, hj]))
          | ((with_reducible refine callF' fun K2 hK2 => ?_); (try simp (maxSteps := 10000000) (disch := first | omega | simp) [h3, hj]); (first | refine hK2 _ _ _ (hif) fun _ => ?_); clear hK2 K2; (try simp (maxSteps := 10000000) (disch := first | omega | simp) [h3, hj]))
          | ((with_reducible refine callCS' fun K2 hK2 => ?_); (try simp (maxSteps := 10000000) (disch := first | omega | simp) [h3, hj]); (first | (refine hK2 _ _ _ _ (hif) rfl fun hk9 => ?_; clear hk9)); clear hK2 K2; (try simp (maxSteps := 10000000) (disch := first | omega | simp) [h3, hj]))
          | ((with_reducible refine callC' fun K2 hK2 => ?_); (try simp (maxSteps := 10000000) (disch := first | omega | simp) [h3, hj]); (first | refine hK2 _ _ _ _ _ (hif) fun _ => ?_); clear hK2 K2; (try simp (maxSteps := 10000000) (disch := first | omega | simp) [h3, hj]))
          | ((with_reducible refine callM' rfl fun K2 hK2 => ?_); (try simp (maxSteps := 10000000) (disch := first | omega | simp) [h3, hj]); (first | refine hK2 _ _ _ _ _ _ _ (hif) rfl fun _ _ => ?_); clear hK2 K2; (try simp (maxSteps := 10000000) (disch := first | omega | simp) [h3, hj]))
          | ((with_reducible refine callT' rfl fun K2 hK2 => ?_); (try simp (maxSteps := 10000000) (disch := first | omega | simp) [h3, hj]); (first | refine hK2 _ _ _ _ _ (hif) fun _ => ?_); clear hK2 K2; (try simp (maxSteps := 10000000) (disch := first | omega | simp) [h3, hj]))
          | ((with_reducible refine gdU ?_); (try simp (maxSteps := 10000000) (disch := first | omega | simp) [h3, hj]))) <;> clear hK K)
      | ((with_reducible refine awCond fun A B hA hB => ?_); simp (maxSteps := 10000000) (disch := first | omega | simp) [h3, hj]; (first | refine ⟨fun h => hA ?_, fun h => hB ?_⟩ | refine hA ?_ | refine hB ?_) <;> (clear hA hB A B; (try (exfalso; omega))))
  (refine aEnR (aRes [] fun K hK => ?_); simp (maxSteps := 10000000) (disch := first | omega | simp) []; refine hK _ ?_ (by simp); clear hK; first | done | (simp (maxSteps := 10000000) (disch := first | omega | simp) [*]; done) | (simp (maxSteps := 10000000) (disch := first | omega | simp) [*]; omega) | (simp_all []; done) | (simp_all []; omega))
end
end Go.Am
