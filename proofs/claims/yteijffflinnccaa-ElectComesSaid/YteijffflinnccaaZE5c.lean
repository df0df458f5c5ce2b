/- Part of the proof of ElectLeaves. -/
import Derived.Test.YteijffflinnccaaZE4g
import Derived.Test.YteijffflinnccaaZE5a
import Derived.Test.YteijffflinnccaaZE6c
set_option linter.all false
set_option maxRecDepth 100000
set_option maxHeartbeats 0
namespace Go.Am
open Go
noncomputable section
def c68 : SC := (.seq (.reg [⟨some 2, .box 48 (.tmp 0), none, []⟩,
  ⟨some 3, .alloc 48, none, []⟩] [1, 2, 3]) (.seq (.reg [⟨some 4, .load 30 (.tmp 1), none, []⟩,
  ⟨some 5, .load 48 (.tmp 2), none, []⟩,
  ⟨some 6, .call { callee := .value (.func 55), args := #[.tmp 4, .tmp 5], argTypes := #[30, 48] }, none, []⟩,
  ⟨none, .store 48 (.tmp 3) (.tmp 6), none, []⟩] [3]) .ret))
theorem s68 : TextK Proofs.Try.prog 0 68 7 [ResultVar.cell 3 48] c68 := .mk' Proofs.Try.f68 _ (by kernel_rfl) rfl rfl rfl (by kernel_rfl) rfl (by kernel_rfl)
def c22 : SC := (.seq (.reg [⟨some 2, .box 30 (.tmp 0), none, []⟩,
  ⟨some 4, .assign (.const (.slice none 0 0)), none, []⟩] [1, 2]) (.seq (.reg [⟨some 8, .load 30 (.tmp 2), none, []⟩,
  ⟨some 9, .call { callee := .value (.func 67), args := #[.tmp 8], argTypes := #[30] }, none, []⟩,
  ⟨some 5, .alloc 30, none, []⟩,
  ⟨none, .store 30 (.tmp 5) (.tmp 9), none, []⟩] [1, 2, 5]) (.seq (.reg [⟨some 10, .fieldAddr 30 (.tmp 5) 0, none, []⟩,
  ⟨some 11, .load 25 (.tmp 10), none, []⟩,
  ⟨some 12, .call { callee := .builtin .len, args := #[.tmp 11], argTypes := #[25] }, none, []⟩,
  ⟨some 13, .move (.const (.int .i64 0)), none, []⟩] [1, 2, 5, 12, 13, 32]) (.seq (.block 0 (.seq (.loop (.seq (.reg [⟨some 14, .binOp .lss 3 (.tmp 13) (.tmp 12) 3, none, []⟩] [1, 2, 5, 12, 13, 14, 32]) (.seq (.cond (.tmp 14) .skip (.exit 0)) (.seq (.block 1 (.seq (.reg [⟨some 15, .move (.tmp 13), none, []⟩,
  ⟨some 6, .assign (.tmp 15), none, []⟩] [1, 2, 5, 6, 12, 13, 15, 32]) (.seq (.reg [⟨some 16, .fieldAddr 30 (.tmp 5) 0, none, []⟩,
  ⟨some 17, .load 25 (.tmp 16), none, []⟩,
  ⟨some 18, .move (.tmp 6), none, []⟩,
  ⟨some 19, .indexAddr 25 (.tmp 17) (.tmp 18), none, []⟩,
  ⟨some 7, .assign (.tmp 19), none, []⟩] [1, 2, 5, 6, 7, 12, 13, 15, 16, 17, 18, 19, 32]) (.seq (.reg [⟨some 20, .move (.tmp 7), none, []⟩,
  ⟨some 21, .nilCheck (.tmp 20), none, []⟩,
  ⟨some 22, .fieldAddr 33 (.tmp 21) 0, none, []⟩,
  ⟨some 23, .load 3 (.tmp 22), none, []⟩,
  ⟨some 24, .move (.tmp 1), none, []⟩,
  ⟨some 25, .binOp .eql 3 (.tmp 23) (.tmp 24) 3, none, []⟩] [1, 2, 5, 6, 7, 12, 13, 15, 16, 17, 18, 19, 25, 32]) (.seq (.cond (.tmp 25) (.seq (.reg [⟨some 26, .move (.tmp 7), none, []⟩,
  ⟨some 27, .move (.tmp 7), none, []⟩,
  ⟨some 28, .nilCheck (.tmp 26), none, []⟩,
  ⟨some 29, .fieldAddr 33 (.tmp 28) 3, none, []⟩,
  ⟨none, .store 4 (.tmp 29) (.const (.bool false)), none, []⟩,
  ⟨some 30, .nilCheck (.tmp 27), none, []⟩,
  ⟨some 31, .fieldAddr 33 (.tmp 30) 4, none, []⟩,
  ⟨none, .store 4 (.tmp 31) (.const (.bool false)), none, []⟩] [1, 2, 5, 12, 13, 32]) .skip) .skip) .skip))))) (.seq (.reg [⟨some 32, .binOp .add 3 (.tmp 13) (.const (.int .i64 1)) 3, none, []⟩,
  ⟨some 13, .move (.tmp 32), none, []⟩] [1, 2, 5, 12, 13, 32]) .skip))))) .skip)) (.seq (.reg [⟨some 33, .load 30 (.tmp 2), none, []⟩,
  ⟨some 34, .makeFunc (Fn.func 68) #[] #[.tmp 5], none, []⟩,
  ⟨some 35, .call { callee := .value (.func 56), args := #[.tmp 33, .tmp 34], argTypes := #[30, 97] }, none, []⟩,
  ⟨some 4, .assign (.tmp 35), none, []⟩] [4, 35]) .ret)))))
theorem s22 : TextK Proofs.Try.prog 0 22 36 [ResultVar.tmp 4] c22 := .mk' Proofs.Try.f22 _ (by kernel_rfl) rfl rfl rfl (by kernel_rfl) rfl (by kernel_rfl)
def encBO (id : Int) (b : Broker) : V := encB (openB id b)
@[simp] theorem encBO_len (id : Int) (b : Broker) : (encBO id b).cells.length = 5 := rfl
@[simp] theorem pvL_BO (id : Int) (l : List Broker) : pvL (l.map (encBO id)) = l.map (encBO id) := by
  rw [pvL_eq, List.map_map]; apply List.map_congr_left; intro b _; simp [encBO]
@[simp] theorem pvL_PO (l : List Part) : pvL (l.map encPO) = l.map encP := by
  rw [pvL_eq, List.map_map]; apply List.map_congr_left; intro b _; simp
@[simp] theorem pvL_TO (l : List Topic) : pvL (l.map encTO) = l.map encT := by
  rw [pvL_eq, List.map_map]; apply List.map_congr_left; intro b _; simp
theorem mixL_same {α : Type} {f g : α → V} {l : List α} {i : Nat} (h : i < l.length) (e : f l[i] = g l[i]) : mixL f g l i = mixL f g l (i + 1) := by
  rw [← mixM_next h, e]; simp only [mixL, mixM]; rw [List.drop_eq_getElem_cons h]; rfl
theorem come1_ok (m : Image) (p : Part) (hbk : m.Brk) (hp : p.Small) (hb : ∀ n ∈ p.ids, big62 n) (he : 0 ≤ p.epoch ∧ p.epoch ≤ 1000000) : ACall pg 68 [encP p, .ip (encM m).cells 0] (encP (m.gain p)) := by
  refine s68.call mo (by simp) fun hxs => ?_
  clear hxs
  unfold c68
  repeat' first
      | (with_reducible first | refine thN ?_ | refine thR ?_ | refine thE ?_ | refine inN ?_ | refine inR ?_ | refine inH ?_ | refine fF ?_ | refine fS ?_ | refine fR ?_ | refine fQ ?_ | refine fC ?_ | refine fB ?_ | refine fL ?_ | refine fE ?_ | refine fT ?_ | refine awBlock ?_ | refine awExit ?_ | refine awRet ?_ | refine awSkip ?_ | refine inM (by decide) ?_)
      | ((with_reducible refine awReg fun K hok hK => ?_); clear hok; (try simp (maxSteps := 10000000) (disch := first | omega | simp) []); (repeat' first
          | (with_reducible refine hK _ (by simp) ?_)
          | ((with_reducible refine gdT (fun h => ?_) (fun h => ?_)) <;> (simp (maxSteps := 10000000) (disch := first | omega | simp) [h]; (try simp at h); (try (exfalso; omega))))
          | ((with_reducible refine gdF (fun h => ?_) (fun h => ?_)) <;> (simp (maxSteps := 10000000) (disch := first | omega | simp) [h]; (try simp at h); (try (exfalso; omega))))
          | ((with_reducible refine callS' fun K2 hK2 => ?_); (try simp (maxSteps := 10000000) (disch := first | omega | simp) []); (first | (refine hK2 _ _ (gain_ok m p hbk hp hb he) rfl fun hk9 => ?_; clear hk9)); clear hK2 K2; (try simp (maxSteps := 10000000) (disch := first | omega | simp) []))
          | ((with_reducible refine callF' fun K2 hK2 => ?_); (try simp (maxSteps := 10000000) (disch := first | omega | simp) []); (first | refine hK2 _ _ _ (gain_ok m p hbk hp hb he) fun _ => ?_); clear hK2 K2; (try simp (maxSteps := 10000000) (disch := first | omega | simp) []))
          | ((with_reducible refine gdU ?_); (try simp (maxSteps := 10000000) (disch := first | omega | simp) []))) <;> clear hK K)
      | ((with_reducible refine awCond fun A B hA hB => ?_); simp (maxSteps := 10000000) (disch := first | omega | simp) []; (first | refine ⟨fun h => hA ?_, fun h => hB ?_⟩ | refine hA ?_ | refine hB ?_) <;> (clear hA hB A B; (try (exfalso; omega))))
  (refine aEnR (aRes [true] fun K hK => ?_); simp (maxSteps := 10000000) (disch := first | omega | simp) []; refine hK _ ?_ (by simp); clear hK; first | done | (simp (maxSteps := 10000000) (disch := first | omega | simp) [*]; done) | (simp (maxSteps := 10000000) (disch := first | omega | simp) [*]; omega) | (simp_all []; done) | (simp_all []; omega))
theorem come_ok (m : Image) (id : Int) (hm : m.Pre) (hs : m.Sml) (hbk : (m.opened id).Brk) (hb : ∀ t ∈ m.topics, ∀ p ∈ t.parts, ∀ n ∈ p.ids, big62 n) (he : ∀ t ∈ m.topics, ∀ p ∈ t.parts, 0 ≤ p.epoch ∧ p.epoch ≤ 1000000) (hS : ∀ t ∈ m.topics, ∀ p ∈ t.parts, ((m.opened id).gain p).Small) : ACall pg 22 [encM m, I id] (.sl ((m.come id).map encR)) := by
  refine s22.call mo (by simp) fun hxs => ?_
  clear hxs
  unfold c22
  have hbl := hm.bl
  have hall := eall_ok m 68 [.ip (encM (m.opened id)).cells 0] (by simp [pureL, pureB]) (fun p => (m.opened id).gain p) (fun t ht p hp => come1_ok (m.opened id) p hbk (hs.ps t ht p hp) (hb t ht p hp) (he t ht p hp)) hs hS
  have hB : (encM (m.opened id)).cells = [.sl (m.brokers.map (encBO id)), .sl (m.topics.map encT), .sl (m.configs.map encC), .sl (m.done.map encD), I m.last] := by
    simp only [encM_eq, cells_agg, Image.opened, List.map_map]
    rfl
  rw [hB] at hall
  repeat' first
      | (with_reducible first | refine thN ?_ | refine thR ?_ | refine thE ?_ | refine inN ?_ | refine inR ?_ | refine inH ?_ | refine fF ?_ | refine fS ?_ | refine fR ?_ | refine fQ ?_ | refine fC ?_ | refine fB ?_ | refine fL ?_ | refine fE ?_ | refine fT ?_ | refine awBlock ?_ | refine awExit ?_ | refine awRet ?_ | refine awSkip ?_ | refine inM (by decide) ?_)
      | ((with_reducible refine awReg fun K hok hK => ?_); clear hok; (try simp (maxSteps := 10000000) (disch := first | omega | simp) []); (repeat' first
          | (with_reducible refine hK _ (by simp) ?_)
          | ((with_reducible refine gdT (fun h => ?_) (fun h => ?_)) <;> (simp (maxSteps := 10000000) (disch := first | omega | simp) [h]; (try simp at h); (try (exfalso; omega))))
          | ((with_reducible refine gdF (fun h => ?_) (fun h => ?_)) <;> (simp (maxSteps := 10000000) (disch := first | omega | simp) [h]; (try simp at h); (try (exfalso; omega))))
          | ((with_reducible refine callS' fun K2 hK2 => ?_); (try simp (maxSteps := 10000000) (disch := first | omega | simp) []); (first | (refine hK2 _ _ (copy_ok m hm hs.ps) rfl fun hk9 => ?_; clear hk9)); clear hK2 K2; (try simp (maxSteps := 10000000) (disch := first | omega | simp) []))
          | ((with_reducible refine callF' fun K2 hK2 => ?_); (try simp (maxSteps := 10000000) (disch := first | omega | simp) []); (first | refine hK2 _ _ _ (copy_ok m hm hs.ps) fun _ => ?_); clear hK2 K2; (try simp (maxSteps := 10000000) (disch := first | omega | simp) []))
          | ((with_reducible refine gdU ?_); (try simp (maxSteps := 10000000) (disch := first | omega | simp) []))) <;> clear hK K)
      | ((with_reducible refine awCond fun A B hA hB => ?_); simp (maxSteps := 10000000) (disch := first | omega | simp) []; (first | refine ⟨fun h => hA ?_, fun h => hB ?_⟩ | refine hA ?_ | refine hB ?_) <;> (clear hA hB A B; (try (exfalso; omega))))
  refine awFor m.brokers.length (fun i (_ : Unit) => True) (fun i _ => [(13, .p (I i)), (12, .p (I m.brokers.length)), (5, .p (.own [.uq (mixL (encBO id) encB m.brokers i), .uq (m.topics.map encTO), .uq (m.configs.map encC), .uq (m.done.map encD), I m.last])), (2, .p (.own (encM m).cells)), (1, .p (I id))]) () (Wk.ofA (by simp)) trivial fun i _ hi _ => ?_
  by_cases hlt : i < m.brokers.length
  · have e := mixM_next (f := encBO id) (g := encB) hlt
    repeat' first
        | (with_reducible first | refine thN ?_ | refine thR ?_ | refine thE ?_ | refine inN ?_ | refine inR ?_ | refine inH ?_ | refine fF ?_ | refine fS ?_ | refine fR ?_ | refine fQ ?_ | refine fC ?_ | refine fB ?_ | refine fL ?_ | refine fE ?_ | refine fT ?_ | refine awBlock ?_ | refine awExit ?_ | refine awRet ?_ | refine awSkip ?_ | refine inM (by decide) ?_)
        | ((with_reducible refine awReg fun K hok hK => ?_); clear hok; (try simp (maxSteps := 10000000) (disch := first | omega | simp) []); (repeat' first
            | (with_reducible refine hK _ (by simp) ?_)
            | ((with_reducible refine gdT (fun h => ?_) (fun h => ?_)) <;> (simp (maxSteps := 10000000) (disch := first | omega | simp) [h]; (try simp at h); (try (exfalso; omega))))
            | ((with_reducible refine gdF (fun h => ?_) (fun h => ?_)) <;> (simp (maxSteps := 10000000) (disch := first | omega | simp) [h]; (try simp at h); (try (exfalso; omega))))
            | ((with_reducible refine gdU ?_); (try simp (maxSteps := 10000000) (disch := first | omega | simp) []))) <;> clear hK K)
        | ((with_reducible refine awCond fun A B hA hB => ?_); simp (maxSteps := 10000000) (disch := first | omega | simp) []; (first | refine ⟨fun h => hA ?_, fun h => hB ?_⟩ | refine hA ?_ | refine hB ?_) <;> (clear hA hB A B; (try (exfalso; omega))))
    · have e2 : encBO id m.brokers[i] = .agg [I m.brokers[i].id, I m.brokers[i].epoch, St m.brokers[i].rack, B false, B false] := by simp [encBO, openB, h]
      rw [e2] at e
      (refine ⟨?_, (), ?_, Wk.ofA ?_⟩; assumption; rotate_left; focus (simp [e]; done))
      trivial
    · have e2 : encBO id m.brokers[i] = encB m.brokers[i] := by simp [encBO, openB, h]
      have e3 := mixL_same hlt e2
      (refine ⟨?_, (), ?_, Wk.ofA ?_⟩; assumption; rotate_left; focus (simp [e3]; done))
      trivial
  · obtain rfl : i = m.brokers.length := by omega
    repeat' first
        | (with_reducible first | refine thN ?_ | refine thR ?_ | refine thE ?_ | refine inN ?_ | refine inR ?_ | refine inH ?_ | refine fF ?_ | refine fS ?_ | refine fR ?_ | refine fQ ?_ | refine fC ?_ | refine fB ?_ | refine fL ?_ | refine fE ?_ | refine fT ?_ | refine awBlock ?_ | refine awExit ?_ | refine awRet ?_ | refine awSkip ?_ | refine inM (by decide) ?_)
        | ((with_reducible refine awReg fun K hok hK => ?_); clear hok; (try simp (maxSteps := 10000000) (disch := first | omega | simp) []); (repeat' first
            | (with_reducible refine hK _ (by simp) ?_)
            | ((with_reducible refine gdT (fun h => ?_) (fun h => ?_)) <;> (simp (maxSteps := 10000000) (disch := first | omega | simp) [h]; (try simp at h); (try (exfalso; omega))))
            | ((with_reducible refine gdF (fun h => ?_) (fun h => ?_)) <;> (simp (maxSteps := 10000000) (disch := first | omega | simp) [h]; (try simp at h); (try (exfalso; omega))))
            | ((with_reducible refine callS' fun K2 hK2 => ?_); (try simp (maxSteps := 10000000) (disch := first | omega | simp) []); (first | (refine hK2 _ _ (hall) rfl fun hk9 => ?_; clear hk9)); clear hK2 K2; (try simp (maxSteps := 10000000) (disch := first | omega | simp) []))
            | ((with_reducible refine callF' fun K2 hK2 => ?_); (try simp (maxSteps := 10000000) (disch := first | omega | simp) []); (first | refine hK2 _ _ _ (hall) fun _ => ?_); clear hK2 K2; (try simp (maxSteps := 10000000) (disch := first | omega | simp) []))
            | ((with_reducible refine callT' rfl fun K2 hK2 => ?_); (try simp (maxSteps := 10000000) (disch := first | omega | simp) []); (first | refine hK2 _ _ _ _ _ (hall) fun _ => ?_); clear hK2 K2; (try simp (maxSteps := 10000000) (disch := first | omega | simp) []))
            | ((with_reducible refine callM' rfl fun K2 hK2 => ?_); (try simp (maxSteps := 10000000) (disch := first | omega | simp) []); (first | refine hK2 _ _ _ _ _ _ _ (hall) rfl fun _ _ => ?_); clear hK2 K2; (try simp (maxSteps := 10000000) (disch := first | omega | simp) []))
            | ((with_reducible refine gdU ?_); (try simp (maxSteps := 10000000) (disch := first | omega | simp) []))) <;> clear hK K)
        | ((with_reducible refine awCond fun A B hA hB => ?_); simp (maxSteps := 10000000) (disch := first | omega | simp) []; (first | refine ⟨fun h => hA ?_, fun h => hB ?_⟩ | refine hA ?_ | refine hB ?_) <;> (clear hA hB A B; (try (exfalso; omega))))
    (refine aEnR (aRes [true] fun K hK => ?_); simp (maxSteps := 10000000) (disch := first | omega | simp) [Image.come]; refine hK _ ?_ (by simp); clear hK; first | done | (simp (maxSteps := 10000000) (disch := first | omega | simp) [Image.come, *]; done) | (simp (maxSteps := 10000000) (disch := first | omega | simp) [Image.come, *]; omega) | (simp_all [Image.come]; done) | (simp_all [Image.come]; omega))
end
end Go.Am
