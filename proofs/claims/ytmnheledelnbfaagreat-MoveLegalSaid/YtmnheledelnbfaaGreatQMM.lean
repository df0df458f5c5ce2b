/- Part of the proof of a law of moving. -/
import Derived.Test.YtmnheledelnbfaaGreatQE3s
import Derived.Test.YtmnheledelnbfaaGreatQEB
import Derived.Test.YtmnheledelnbfaaGreatQED
import Derived.Test.YtmnheledelnbfaaGreatQIx
import Derived.Test.YtmnheledelnbfaaGreatQPU
set_option linter.all false
section
set_option maxRecDepth 100000
set_option maxHeartbeats 0
namespace Go.Am
open Go
noncomputable section
end
end Go.Am
end
section
set_option maxRecDepth 100000
set_option maxHeartbeats 0
namespace Go.Am
open Go
noncomputable section
def c80 : SC := (.seq (.reg [⟨some 4, .assign (.const (.int .i64 0)), none, []⟩] [0, 1, 5, 8, 10, 17, 18]) (.seq (.reg [⟨some 6, .move (.tmp 0), none, []⟩,
  ⟨some 7, .call { callee := .builtin .len, args := #[.tmp 6], argTypes := #[32] }, none, []⟩,
  ⟨some 8, .move (.const (.int .i64 0)), none, []⟩] [0, 1, 5, 7, 8, 10, 17, 18]) (.seq (.block 0 (.seq (.loop (.seq (.reg [⟨some 9, .binOp .lss 3 (.tmp 8) (.tmp 7) 3, none, []⟩] [0, 1, 5, 7, 8, 9, 10, 17, 18]) (.seq (.cond (.tmp 9) .skip (.exit 0)) (.seq (.block 1 (.seq (.reg [⟨some 10, .move (.tmp 8), none, []⟩,
  ⟨some 5, .assign (.tmp 10), none, []⟩] [0, 1, 5, 7, 8, 10, 17, 18]) (.seq (.reg [⟨some 11, .move (.tmp 1), none, []⟩,
  ⟨some 12, .move (.tmp 0), none, []⟩,
  ⟨some 13, .move (.tmp 5), none, []⟩,
  ⟨some 14, .indexAddr 32 (.tmp 12) (.tmp 13), none, []⟩,
  ⟨some 15, .load 50 (.tmp 14), none, []⟩,
  ⟨some 16, .call { callee := .value (.tmp 11), args := #[.tmp 15], argTypes := #[50] }, none, []⟩] [0, 1, 5, 7, 8, 10, 16, 17, 18]) (.seq (.cond (.tmp 16) (.seq (.reg [⟨some 17, .move (.tmp 5), none, []⟩,
  ⟨some 4, .assign (.tmp 17), none, []⟩] [4, 5, 8, 10, 17, 18]) .ret) .skip) .skip)))) (.seq (.reg [⟨some 18, .binOp .add 3 (.tmp 8) (.const (.int .i64 1)) 3, none, []⟩,
  ⟨some 8, .move (.tmp 18), none, []⟩] [0, 1, 5, 7, 8, 10, 17, 18]) .skip))))) .skip)) (.seq (.reg [⟨some 4, .assign (.const (.int .i64 (-1))), none, []⟩] [4, 5, 8, 10, 17, 18]) .ret))))
theorem s80 : TextK Proofs.Tryz.prog 0 80 19 [ResultVar.tmp 4] c80 := .mk' Proofs.Tryz.f80 _ (by kernel_rfl) rfl rfl rfl (by kernel_rfl) rfl (by kernel_rfl)
theorem indexFuncT_ok (l : List Topic) (f : FuncId) (caps : List V) (hp : pureL caps = true) (p : Topic → Bool) (hc : ∀ x ∈ l, ACall pg f ([encT x] ++ caps) (B (p x))) (hl : l.length ≤ 1000000) :
    ACall pg 80 [.sl (l.map encT), .clo f caps] (I (idxF p l 0)) := by
  refine s80.call mo (by simp) fun hxs => ?_
  clear hxs
  unfold c80
  have hv := pvL_pure caps hp
  repeat' first | (with_reducible first | refine thN ?_ | refine thR ?_ | refine thE ?_ | refine inN ?_ | refine inR ?_ | refine inH ?_ | refine fS ?_ | refine fR ?_ | refine fQ ?_ | refine fE ?_ | refine fT ?_ | refine awBlock ?_ | refine awExit ?_ | refine awRet ?_ | refine awSkip ?_) | ((with_reducible refine awReg fun K hok hK => ?_); clear hok; (try simp (maxSteps := 10000000) (disch := first | omega | simp) [hp, hv]); (repeat' first | (with_reducible refine hK _ (by simp) ?_)) <;> clear hK K) | ((with_reducible refine awCond fun A B hA hB => ?_); simp (maxSteps := 10000000) (disch := first | omega | simp) [hp, hv]; (first | refine ⟨fun h => hA ?_, fun h => hB ?_⟩ | refine hA ?_ | refine hB ?_) <;> (clear hA hB A B; (try (exfalso; omega))))
  refine awFor l.length (fun i (_ : Unit) => idxF p (l.drop i) i = idxF p l 0) (fun i _ => [(8, .p (I i)), (7, .p (I l.length)), (1, .p (.clo f caps)), (0, .p (.sl (l.map encT)))]) () (Wk.ofA (by simp)) rfl fun i _ hi hs => ?_
  by_cases hlt : i < l.length
  · rw [drop_cons hlt] at hs
    simp only [idxF] at hs
    have hcx := hc _ (List.getElem_mem hlt)
    cases hpx : p l[i] with
    | true =>
      rw [hpx] at hs hcx
      rw [if_pos rfl] at hs
      repeat' first | (with_reducible first | refine thN ?_ | refine thR ?_ | refine thE ?_ | refine inN ?_ | refine inR ?_ | refine inH ?_ | refine fS ?_ | refine fR ?_ | refine fQ ?_ | refine fE ?_ | refine fT ?_ | refine awBlock ?_ | refine awExit ?_ | refine awRet ?_ | refine awSkip ?_) | ((with_reducible refine awReg fun K hok hK => ?_); clear hok; (try simp (maxSteps := 10000000) (disch := first | omega | simp) [hp, hv]); (repeat' first | (with_reducible refine hK _ (by simp) ?_) | ((with_reducible refine callCS' fun K2 hK2 => ?_); (try simp (maxSteps := 10000000) (disch := first | omega | simp) [hp, hv]); (refine hK2 _ _ _ _ hcx rfl fun hk9 => ?_); clear hk9; clear hK2 K2; (try simp (maxSteps := 10000000) (disch := first | omega | simp) [hp, hv]))) <;> clear hK K) | ((with_reducible refine awCond fun A B hA hB => ?_); simp (maxSteps := 10000000) (disch := first | omega | simp) [hp, hv]; (first | refine ⟨fun h => hA ?_, fun h => hB ?_⟩ | refine hA ?_ | refine hB ?_) <;> (clear hA hB A B; (try (exfalso; omega))))
      (refine aEnR (aRes [] fun K hK => ?_); simp (maxSteps := 10000000) (disch := first | omega | simp) [hs]; refine hK _ ?_ (by simp); clear hK; first | done | (simp (maxSteps := 10000000) (disch := first | omega | simp) [hs, *]; done) | (simp (maxSteps := 10000000) (disch := first | omega | simp) [hs, *]; omega) | (simp_all [hs]; done) | (simp_all [hs]; omega))
    | false =>
      rw [hpx] at hs hcx
      rw [if_neg (by simp)] at hs
      repeat' first | (with_reducible first | refine thN ?_ | refine thR ?_ | refine thE ?_ | refine inN ?_ | refine inR ?_ | refine inH ?_ | refine fS ?_ | refine fR ?_ | refine fQ ?_ | refine fE ?_ | refine fT ?_ | refine awBlock ?_ | refine awExit ?_ | refine awRet ?_ | refine awSkip ?_) | ((with_reducible refine awReg fun K hok hK => ?_); clear hok; (try simp (maxSteps := 10000000) (disch := first | omega | simp) [hp, hv]); (repeat' first | (with_reducible refine hK _ (by simp) ?_) | ((with_reducible refine callCS' fun K2 hK2 => ?_); (try simp (maxSteps := 10000000) (disch := first | omega | simp) [hp, hv]); (refine hK2 _ _ _ _ hcx rfl fun hk9 => ?_); clear hk9; clear hK2 K2; (try simp (maxSteps := 10000000) (disch := first | omega | simp) [hp, hv]))) <;> clear hK K) | ((with_reducible refine awCond fun A B hA hB => ?_); simp (maxSteps := 10000000) (disch := first | omega | simp) [hp, hv]; (first | refine ⟨fun h => hA ?_, fun h => hB ?_⟩ | refine hA ?_ | refine hB ?_) <;> (clear hA hB A B; (try (exfalso; omega))))
      (refine ⟨?_, (), ?_, Wk.ofA ?_⟩; assumption; rotate_left; focus (simp []; done))
      exact hs
  · rw [drop_nil (by omega)] at hs
    simp only [idxF] at hs
    repeat' first | (with_reducible first | refine thN ?_ | refine thR ?_ | refine thE ?_ | refine inN ?_ | refine inR ?_ | refine inH ?_ | refine fS ?_ | refine fR ?_ | refine fQ ?_ | refine fE ?_ | refine fT ?_ | refine awBlock ?_ | refine awExit ?_ | refine awRet ?_ | refine awSkip ?_) | ((with_reducible refine awReg fun K hok hK => ?_); clear hok; (try simp (maxSteps := 10000000) (disch := first | omega | simp) []); (repeat' first | (with_reducible refine hK _ (by simp) ?_)) <;> clear hK K) | ((with_reducible refine awCond fun A B hA hB => ?_); simp (maxSteps := 10000000) (disch := first | omega | simp) []; (first | refine ⟨fun h => hA ?_, fun h => hB ?_⟩ | refine hA ?_ | refine hB ?_) <;> (clear hA hB A B; (try (exfalso; omega))))
    (refine aEnR (aRes [] fun K hK => ?_); simp (maxSteps := 10000000) (disch := first | omega | simp) [hs]; refine hK _ ?_ (by simp); clear hK; first | done | (simp (maxSteps := 10000000) (disch := first | omega | simp) [hs, *]; done) | (simp (maxSteps := 10000000) (disch := first | omega | simp) [hs, *]; omega) | (simp_all [hs]; done) | (simp_all [hs]; omega))
end
end Go.Am
end
section
set_option maxRecDepth 100000
set_option maxHeartbeats 0
namespace Go.Am
open Go
noncomputable section
def c81 : SC := (.seq (.reg [⟨some 2, .box 50 (.tmp 0), none, []⟩,
  ⟨some 3, .assign (.const (.bool false)), none, []⟩] [1, 2]) (.seq (.reg [⟨some 4, .fieldAddr 50 (.tmp 2) 1, none, []⟩,
  ⟨some 5, .load 9 (.tmp 4), none, []⟩,
  ⟨some 6, .load 9 (.tmp 1), none, []⟩,
  ⟨some 7, .binOp .eql 9 (.tmp 5) (.tmp 6) 9, none, []⟩,
  ⟨some 3, .assign (.tmp 7), none, []⟩] [3, 7]) .ret))
theorem s81 : TextK Proofs.Tryz.prog 0 81 8 [ResultVar.tmp 3] c81 := .mk' Proofs.Tryz.f81 _ (by kernel_rfl) rfl rfl rfl (by kernel_rfl) rfl (by kernel_rfl)
def c73 : SC := (.seq (.reg [⟨some 2, .box 36 (.tmp 0), none, []⟩,
  ⟨some 3, .box 9 (.tmp 1), none, []⟩,
  ⟨some 4, .alloc 50, none, []⟩,
  ⟨some 5, .assign (.const (.bool false)), none, []⟩] [2, 3, 4]) (.seq (.reg [⟨some 7, .fieldAddr 36 (.tmp 2) 1, none, []⟩,
  ⟨some 8, .load 32 (.tmp 7), none, []⟩,
  ⟨some 9, .makeFunc (Fn.func 81) #[] #[.tmp 3], none, []⟩,
  ⟨some 10, .call { callee := .value (.func 80), args := #[.tmp 8, .tmp 9], argTypes := #[32, 144] }, none, []⟩,
  ⟨some 6, .assign (.tmp 10), none, []⟩] [2, 4, 6, 10]) (.seq (.reg [⟨some 11, .move (.tmp 6), none, []⟩,
  ⟨some 12, .binOp .lss 3 (.tmp 11) (.const (.int .i64 0)) 3, none, []⟩] [2, 4, 6, 10, 12]) (.seq (.cond (.tmp 12) (.seq (.reg [⟨some 13, .build 50 #[], none, []⟩,
  ⟨none, .store 50 (.tmp 4) (.tmp 13), none, []⟩,
  ⟨some 5, .assign (.const (.bool false)), none, []⟩] [4, 5]) .ret) .skip) (.seq (.reg [⟨some 14, .fieldAddr 36 (.tmp 2) 1, none, []⟩,
  ⟨some 15, .load 32 (.tmp 14), none, []⟩,
  ⟨some 16, .move (.tmp 6), none, []⟩,
  ⟨some 17, .indexAddr 32 (.tmp 15) (.tmp 16), none, []⟩,
  ⟨some 18, .load 50 (.tmp 17), none, []⟩,
  ⟨none, .store 50 (.tmp 4) (.tmp 18), none, []⟩,
  ⟨some 5, .assign (.const (.bool true)), none, []⟩] [4, 5]) .ret)))))
theorem s73 : TextK Proofs.Tryz.prog 0 73 19 [ResultVar.cell 4 50, ResultVar.tmp 5] c73 := .mk' Proofs.Tryz.f73 _ (by kernel_rfl) rfl rfl rfl (by kernel_rfl) rfl (by kernel_rfl)
theorem named1_ok (t : Topic) (s : ByteArray) : ACall pg 81 ([encT t] ++ [.ip [St s] 0]) (B (t.name.toList == s.toList)) := by
  refine s81.call mo (by simp) fun hxs => ?_
  clear hxs
  unfold c81
  repeat' first | (with_reducible first | refine awRet ?_) | ((with_reducible refine awReg fun K hok hK => ?_); clear hok; (try simp (maxSteps := 10000000) (disch := first | omega | simp) []); (repeat' first | (with_reducible refine hK _ (by simp) ?_)) <;> clear hK K) | ((with_reducible refine awCond fun A B hA hB => ?_); simp (maxSteps := 10000000) (disch := first | omega | simp) []; (first | refine ⟨fun h => hA ?_, fun h => hB ?_⟩ | refine hA ?_ | refine hB ?_) <;> (clear hA hB A B; (try (exfalso; omega))))
  (refine aEnR (aRes [] fun K hK => ?_); simp (maxSteps := 10000000) (disch := first | omega | simp) []; refine hK _ ?_ (by simp); clear hK; first | done | (simp (maxSteps := 10000000) (disch := first | omega | simp) [*]; done) | (simp (maxSteps := 10000000) (disch := first | omega | simp) [*]; omega) | (simp_all []; done) | (simp_all []; omega))
theorem iNamed_ok (m : Image) (s : ByteArray) (hl : m.topics.length ≤ 1000000) : ACall pg 73 [encM m, St s] (.tup [encT ((m.named s).getD zT), B (m.named s).isSome]) := by
  refine s73.call mo (by simp) fun hxs => ?_
  clear hxs
  unfold c73
  have h := indexFuncT_ok m.topics 81 [.ip [St s] 0] (by simp [pureL, pureB]) (fun t => t.name.toList == s.toList) (fun x _ => named1_ok x s) hl
  cases hm : m.named s with
  | none =>
    have e : idxF (fun t : Topic => t.name.toList == s.toList) m.topics 0 < 0 := by
      have := idxF_any (fun t : Topic => t.name.toList == s.toList) m.topics 0
      unfold Image.named at hm
      rw [List.find?_eq_none] at hm
      have h2 : m.topics.any (fun t => t.name.toList == s.toList) = false := by rw [List.any_eq_false]; intro x hx; exact hm x hx
      rw [h2] at this
      simp at this; omega
    repeat' first | (with_reducible first | refine fS ?_ | refine fR ?_ | refine fQ ?_ | refine fT ?_ | refine awRet ?_) | ((with_reducible refine awReg fun K hok hK => ?_); clear hok; (try simp (maxSteps := 10000000) (disch := first | omega | simp) [e]); (repeat' first | (with_reducible refine hK _ (by simp) ?_) | ((with_reducible refine callS' fun K2 hK2 => ?_); (try simp (maxSteps := 10000000) (disch := first | omega | simp) [e]); (refine hK2 _ _ h rfl fun hk9 => ?_); clear hk9; clear hK2 K2; (try simp (maxSteps := 10000000) (disch := first | omega | simp) [e]))) <;> clear hK K) | ((with_reducible refine awCond fun A B hA hB => ?_); simp (maxSteps := 10000000) (disch := first | omega | simp) [e]; (first | refine ⟨fun h => hA ?_, fun h => hB ?_⟩ | refine hA ?_ | refine hB ?_) <;> (clear hA hB A B; (try (exfalso; omega))))
    (refine aEnR (aRes [] fun K hK => ?_); simp (maxSteps := 10000000) (disch := first | omega | simp) [zT]; refine hK _ ?_ (by simp); clear hK; first | done | (simp (maxSteps := 10000000) (disch := first | omega | simp) [zT, *]; done) | (simp (maxSteps := 10000000) (disch := first | omega | simp) [zT, *]; omega) | (simp_all [zT]; done) | (simp_all [zT]; omega))
  | some t =>
    obtain ⟨j, e1, e2⟩ := idxF_some _ m.topics 0 t hm
    rw [Nat.zero_add] at e1
    rw [e1] at h
    obtain ⟨hj, e3⟩ := List.getElem?_eq_some_iff.1 e2
    have e4 : ¬ ((j : Int) < 0) := by omega
    repeat' first | (with_reducible first | refine fS ?_ | refine fR ?_ | refine fQ ?_ | refine fT ?_ | refine awRet ?_) | ((with_reducible refine awReg fun K hok hK => ?_); clear hok; (try simp (maxSteps := 10000000) (disch := first | omega | simp) [e4, hj, e3]); (repeat' first | (with_reducible refine hK _ (by simp) ?_) | ((with_reducible refine callS' fun K2 hK2 => ?_); (try simp (maxSteps := 10000000) (disch := first | omega | simp) [e4, hj, e3]); (refine hK2 _ _ h rfl fun hk9 => ?_); clear hk9; clear hK2 K2; (try simp (maxSteps := 10000000) (disch := first | omega | simp) [e4, hj, e3]))) <;> clear hK K) | ((with_reducible refine awCond fun A B hA hB => ?_); simp (maxSteps := 10000000) (disch := first | omega | simp) [e4, hj, e3]; (first | refine ⟨fun h => hA ?_, fun h => hB ?_⟩ | refine hA ?_ | refine hB ?_) <;> (clear hA hB A B; (try (exfalso; omega))))
    (refine aEnR (aRes [] fun K hK => ?_); simp (maxSteps := 10000000) (disch := first | omega | simp) []; refine hK _ ?_ (by simp); clear hK; first | done | (simp (maxSteps := 10000000) (disch := first | omega | simp) [*]; done) | (simp (maxSteps := 10000000) (disch := first | omega | simp) [*]; omega) | (simp_all []; done) | (simp_all []; omega))
end
end Go.Am
end
section
set_option maxRecDepth 100000
set_option maxHeartbeats 0
namespace Go.Am
open Go
noncomputable section
def c39 : SC := (.seq (.reg [⟨some 6, .assign (.const .nilIface), none, []⟩] [0, 1, 2, 13]) (.seq (.reg [⟨some 7, .move (.tmp 2), none, []⟩,
  ⟨some 8, .binOp .eql 39 (.tmp 7) (.const .nilIface) 39, none, []⟩] [0, 1, 2, 8, 13]) (.seq (.cond (.tmp 8) (.seq (.reg [⟨some 6, .assign (.const .nilIface), none, []⟩] [6, 13]) .ret) .skip) (.seq (.reg [⟨some 9, .move (.tmp 0), none, []⟩,
  ⟨some 10, .move (.tmp 1), none, []⟩,
  ⟨some 11, .move (.tmp 2), none, []⟩,
  ⟨some 12, .build 97 #[(0, .tmp 9), (1, .tmp 10), (2, .tmp 11)], none, []⟩,
  ⟨some 13, .makeInterface 97 (.tmp 12), none, []⟩,
  ⟨some 6, .assign (.tmp 13), none, []⟩] [6, 13]) .ret))))
theorem s39 : TextK Proofs.Tryz.prog 0 39 14 [ResultVar.tmp 6] c39 := .mk' Proofs.Tryz.f39 _ (by kernel_rfl) rfl rfl rfl (by kernel_rfl) rfl (by kernel_rfl)
def errE : Option Er → V
  | none => .c .nilIface
  | some e => .c (encE e)
@[simp] theorem errE_none : errE none = .c .nilIface := rfl
@[simp] theorem errE_some (e : Er) : errE (some e) = .c (encE e) := rfl
def erO : Option Bad → Option Er := Option.map fun b => .fault b.1 b.2.1 (.code b.2.2)
theorem errO_E (x : Option Bad) : errO x = errE (erO x) := by cases x <;> rfl
theorem encE_if (e : Er) : ∃ t v, encE e = .iface t v := by cases e <;> exact ⟨_, _, rfl⟩
theorem wrap_ok (op : ByteArray) (a : Int) (x : Option Er) : ACall pg 39 [St op, I a, errE x] (errE (x.map (.fault op a))) := by
  refine s39.call mo (by simp) fun hxs => ?_
  clear hxs
  unfold c39
  cases x with
  | none =>
    repeat' first | (with_reducible first | refine fS ?_ | refine fR ?_ | refine fQ ?_ | refine fT ?_ | refine awRet ?_) | ((with_reducible refine awReg fun K hok hK => ?_); clear hok; (try simp (maxSteps := 10000000) (disch := first | omega | simp) [isConst]); (repeat' first | (with_reducible refine hK _ (by simp) ?_)) <;> clear hK K) | ((with_reducible refine awCond fun A B hA hB => ?_); simp (maxSteps := 10000000) (disch := first | omega | simp) [isConst]; (first | refine ⟨fun h => hA ?_, fun h => hB ?_⟩ | refine hA ?_ | refine hB ?_) <;> (clear hA hB A B; (try (exfalso; omega))))
    (refine aEnR (aRes [] fun K hK => ?_); simp (maxSteps := 10000000) (disch := first | omega | simp) []; refine hK _ ?_ (by simp); clear hK; first | done | (simp (maxSteps := 10000000) (disch := first | omega | simp) [*]; done) | (simp (maxSteps := 10000000) (disch := first | omega | simp) [*]; omega) | (simp_all []; done) | (simp_all []; omega))
  | some e =>
    cases e with
    | code n =>
      simp only [Option.map_some, errE_some, encE]
      repeat' first | (with_reducible first | refine fS ?_ | refine fR ?_ | refine fQ ?_ | refine fT ?_ | refine awRet ?_) | ((with_reducible refine awReg fun K hok hK => ?_); clear hok; (try simp (maxSteps := 10000000) (disch := first | omega | simp) [isConst]); (repeat' first | (with_reducible refine hK _ (by simp) ?_)) <;> clear hK K) | ((with_reducible refine awCond fun A B hA hB => ?_); simp (maxSteps := 10000000) (disch := first | omega | simp) [isConst]; (first | refine ⟨fun h => hA ?_, fun h => hB ?_⟩ | refine hA ?_ | refine hB ?_) <;> (clear hA hB A B; (try (exfalso; omega))))
      (refine aEnR (aRes [] fun K hK => ?_); simp (maxSteps := 10000000) (disch := first | omega | simp) [encE]; refine hK _ ?_ (by simp); clear hK; first | done | (simp (maxSteps := 10000000) (disch := first | omega | simp) [encE, *]; done) | (simp (maxSteps := 10000000) (disch := first | omega | simp) [encE, *]; omega) | (simp_all [encE]; done) | (simp_all [encE]; omega))
    | fault op2 a2 e2 =>
      obtain ⟨t, v, he⟩ := encE_if e2
      simp only [Option.map_some, errE_some, encE, he]
      repeat' first | (with_reducible first | refine fS ?_ | refine fR ?_ | refine fQ ?_ | refine fT ?_ | refine awRet ?_) | ((with_reducible refine awReg fun K hok hK => ?_); clear hok; (try simp (maxSteps := 10000000) (disch := first | omega | simp) [isConst]); (repeat' first | (with_reducible refine hK _ (by simp) ?_)) <;> clear hK K) | ((with_reducible refine awCond fun A B hA hB => ?_); simp (maxSteps := 10000000) (disch := first | omega | simp) [isConst]; (first | refine ⟨fun h => hA ?_, fun h => hB ?_⟩ | refine hA ?_ | refine hB ?_) <;> (clear hA hB A B; (try (exfalso; omega))))
      (refine aEnR (aRes [] fun K hK => ?_); simp (maxSteps := 10000000) (disch := first | omega | simp) [encE]; refine hK _ ?_ (by simp); clear hK; first | done | (simp (maxSteps := 10000000) (disch := first | omega | simp) [encE, *]; done) | (simp (maxSteps := 10000000) (disch := first | omega | simp) [encE, *]; omega) | (simp_all [encE]; done) | (simp_all [encE]; omega))
end
end Go.Am
end
