/- Part of the proof of a law of moving. -/
import Derived.Test.YtmnheledelnbfaaGreatDoorQE3s
import Derived.Test.YtmnheledelnbfaaGreatDoorQEB
import Derived.Test.YtmnheledelnbfaaGreatDoorQED
import Derived.Test.YtmnheledelnbfaaGreatDoorQIx
import Derived.Test.YtmnheledelnbfaaGreatDoorQPU
set_option linter.all false
section
set_option maxRecDepth 100000
set_option maxHeartbeats 0
namespace Go.Am
open Go
noncomputable section
end
end Go.Am
end
section
set_option maxRecDepth 100000
set_option maxHeartbeats 0
namespace Go.Am
open Go
noncomputable section
def c101 : SC := (.seq (.reg [oI 4 0] [0,1,5,8,10,17,18]) (.seq (.reg [oM 6 0,oN 7 6 32,oD 8 (.move (.const (.int .i64 0)))] [0,1,5,7,8,10,17,18]) (.seq (.block 0 (.seq (.loop (.seq (.reg [oB 9 .lss 3 8 7 3] [0,1,5,7,8,9,10,17,18]) (.seq (.cond (.tmp 9) .skip (.exit 0)) (.seq (.block 1 (.seq (.reg [oM 10 8,oG 5 10] [0,1,5,7,8,10,17,18]) (.seq (.reg [oM 11 1,oM 12 0,oM 13 5,oJ 14 32 12 13,oL 15 51 14,oD 16 (.call { callee := .value (.tmp 11),args := #[.tmp 15],argTypes := #[51] })] [0,1,5,7,8,10,16,17,18]) (.seq (.cond (.tmp 16) (.seq (.reg [oM 17 5,oG 4 17] [4,5,8,10,17,18]) .ret) .skip) .skip)))) (.seq (.reg [oK 18 .add 3 8 1 3,oM 8 18] [0,1,5,7,8,10,17,18]) .skip))))) .skip)) (.seq (.reg [oD 4 (.assign (.const (.int .i64 (-1))))] [4,5,8,10,17,18]) .ret))))
theorem s101 : TextK Proofs.Tryz.prog 0 101 19 [ResultVar.tmp 4] c101 := .mk' Proofs.Tryz.f101 _ (by kernel_rfl) rfl rfl rfl (by kernel_rfl) rfl (by kernel_rfl)
theorem indexFuncT_ok (l : List Topic) (f : FuncId) (caps : List V) (hp : pureL caps = true) (p : Topic → Bool) (hc : ∀ x ∈ l, ACall pg f ([encT x] ++ caps) (B (p x))) (hl : l.length ≤ 1000000) :
    ACall pg 101 [.sl (l.map encT), .clo f caps] (I (idxF p l 0)) := by
  refine s101.call mo (by simp) fun hxs => ?_
  clear hxs
  unfold c101; dsimp only [oB, oD, oG, oI, oJ, oK, oL, oM, oN]
  have hv := pvL_pure caps hp
  repeat' first | (with_reducible first | refine thN ?_ | refine thR ?_ | refine thE ?_ | refine inN ?_ | refine inR ?_ | refine inH ?_ | refine fS ?_ | refine fR ?_ | refine fQ ?_ | refine fE ?_ | refine fT ?_ | refine awBlock ?_ | refine awExit ?_ | refine awRet ?_ | refine awSkip ?_) | ((with_reducible refine awReg fun K hok hK => ?_); clear hok; (try simp (maxSteps := 10000000) (disch := first | omega | simp) [hp, hv]); (repeat' first | (with_reducible refine hK _ (by simp) ?_)) <;> clear hK K) | ((with_reducible refine awCond fun A B hA hB => ?_); simp (maxSteps := 10000000) (disch := first | omega | simp) [hp, hv]; (first | refine ⟨fun h => hA ?_, fun h => hB ?_⟩ | refine hA ?_ | refine hB ?_) <;> (clear hA hB A B; (try (exfalso; omega))))
  refine awFor l.length (fun i (_ : Unit) => idxF p (l.drop i) i = idxF p l 0) (fun i _ => [(8, .p (I i)), (7, .p (I l.length)), (1, .p (.clo f caps)), (0, .p (.sl (l.map encT)))]) () (Wk.ofA (by simp)) rfl fun i _ hi hs => ?_
  by_cases hlt : i < l.length
  · rw [drop_cons hlt] at hs
    simp only [idxF] at hs
    have hcx := hc _ (List.getElem_mem hlt)
    cases hpx : p l[i] with
    | true =>
      rw [hpx] at hs hcx
      rw [if_pos rfl] at hs
      repeat' first | (with_reducible first | refine thN ?_ | refine thR ?_ | refine thE ?_ | refine inN ?_ | refine inR ?_ | refine inH ?_ | refine fS ?_ | refine fR ?_ | refine fQ ?_ | refine fE ?_ | refine fT ?_ | refine awBlock ?_ | refine awExit ?_ | refine awRet ?_ | refine awSkip ?_) | ((with_reducible refine awReg fun K hok hK => ?_); clear hok; (try simp (maxSteps := 10000000) (disch := first | omega | simp) [hp, hv]); (repeat' first | (with_reducible refine hK _ (by simp) ?_) | ((with_reducible refine callCS' fun K2 hK2 => ?_); (try simp (maxSteps := 10000000) (disch := first | omega | simp) [hp, hv]); (refine hK2 _ _ _ _ hcx rfl fun hk9 => ?_); clear hk9; clear hK2 K2; (try simp (maxSteps := 10000000) (disch := first | omega | simp) [hp, hv]))) <;> clear hK K) | ((with_reducible refine awCond fun A B hA hB => ?_); simp (maxSteps := 10000000) (disch := first | omega | simp) [hp, hv]; (first | refine ⟨fun h => hA ?_, fun h => hB ?_⟩ | refine hA ?_ | refine hB ?_) <;> (clear hA hB A B; (try (exfalso; omega))))
      (refine aEnR (aRes [] fun K hK => ?_); simp (maxSteps := 10000000) (disch := first | omega | simp) [hs]; refine hK _ ?_ (by simp); clear hK; first | done | (simp (maxSteps := 10000000) (disch := first | omega | simp) [hs, *]; done) | (simp (maxSteps := 10000000) (disch := first | omega | simp) [hs, *]; omega) | (simp_all [hs]; done) | (simp_all [hs]; omega))
    | false =>
      rw [hpx] at hs hcx
      rw [if_neg (by simp)] at hs
      repeat' first | (with_reducible first | refine thN ?_ | refine thR ?_ | refine thE ?_ | refine inN ?_ | refine inR ?_ | refine inH ?_ | refine fS ?_ | refine fR ?_ | refine fQ ?_ | refine fE ?_ | refine fT ?_ | refine awBlock ?_ | refine awExit ?_ | refine awRet ?_ | refine awSkip ?_) | ((with_reducible refine awReg fun K hok hK => ?_); clear hok; (try simp (maxSteps := 10000000) (disch := first | omega | simp) [hp, hv]); (repeat' first | (with_reducible refine hK _ (by simp) ?_) | ((with_reducible refine callCS' fun K2 hK2 => ?_); (try simp (maxSteps := 10000000) (disch := first | omega | simp) [hp, hv]); (refine hK2 _ _ _ _ hcx rfl fun hk9 => ?_); clear hk9; clear hK2 K2; (try simp (maxSteps := 10000000) (disch := first | omega | simp) [hp, hv]))) <;> clear hK K) | ((with_reducible refine awCond fun A B hA hB => ?_); simp (maxSteps := 10000000) (disch := first | omega | simp) [hp, hv]; (first | refine ⟨fun h => hA ?_, fun h => hB ?_⟩ | refine hA ?_ | refine hB ?_) <;> (clear hA hB A B; (try (exfalso; omega))))
      (refine ⟨?_, (), ?_, Wk.ofA ?_⟩; assumption; rotate_left; focus (simp []; done))
      exact hs
  · rw [drop_nil (by omega)] at hs
    simp only [idxF] at hs
    repeat' first | (with_reducible first | refine thN ?_ | refine thR ?_ | refine thE ?_ | refine inN ?_ | refine inR ?_ | refine inH ?_ | refine fS ?_ | refine fR ?_ | refine fQ ?_ | refine fE ?_ | refine fT ?_ | refine awBlock ?_ | refine awExit ?_ | refine awRet ?_ | refine awSkip ?_) | ((with_reducible refine awReg fun K hok hK => ?_); clear hok; (try simp (maxSteps := 10000000) (disch := first | omega | simp) []); (repeat' first | (with_reducible refine hK _ (by simp) ?_)) <;> clear hK K) | ((with_reducible refine awCond fun A B hA hB => ?_); simp (maxSteps := 10000000) (disch := first | omega | simp) []; (first | refine ⟨fun h => hA ?_, fun h => hB ?_⟩ | refine hA ?_ | refine hB ?_) <;> (clear hA hB A B; (try (exfalso; omega))))
    (refine aEnR (aRes [] fun K hK => ?_); simp (maxSteps := 10000000) (disch := first | omega | simp) [hs]; refine hK _ ?_ (by simp); clear hK; first | done | (simp (maxSteps := 10000000) (disch := first | omega | simp) [hs, *]; done) | (simp (maxSteps := 10000000) (disch := first | omega | simp) [hs, *]; omega) | (simp_all [hs]; done) | (simp_all [hs]; omega))
end
end Go.Am
end
section
set_option maxRecDepth 100000
set_option maxHeartbeats 0
namespace Go.Am
open Go
noncomputable section
def c102 : SC := (.seq (.reg [oO 2 51 0,oZ 3 false] [1,2]) (.seq (.reg [oF 4 51 2 1,oL 5 9 4,oL 6 9 1,oB 7 .eql 9 5 6 9,oG 3 7] [3,7]) .ret))
theorem s102 : TextK Proofs.Tryz.prog 0 102 8 [ResultVar.tmp 3] c102 := .mk' Proofs.Tryz.f102 _ (by kernel_rfl) rfl rfl rfl (by kernel_rfl) rfl (by kernel_rfl)
def c91 : SC := (.seq (.reg [oO 2 36 0,oO 3 9 1,oA 4 51,oZ 5 false] [2,3,4]) (.seq (.reg [oF 7 36 2 1,oL 8 32 7,oD 9 (.makeFunc (Fn.func 102) #[] #[.tmp 3]),oC 10 101 #[.tmp 8,.tmp 9] #[32,171],oG 6 10] [2,4,6,10]) (.seq (.reg [oM 11 6,oK 12 .lss 3 11 0 3] [2,4,6,10,12]) (.seq (.cond (.tmp 12) (.seq (.reg [oD 13 (.build 51 #[]),oS 51 4 13,oZ 5 false] [4,5]) .ret) .skip) (.seq (.reg [oF 14 36 2 1,oL 15 32 14,oM 16 6,oJ 17 32 15 16,oL 18 51 17,oS 51 4 18,oZ 5 true] [4,5]) .ret)))))
theorem s91 : TextK Proofs.Tryz.prog 0 91 19 [ResultVar.cell 4 51, ResultVar.tmp 5] c91 := .mk' Proofs.Tryz.f91 _ (by kernel_rfl) rfl rfl rfl (by kernel_rfl) rfl (by kernel_rfl)
theorem named1_ok (t : Topic) (s : ByteArray) : ACall pg 102 ([encT t] ++ [.ip [St s] 0]) (B (t.name.toList == s.toList)) := by
  refine s102.call mo (by simp) fun hxs => ?_
  clear hxs
  unfold c102; dsimp only [oB, oF, oG, oL, oO, oZ]
  repeat' first | (with_reducible first | refine awRet ?_) | ((with_reducible refine awReg fun K hok hK => ?_); clear hok; (try simp (maxSteps := 10000000) (disch := first | omega | simp) []); (repeat' first | (with_reducible refine hK _ (by simp) ?_)) <;> clear hK K) | ((with_reducible refine awCond fun A B hA hB => ?_); simp (maxSteps := 10000000) (disch := first | omega | simp) []; (first | refine ⟨fun h => hA ?_, fun h => hB ?_⟩ | refine hA ?_ | refine hB ?_) <;> (clear hA hB A B; (try (exfalso; omega))))
  (refine aEnR (aRes [] fun K hK => ?_); simp (maxSteps := 10000000) (disch := first | omega | simp) []; refine hK _ ?_ (by simp); clear hK; first | done | (simp (maxSteps := 10000000) (disch := first | omega | simp) [*]; done) | (simp (maxSteps := 10000000) (disch := first | omega | simp) [*]; omega) | (simp_all []; done) | (simp_all []; omega))
theorem iNamed_ok (m : Image) (s : ByteArray) (hl : m.topics.length ≤ 1000000) : ACall pg 91 [encM m, St s] (.tup [encT ((m.named s).getD zT), B (m.named s).isSome]) := by
  refine s91.call mo (by simp) fun hxs => ?_
  clear hxs
  unfold c91; dsimp only [oA, oC, oD, oF, oG, oJ, oK, oL, oM, oO, oS, oZ]
  have h := indexFuncT_ok m.topics 102 [.ip [St s] 0] (by simp [pureL, pureB]) (fun t => t.name.toList == s.toList) (fun x _ => named1_ok x s) hl
  cases hm : m.named s with
  | none =>
    have e : idxF (fun t : Topic => t.name.toList == s.toList) m.topics 0 < 0 := by
      have := idxF_any (fun t : Topic => t.name.toList == s.toList) m.topics 0
      unfold Image.named at hm
      rw [List.find?_eq_none] at hm
      have h2 : m.topics.any (fun t => t.name.toList == s.toList) = false := by rw [List.any_eq_false]; intro x hx; exact hm x hx
      rw [h2] at this
      simp at this; omega
    repeat' first | (with_reducible first | refine fS ?_ | refine fR ?_ | refine fQ ?_ | refine fT ?_ | refine awRet ?_) | ((with_reducible refine awReg fun K hok hK => ?_); clear hok; (try simp (maxSteps := 10000000) (disch := first | omega | simp) [e]); (repeat' first | (with_reducible refine hK _ (by simp) ?_) | ((with_reducible refine callS' fun K2 hK2 => ?_); (try simp (maxSteps := 10000000) (disch := first | omega | simp) [e]); (refine hK2 _ _ h rfl fun hk9 => ?_); clear hk9; clear hK2 K2; (try simp (maxSteps := 10000000) (disch := first | omega | simp) [e]))) <;> clear hK K) | ((with_reducible refine awCond fun A B hA hB => ?_); simp (maxSteps := 10000000) (disch := first | omega | simp) [e]; (first | refine ⟨fun h => hA ?_, fun h => hB ?_⟩ | refine hA ?_ | refine hB ?_) <;> (clear hA hB A B; (try (exfalso; omega))))
    (refine aEnR (aRes [] fun K hK => ?_); simp (maxSteps := 10000000) (disch := first | omega | simp) [zT]; refine hK _ ?_ (by simp); clear hK; first | done | (simp (maxSteps := 10000000) (disch := first | omega | simp) [zT, *]; done) | (simp (maxSteps := 10000000) (disch := first | omega | simp) [zT, *]; omega) | (simp_all [zT]; done) | (simp_all [zT]; omega))
  | some t =>
    obtain ⟨j, e1, e2⟩ := idxF_some _ m.topics 0 t hm
    rw [Nat.zero_add] at e1
    rw [e1] at h
    obtain ⟨hj, e3⟩ := List.getElem?_eq_some_iff.1 e2
    have e4 : ¬ ((j : Int) < 0) := by omega
    repeat' first | (with_reducible first | refine fS ?_ | refine fR ?_ | refine fQ ?_ | refine fT ?_ | refine awRet ?_) | ((with_reducible refine awReg fun K hok hK => ?_); clear hok; (try simp (maxSteps := 10000000) (disch := first | omega | simp) [e4, hj, e3]); (repeat' first | (with_reducible refine hK _ (by simp) ?_) | ((with_reducible refine callS' fun K2 hK2 => ?_); (try simp (maxSteps := 10000000) (disch := first | omega | simp) [e4, hj, e3]); (refine hK2 _ _ h rfl fun hk9 => ?_); clear hk9; clear hK2 K2; (try simp (maxSteps := 10000000) (disch := first | omega | simp) [e4, hj, e3]))) <;> clear hK K) | ((with_reducible refine awCond fun A B hA hB => ?_); simp (maxSteps := 10000000) (disch := first | omega | simp) [e4, hj, e3]; (first | refine ⟨fun h => hA ?_, fun h => hB ?_⟩ | refine hA ?_ | refine hB ?_) <;> (clear hA hB A B; (try (exfalso; omega))))
    (refine aEnR (aRes [] fun K hK => ?_); simp (maxSteps := 10000000) (disch := first | omega | simp) []; refine hK _ ?_ (by simp); clear hK; first | done | (simp (maxSteps := 10000000) (disch := first | omega | simp) [*]; done) | (simp (maxSteps := 10000000) (disch := first | omega | simp) [*]; omega) | (simp_all []; done) | (simp_all []; omega))
end
end Go.Am
end
section
set_option maxRecDepth 100000
set_option maxHeartbeats 0
namespace Go.Am
open Go
noncomputable section
def c44 : SC := (.seq (.reg [oD 6 (.assign (.const .nilIface))] [0,1,2,13]) (.seq (.reg [oM 7 2,oD 8 (.binOp .eql 39 (.tmp 7) (.const .nilIface) 39)] [0,1,2,8,13]) (.seq (.cond (.tmp 8) (.seq (.reg [oD 6 (.assign (.const .nilIface))] [6,13]) .ret) .skip) (.seq (.reg [oM 9 0,oM 10 1,oM 11 2,oD 12 (.build 104 #[(0,.tmp 9),(1,.tmp 10),(2,.tmp 11)]),oD 13 (.makeInterface 104 (.tmp 12)),oG 6 13] [6,13]) .ret))))
theorem s44 : TextK Proofs.Tryz.prog 0 44 14 [ResultVar.tmp 6] c44 := .mk' Proofs.Tryz.f44 _ (by kernel_rfl) rfl rfl rfl (by kernel_rfl) rfl (by kernel_rfl)
def errE : Option Er → V
  | none => .c .nilIface
  | some e => .c (encE e)
@[simp] theorem errE_none : errE none = .c .nilIface := rfl
@[simp] theorem errE_some (e : Er) : errE (some e) = .c (encE e) := rfl
def erO : Option Bad → Option Er := Option.map fun b => .fault b.1 b.2.1 (.code b.2.2)
theorem errO_E (x : Option Bad) : errO x = errE (erO x) := by cases x <;> rfl
theorem encE_if (e : Er) : ∃ t v, encE e = .iface t v := by cases e <;> exact ⟨_, _, rfl⟩
theorem wrap_ok (op : ByteArray) (a : Int) (x : Option Er) : ACall pg 44 [St op, I a, errE x] (errE (x.map (.fault op a))) := by
  refine s44.call mo (by simp) fun hxs => ?_
  clear hxs
  unfold c44; dsimp only [oD, oG, oM]
  cases x with
  | none =>
    repeat' first | (with_reducible first | refine fS ?_ | refine fR ?_ | refine fQ ?_ | refine fT ?_ | refine awRet ?_) | ((with_reducible refine awReg fun K hok hK => ?_); clear hok; (try simp (maxSteps := 10000000) (disch := first | omega | simp) [isConst]); (repeat' first | (with_reducible refine hK _ (by simp) ?_)) <;> clear hK K) | ((with_reducible refine awCond fun A B hA hB => ?_); simp (maxSteps := 10000000) (disch := first | omega | simp) [isConst]; (first | refine ⟨fun h => hA ?_, fun h => hB ?_⟩ | refine hA ?_ | refine hB ?_) <;> (clear hA hB A B; (try (exfalso; omega))))
    (refine aEnR (aRes [] fun K hK => ?_); simp (maxSteps := 10000000) (disch := first | omega | simp) []; refine hK _ ?_ (by simp); clear hK; first | done | (simp (maxSteps := 10000000) (disch := first | omega | simp) [*]; done) | (simp (maxSteps := 10000000) (disch := first | omega | simp) [*]; omega) | (simp_all []; done) | (simp_all []; omega))
  | some e =>
    cases e with
    | code n =>
      simp only [Option.map_some, errE_some, encE]
      repeat' first | (with_reducible first | refine fS ?_ | refine fR ?_ | refine fQ ?_ | refine fT ?_ | refine awRet ?_) | ((with_reducible refine awReg fun K hok hK => ?_); clear hok; (try simp (maxSteps := 10000000) (disch := first | omega | simp) [isConst]); (repeat' first | (with_reducible refine hK _ (by simp) ?_)) <;> clear hK K) | ((with_reducible refine awCond fun A B hA hB => ?_); simp (maxSteps := 10000000) (disch := first | omega | simp) [isConst]; (first | refine ⟨fun h => hA ?_, fun h => hB ?_⟩ | refine hA ?_ | refine hB ?_) <;> (clear hA hB A B; (try (exfalso; omega))))
      (refine aEnR (aRes [] fun K hK => ?_); simp (maxSteps := 10000000) (disch := first | omega | simp) [encE]; refine hK _ ?_ (by simp); clear hK; first | done | (simp (maxSteps := 10000000) (disch := first | omega | simp) [encE, *]; done) | (simp (maxSteps := 10000000) (disch := first | omega | simp) [encE, *]; omega) | (simp_all [encE]; done) | (simp_all [encE]; omega))
    | fault op2 a2 e2 =>
      obtain ⟨t, v, he⟩ := encE_if e2
      simp only [Option.map_some, errE_some, encE, he]
      repeat' first | (with_reducible first | refine fS ?_ | refine fR ?_ | refine fQ ?_ | refine fT ?_ | refine awRet ?_) | ((with_reducible refine awReg fun K hok hK => ?_); clear hok; (try simp (maxSteps := 10000000) (disch := first | omega | simp) [isConst]); (repeat' first | (with_reducible refine hK _ (by simp) ?_)) <;> clear hK K) | ((with_reducible refine awCond fun A B hA hB => ?_); simp (maxSteps := 10000000) (disch := first | omega | simp) [isConst]; (first | refine ⟨fun h => hA ?_, fun h => hB ?_⟩ | refine hA ?_ | refine hB ?_) <;> (clear hA hB A B; (try (exfalso; omega))))
      (refine aEnR (aRes [] fun K hK => ?_); simp (maxSteps := 10000000) (disch := first | omega | simp) [encE]; refine hK _ ?_ (by simp); clear hK; first | done | (simp (maxSteps := 10000000) (disch := first | omega | simp) [encE, *]; done) | (simp (maxSteps := 10000000) (disch := first | omega | simp) [encE, *]; omega) | (simp_all [encE]; done) | (simp_all [encE]; omega))
end
end Go.Am
end
