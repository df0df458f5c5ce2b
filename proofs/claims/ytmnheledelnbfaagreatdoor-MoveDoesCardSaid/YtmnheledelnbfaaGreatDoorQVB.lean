/- Part of the proof of a law of moving. -/
import Derived.Test.YtmnheledelnbfaaGreatDoorQAG
import Derived.Test.YtmnheledelnbfaaGreatDoorQE3p
import Derived.Test.YtmnheledelnbfaaGreatDoorQEB
import Derived.Test.YtmnheledelnbfaaGreatDoorQEC
import Derived.Test.YtmnheledelnbfaaGreatDoorQMM
import Derived.Test.YtmnheledelnbfaaGreatDoorQPK
import Derived.Test.YtmnheledelnbfaaGreatDoorQPP
import Derived.Test.YtmnheledelnbfaaGreatDoorQPV
set_option linter.all false
section
namespace Go.Am
open Go
noncomputable section
def minus (l gone : List Int) : List Int := l.filter fun n => !gone.contains n
def Part.under (p : Part) : Bool := decide (0 < p.add.length) || decide (0 < p.drop.length)
def dsBad (l : List Int) (i : Nat) : Bool := (l.take i).contains (l.getD i 0)
abbrev tgt : ByteArray := bs [116, 97, 114, 103, 101, 116]
abbrev mvs : ByteArray := bs [109, 111, 118, 101]
def dsP (l : List Int) : Option Bad :=
  if l.length < 1 ∨ 7 < l.length then some (tgt, (l.length : Int), 18)
  else ((List.range l.length).find? (dsBad l)).map fun i : Nat => (tgt, (i : Int), 18)
def Image.startE (m : Image) (p : Part) (t : List Int) : Option Er :=
  if (ckP m.order (minus t p.ids)).isSome = true ∧ 0 < (minus t p.ids).length then (erO (ckP m.order (minus t p.ids))).map (.fault tgt t.length)
  else if (dsP t).isSome = true then erO (dsP t)
  else if p.under = true then erO (some (mvs, (p.add.length : Int), 10))
  else if p.ids = t then erO (some (tgt, (t.length : Int), 9))
  else if 7 < t.length + (minus p.ids t).length then erO (some (tgt, ((t.length + (minus p.ids t).length : Nat) : Int), 6))
  else none
def Part.sent (p : Part) (t : List Int) : Part := { p with ids := t ++ minus p.ids t, add := minus t p.ids, drop := minus p.ids t }
def Image.startP (m : Image) (p : Part) (t : List Int) : Part := if (m.startE p t).isSome then p else p.sent t
def Part.less (p : Part) (gone : List Int) : Part := ⟨minus p.ids gone, minus p.isr gone, p.leader, p.epoch, [], []⟩
def Image.settle (m : Image) (p : Part) (gone : List Int) : Part × Bool :=
  if (p.less gone).isr.length = 0 then (p, false)
  else if p.leader ≠ 0 ∧ gone.contains p.leader = true then
    if m.chooseP (p.less gone) p.leader = 0 then (p, false)
    else ({ p.less gone with leader := m.chooseP (p.less gone) p.leader, epoch := p.epoch + 1 }, true)
  else (p.less gone, true)
def Image.finish (m : Image) (p : Part) : Part × Bool :=
  if p.under = false ∨ 0 < (minus p.add p.isr).length then (p, false) else m.settle p p.drop
def Image.cancelE (m : Image) (p : Part) : Option Bad :=
  if p.under = false then some (mvs, 0, 8)
  else if (m.settle p p.add).2 = false then some (mvs, (p.add.length : Int), 10)
  else none
def Image.cancelP (m : Image) (p : Part) : Part := if (m.cancelE p).isSome then p else (m.settle p p.add).1
def Image.due (m : Image) : List Record := m.changes fun p => (m.finish p).1
def underN (l : List Part) : Nat := (l.filter Part.under).length
def Image.left (m : Image) : Nat := (m.topics.map fun t => underN t.parts).sum
theorem minus_len (l g : List Int) : (minus l g).length ≤ l.length := List.length_filter_le _ _
end
end Go.Am
end
section
set_option maxRecDepth 100000
set_option maxHeartbeats 0
namespace Go.Am
open Go
noncomputable section
def c43 : SC := (.seq (.reg [oD 4 (.assign (.const (.slice none 0 0)))] [0,1,21]) (.seq (.reg [oD 5 (.assign (.const (.slice none 0 0)))] [0,1,5,21]) (.seq (.reg [oM 8 0,oN 9 8 23,oD 10 (.move (.const (.int .i64 0)))] [0,1,5,8,9,10,21,22]) (.seq (.block 0 (.seq (.loop (.seq (.reg [oB 11 .lss 3 10 9 3] [0,1,5,8,9,10,11,21,22]) (.seq (.cond (.tmp 11) .skip (.exit 0)) (.seq (.block 1 (.seq (.reg [oJ 12 23 8 10,oL 13 3 12,oG 7 13] [0,1,5,7,8,9,10,12,13,21,22]) (.seq (.reg [oM 14 1,oM 15 7,oC 16 72 #[.tmp 14,.tmp 15] #[23,3],oD 17 (.unOp .not 4 (.tmp 16))] [0,1,5,7,8,9,10,12,13,17,21,22]) (.seq (.cond (.tmp 17) (.seq (.reg [oM 18 5,oM 19 7,oD 20 (.buildSlice 23 1 #[(0,.tmp 19)]),oP 21 #[.tmp 18,.tmp 20] #[23,23],oG 5 21] [0,1,5,8,9,10,21,22]) .skip) .skip) .skip)))) (.seq (.reg [oK 22 .add 3 10 1 3,oM 10 22] [0,1,5,8,9,10,21,22]) .skip))))) .skip)) (.seq (.reg [oM 23 5,oG 4 23] [4,5,21,23]) .ret)))))
theorem s43 : TextK Proofs.Tryz.prog 0 43 24 [ResultVar.tmp 4] c43 := .mk' Proofs.Tryz.f43 _ (by kernel_rfl) rfl rfl rfl (by kernel_rfl) rfl (by kernel_rfl)
def c24 : SC := (.seq (.reg [oO 1 53 0,oZ 2 false] [1]) (.seq (.reg [oF 3 53 1 4,oL 4 23 3,oN 5 4 23,oK 6 .gtr 3 5 0 3,oM 7 6,oW 7 false (oF 8 53 1 5),oW 7 false (oL 9 23 8),oW 7 false (oN 10 9 23),oW 7 false (oK 11 .gtr 3 10 0 3),oR 12 7 true 11,oG 2 12] [2,6,7,11,12]) .ret))
theorem s24 : TextK Proofs.Tryz.prog 0 24 13 [ResultVar.tmp 2] c24 := .mk' Proofs.Tryz.f24 _ (by kernel_rfl) rfl rfl rfl (by kernel_rfl) rfl (by kernel_rfl)
def c27 : SC := (.seq (.reg [oO 1 53 0,oD 2 (.assign (.const (.slice none 0 0)))] [1]) (.seq (.reg [oF 3 53 1 0,oL 4 23 3,oF 5 53 1 5,oL 6 23 5,oC 7 43 #[.tmp 4,.tmp 6] #[23,23],oG 2 7] [2,7]) .ret))
theorem s27 : TextK Proofs.Tryz.prog 0 27 8 [ResultVar.tmp 2] c27 := .mk' Proofs.Tryz.f27 _ (by kernel_rfl) rfl rfl rfl (by kernel_rfl) rfl (by kernel_rfl)
def c28 : SC := (.seq (.reg [oD 4 (.assign (.const (.slice none 0 0)))] [0,1,26]) (.seq (.reg [oD 5 (.assign (.const (.slice none 0 0)))] [0,1,5,26]) (.seq (.reg [oI 6 0] [0,1,5,6,12,26]) (.seq (.block 0 (.seq (.loop (.seq (.reg [oM 7 6,oM 8 0,oN 9 8 23,oB 10 .lss 3 7 9 3] [0,1,5,6,10,12,26]) (.seq (.cond (.tmp 10) .skip (.exit 0)) (.seq (.block 1 (.seq (.reg [oM 13 1,oM 14 0,oM 15 6,oJ 16 23 14 15,oL 17 3 16,oC 18 51 #[.tmp 13,.tmp 17] #[23,3],oD 19 (.unOp .not 4 (.tmp 18))] [0,1,5,6,12,19,26]) (.seq (.cond (.tmp 19) (.seq (.reg [oM 20 5,oM 21 0,oM 22 6,oJ 23 23 21 22,oL 24 3 23,oD 25 (.buildSlice 23 1 #[(0,.tmp 24)]),oP 26 #[.tmp 20,.tmp 25] #[23,23],oG 5 26] [0,1,5,6,12,26]) .skip) .skip) .skip))) (.seq (.reg [oM 11 6,oK 12 .add 3 11 1 3,oG 6 12] [0,1,5,6,12,26]) .skip))))) .skip)) (.seq (.reg [oM 27 5,oG 4 27] [4,5,26,27]) .ret)))))
theorem s28 : TextK Proofs.Tryz.prog 0 28 28 [ResultVar.tmp 4] c28 := .mk' Proofs.Tryz.f28 _ (by kernel_rfl) rfl rfl rfl (by kernel_rfl) rfl (by kernel_rfl)
theorem minus_cons (x : Int) (l g : List Int) : minus (x :: l) g = if g.contains x then minus l g else x :: minus l g := by
  unfold minus
  rw [List.filter_cons]
  cases g.contains x <;> rfl
theorem without_ok (l g : List Int) (hl : l.length ≤ 1000000) (hg : g.length ≤ 1000000) : ACall pg 43 [Li l, Li g] (Li (minus l g)) := by
  refine s43.call mo (by simp) fun hxs => ?_
  clear hxs
  unfold c43; dsimp only [oB, oC, oD, oG, oJ, oK, oL, oM, oN, oP]
  repeat' first | (with_reducible first | refine thN ?_ | refine thE ?_ | refine inN ?_ | refine inH ?_ | refine fS ?_ | refine fR ?_ | refine fQ ?_ | refine fE ?_ | refine awBlock ?_ | refine awExit ?_ | refine awRet ?_ | refine awSkip ?_) | ((with_reducible refine awReg fun K hok hK => ?_); clear hok; (try simp (maxSteps := 10000000) (disch := first | omega | simp) []); (repeat' first | (with_reducible refine hK _ (by simp) ?_)) <;> clear hK K) | ((with_reducible refine awCond fun A B hA hB => ?_); simp (maxSteps := 10000000) (disch := first | omega | simp) []; (first | refine ⟨fun h => hA ?_, fun h => hB ?_⟩ | refine hA ?_ | refine hB ?_) <;> (clear hA hB A B; (try (exfalso; omega))))
  refine awFor l.length (fun i (s : List Int) => s ++ minus (l.drop i) g = minus l g ∧ s.length ≤ i) (fun i s => [(10, .p (I i)), (9, .p (I l.length)), (8, .p (Li l)), (5, .p (.uq (s.map I))), (1, .p (Li g))]) [] (Wk.ofA (by simp)) ⟨by simp, by simp⟩ fun i s hi hs => ?_
  obtain ⟨hs, hsl⟩ := hs
  by_cases hlt : i < l.length
  · rw [drop_cons hlt, minus_cons] at hs
    have hc := contains_ok g l[i] hg
    cases hx : g.contains l[i] with
    | true =>
      rw [hx] at hc hs
      rw [if_pos rfl] at hs
      repeat' first | (with_reducible first | refine thN ?_ | refine thE ?_ | refine inN ?_ | refine inH ?_ | refine fS ?_ | refine fR ?_ | refine fQ ?_ | refine fE ?_ | refine awBlock ?_ | refine awExit ?_ | refine awRet ?_ | refine awSkip ?_) | ((with_reducible refine awReg fun K hok hK => ?_); clear hok; (try simp (maxSteps := 10000000) (disch := first | omega | simp) [hlt]); (repeat' first | (with_reducible refine hK _ (by simp) ?_) | ((with_reducible refine callS' fun K2 hK2 => ?_); (try simp (maxSteps := 10000000) (disch := first | omega | simp) [hlt]); (refine hK2 _ _ hc rfl fun hk9 => ?_); clear hk9; clear hK2 K2; (try simp (maxSteps := 10000000) (disch := first | omega | simp) [hlt]))) <;> clear hK K) | ((with_reducible refine awCond fun A B hA hB => ?_); simp (maxSteps := 10000000) (disch := first | omega | simp) [hlt]; (first | refine ⟨fun h => hA ?_, fun h => hB ?_⟩ | refine hA ?_ | refine hB ?_) <;> (clear hA hB A B; (try (exfalso; omega))))
      (refine ⟨?_, s, ?_, Wk.ofA ?_⟩; assumption; rotate_left; focus (simp []; done))
      exact ⟨hs, by omega⟩
    | false =>
      rw [hx] at hc hs
      rw [if_neg (by simp)] at hs
      repeat' first | (with_reducible first | refine thN ?_ | refine thE ?_ | refine inN ?_ | refine inH ?_ | refine fS ?_ | refine fR ?_ | refine fQ ?_ | refine fE ?_ | refine awBlock ?_ | refine awExit ?_ | refine awRet ?_ | refine awSkip ?_) | ((with_reducible refine awReg fun K hok hK => ?_); clear hok; (try simp (maxSteps := 10000000) (disch := first | omega | simp) [hlt]); (repeat' first | (with_reducible refine hK _ (by simp) ?_) | ((with_reducible refine callS' fun K2 hK2 => ?_); (try simp (maxSteps := 10000000) (disch := first | omega | simp) [hlt]); (refine hK2 _ _ hc rfl fun hk9 => ?_); clear hk9; clear hK2 K2; (try simp (maxSteps := 10000000) (disch := first | omega | simp) [hlt]))) <;> clear hK K) | ((with_reducible refine awCond fun A B hA hB => ?_); simp (maxSteps := 10000000) (disch := first | omega | simp) [hlt]; (first | refine ⟨fun h => hA ?_, fun h => hB ?_⟩ | refine hA ?_ | refine hB ?_) <;> (clear hA hB A B; (try (exfalso; omega))))
      (refine ⟨?_, s ++ [l[i]], ?_, Wk.ofA ?_⟩; assumption; rotate_left; focus (simp []; done))
      exact ⟨by rw [← hs]; simp, by simp; omega⟩
  · rw [drop_nil (by omega)] at hs
    simp only [minus, List.filter_nil, List.append_nil] at hs
    repeat' first | (with_reducible first | refine thN ?_ | refine thE ?_ | refine inN ?_ | refine inH ?_ | refine fS ?_ | refine fR ?_ | refine fQ ?_ | refine fE ?_ | refine awBlock ?_ | refine awExit ?_ | refine awRet ?_ | refine awSkip ?_) | ((with_reducible refine awReg fun K hok hK => ?_); clear hok; (try simp (maxSteps := 10000000) (disch := first | omega | simp) []); (repeat' first | (with_reducible refine hK _ (by simp) ?_)) <;> clear hK K) | ((with_reducible refine awCond fun A B hA hB => ?_); simp (maxSteps := 10000000) (disch := first | omega | simp) []; (first | refine ⟨fun h => hA ?_, fun h => hB ?_⟩ | refine hA ?_ | refine hB ?_) <;> (clear hA hB A B; (try (exfalso; omega))))
    subst hs
    (refine aEnR (aRes [true] fun K hK => ?_); simp (maxSteps := 10000000) (disch := first | omega | simp) [minus]; refine hK _ ?_ (by simp); clear hK; first | done | (simp (maxSteps := 10000000) (disch := first | omega | simp) [minus, *]; done) | (simp (maxSteps := 10000000) (disch := first | omega | simp) [minus, *]; omega) | (simp_all [minus]; done) | (simp_all [minus]; omega))
theorem rMinus_ok (l g : List Int) (hl : l.length ≤ 1000000) : ACall pg 28 [Li l, Li g] (Li (minus l g)) := by
  refine s28.call mo (by simp) fun hxs => ?_
  clear hxs
  unfold c28; dsimp only [oB, oC, oD, oG, oI, oJ, oK, oL, oM, oN, oP]
  repeat' first | (with_reducible first | refine thN ?_ | refine thE ?_ | refine inN ?_ | refine inH ?_ | refine fS ?_ | refine fR ?_ | refine fQ ?_ | refine fE ?_ | refine awBlock ?_ | refine awExit ?_ | refine awRet ?_ | refine awSkip ?_) | ((with_reducible refine awReg fun K hok hK => ?_); clear hok; (try simp (maxSteps := 10000000) (disch := first | omega | simp) []); (repeat' first | (with_reducible refine hK _ (by simp) ?_)) <;> clear hK K) | ((with_reducible refine awCond fun A B hA hB => ?_); simp (maxSteps := 10000000) (disch := first | omega | simp) []; (first | refine ⟨fun h => hA ?_, fun h => hB ?_⟩ | refine hA ?_ | refine hB ?_) <;> (clear hA hB A B; (try (exfalso; omega))))
  refine awFor l.length (fun i (s : List Int) => s ++ minus (l.drop i) g = minus l g ∧ s.length ≤ i) (fun i s => [(6, .p (I i)), (5, .p (.uq (s.map I))), (1, .p (Li g)), (0, .p (Li l))]) [] (Wk.ofA (by simp)) ⟨by simp, by simp⟩ fun i s hi hs => ?_
  obtain ⟨hs, hsl⟩ := hs
  by_cases hlt : i < l.length
  · rw [drop_cons hlt, minus_cons] at hs
    have hc := has_ok g l[i]
    cases hx : g.contains l[i] with
    | true =>
      rw [hx] at hc hs
      rw [if_pos rfl] at hs
      repeat' first | (with_reducible first | refine thN ?_ | refine thE ?_ | refine inN ?_ | refine inH ?_ | refine fS ?_ | refine fR ?_ | refine fQ ?_ | refine fE ?_ | refine awBlock ?_ | refine awExit ?_ | refine awRet ?_ | refine awSkip ?_) | ((with_reducible refine awReg fun K hok hK => ?_); clear hok; (try simp (maxSteps := 10000000) (disch := first | omega | simp) [hlt]); (repeat' first | (with_reducible refine hK _ (by simp) ?_) | ((with_reducible refine callS' fun K2 hK2 => ?_); (try simp (maxSteps := 10000000) (disch := first | omega | simp) [hlt]); (refine hK2 _ _ hc rfl fun hk9 => ?_); clear hk9; clear hK2 K2; (try simp (maxSteps := 10000000) (disch := first | omega | simp) [hlt]))) <;> clear hK K) | ((with_reducible refine awCond fun A B hA hB => ?_); simp (maxSteps := 10000000) (disch := first | omega | simp) [hlt]; (first | refine ⟨fun h => hA ?_, fun h => hB ?_⟩ | refine hA ?_ | refine hB ?_) <;> (clear hA hB A B; (try (exfalso; omega))))
      (refine ⟨?_, s, ?_, Wk.ofA ?_⟩; assumption; rotate_left; focus (simp []; done))
      exact ⟨hs, by omega⟩
    | false =>
      rw [hx] at hc hs
      rw [if_neg (by simp)] at hs
      repeat' first | (with_reducible first | refine thN ?_ | refine thE ?_ | refine inN ?_ | refine inH ?_ | refine fS ?_ | refine fR ?_ | refine fQ ?_ | refine fE ?_ | refine awBlock ?_ | refine awExit ?_ | refine awRet ?_ | refine awSkip ?_) | ((with_reducible refine awReg fun K hok hK => ?_); clear hok; (try simp (maxSteps := 10000000) (disch := first | omega | simp) [hlt]); (repeat' first | (with_reducible refine hK _ (by simp) ?_) | ((with_reducible refine callS' fun K2 hK2 => ?_); (try simp (maxSteps := 10000000) (disch := first | omega | simp) [hlt]); (refine hK2 _ _ hc rfl fun hk9 => ?_); clear hk9; clear hK2 K2; (try simp (maxSteps := 10000000) (disch := first | omega | simp) [hlt]))) <;> clear hK K) | ((with_reducible refine awCond fun A B hA hB => ?_); simp (maxSteps := 10000000) (disch := first | omega | simp) [hlt]; (first | refine ⟨fun h => hA ?_, fun h => hB ?_⟩ | refine hA ?_ | refine hB ?_) <;> (clear hA hB A B; (try (exfalso; omega))))
      (refine ⟨?_, s ++ [l[i]], ?_, Wk.ofA ?_⟩; assumption; rotate_left; focus (simp []; done))
      exact ⟨by rw [← hs]; simp, by simp; omega⟩
  · rw [drop_nil (by omega)] at hs
    simp only [minus, List.filter_nil, List.append_nil] at hs
    repeat' first | (with_reducible first | refine thN ?_ | refine thE ?_ | refine inN ?_ | refine inH ?_ | refine fS ?_ | refine fR ?_ | refine fQ ?_ | refine fE ?_ | refine awBlock ?_ | refine awExit ?_ | refine awRet ?_ | refine awSkip ?_) | ((with_reducible refine awReg fun K hok hK => ?_); clear hok; (try simp (maxSteps := 10000000) (disch := first | omega | simp) []); (repeat' first | (with_reducible refine hK _ (by simp) ?_)) <;> clear hK K) | ((with_reducible refine awCond fun A B hA hB => ?_); simp (maxSteps := 10000000) (disch := first | omega | simp) []; (first | refine ⟨fun h => hA ?_, fun h => hB ?_⟩ | refine hA ?_ | refine hB ?_) <;> (clear hA hB A B; (try (exfalso; omega))))
    subst hs
    (refine aEnR (aRes [true] fun K hK => ?_); simp (maxSteps := 10000000) (disch := first | omega | simp) [minus]; refine hK _ ?_ (by simp); clear hK; first | done | (simp (maxSteps := 10000000) (disch := first | omega | simp) [minus, *]; done) | (simp (maxSteps := 10000000) (disch := first | omega | simp) [minus, *]; omega) | (simp_all [minus]; done) | (simp_all [minus]; omega))
theorem under_ok (p : Part) : ACall pg 24 [encP p] (B p.under) := by
  refine s24.call mo (by simp) fun hxs => ?_
  clear hxs
  unfold c24; dsimp only [oF, oG, oK, oL, oM, oN, oO, oR, oW, oZ]
  by_cases h1 : 0 < p.add.length
  · have e : p.under = true := by simp [Part.under, h1]
    rw [e]
    repeat' first | (with_reducible first | refine awRet ?_) | ((with_reducible refine awReg fun K hok hK => ?_); clear hok; (try simp (maxSteps := 10000000) (disch := first | omega | simp) [h1]); (repeat' first | (with_reducible refine hK _ (by simp) ?_)) <;> clear hK K) | ((with_reducible refine awCond fun A B hA hB => ?_); simp (maxSteps := 10000000) (disch := first | omega | simp) [h1]; (first | refine ⟨fun h => hA ?_, fun h => hB ?_⟩ | refine hA ?_ | refine hB ?_) <;> (clear hA hB A B; (try (exfalso; omega))))
    all_goals (refine aEnR (aRes [] fun K hK => ?_); simp (maxSteps := 10000000) (disch := first | omega | simp) []; refine hK _ ?_ (by simp); clear hK; first | done | (simp (maxSteps := 10000000) (disch := first | omega | simp) [*]; done) | (simp (maxSteps := 10000000) (disch := first | omega | simp) [*]; omega) | (simp_all []; done) | (simp_all []; omega))
  · have e : p.under = decide (0 < p.drop.length) := by simp [Part.under, h1]
    rw [e]
    repeat' first | (with_reducible first | refine awRet ?_) | ((with_reducible refine awReg fun K hok hK => ?_); clear hok; (try simp (maxSteps := 10000000) (disch := first | omega | simp) [h1]); (repeat' first | (with_reducible refine hK _ (by simp) ?_)) <;> clear hK K) | ((with_reducible refine awCond fun A B hA hB => ?_); simp (maxSteps := 10000000) (disch := first | omega | simp) [h1]; (first | refine ⟨fun h => hA ?_, fun h => hB ?_⟩ | refine hA ?_ | refine hB ?_) <;> (clear hA hB A B; (try (exfalso; omega))))
    all_goals (refine aEnR (aRes [] fun K hK => ?_); simp (maxSteps := 10000000) (disch := first | omega | simp) []; refine hK _ ?_ (by simp); clear hK; first | done | (simp (maxSteps := 10000000) (disch := first | omega | simp) [*]; done) | (simp (maxSteps := 10000000) (disch := first | omega | simp) [*]; omega) | (simp_all []; done) | (simp_all []; omega))
theorem mtarget_ok (p : Part) (h : p.Small) : ACall pg 27 [encP p] (Li (minus p.ids p.drop)) := by
  refine s27.call mo (by simp) fun hxs => ?_
  clear hxs
  unfold c27; dsimp only [oC, oD, oF, oG, oL, oO]
  repeat' first | (with_reducible first | refine awRet ?_) | ((with_reducible refine awReg fun K hok hK => ?_); clear hok; (try simp (maxSteps := 10000000) (disch := first | omega | simp) []); (repeat' first | (with_reducible refine hK _ (by simp) ?_) | ((with_reducible refine callF' fun K2 hK2 => ?_); (try simp (maxSteps := 10000000) (disch := first | omega | simp) []); (refine hK2 _ _ _ (without_ok p.ids p.drop h.ids h.drop) fun _ => ?_); clear hK2 K2; (try simp (maxSteps := 10000000) (disch := first | omega | simp) []))) <;> clear hK K) | ((with_reducible refine awCond fun A B hA hB => ?_); simp (maxSteps := 10000000) (disch := first | omega | simp) []; (first | refine ⟨fun h => hA ?_, fun h => hB ?_⟩ | refine hA ?_ | refine hB ?_) <;> (clear hA hB A B; (try (exfalso; omega))))
  all_goals (refine aEnR (aRes [true] fun K hK => ?_); simp (maxSteps := 10000000) (disch := first | omega | simp) []; refine hK _ ?_ (by simp); clear hK; first | done | (simp (maxSteps := 10000000) (disch := first | omega | simp) [*]; done) | (simp (maxSteps := 10000000) (disch := first | omega | simp) [*]; omega) | (simp_all []; done) | (simp_all []; omega))
end
end Go.Am
end
section
namespace Go.Am
open Go
noncomputable section
theorem mem_minus {x : Int} {l g : List Int} : x ∈ minus l g ↔ x ∈ l ∧ x ∉ g := by simp [minus, List.mem_filter]
theorem minus_sub (l g : List Int) : (minus l g).Sublist l := List.filter_sublist
theorem minus_nil {l g : List Int} : minus l g = [] ↔ ∀ x ∈ l, x ∈ g := by simp [minus, List.filter_eq_nil_iff]
theorem find_range {n : Nat} {p : Nat → Bool} (h : (List.range n).find? p = none) : ∀ i, i < n → p i = false := by
  rw [List.find?_eq_none] at h
  intro i hi
  simpa using h i (List.mem_range.2 hi)
theorem nodup_take {l : List Int} (h : ∀ i (hi : i < l.length), l[i] ∉ l.take i) : l.Nodup := by
  rw [List.Nodup, List.pairwise_iff_getElem]
  intro i j hi hj hij e
  refine h j hj ?_
  rw [← e]
  exact List.mem_take_iff_getElem.2 ⟨i, by omega, rfl⟩
theorem getD_at {l : List Int} {i : Nat} (hi : i < l.length) : l.getD i 0 = l[i] := by rw [List.getD_eq_getElem?_getD, List.getElem?_eq_getElem hi]; rfl
theorem ckP_get {order ids : List Int} (h : ckP order ids = none) : 1 ≤ ids.length ∧ ids.length ≤ 7 ∧ ids.Nodup ∧ ∀ x ∈ ids, x ∈ order := by
  unfold ckP at h
  split at h
  · cases h
  · rename_i hl
    rw [Option.map_eq_none_iff] at h
    have hf := find_range h
    refine ⟨by omega, by omega, nodup_take fun i hi => ?_, fun x hx => ?_⟩
    · have := hf i hi
      simp only [ckBad, getD_at hi, Bool.or_eq_false_iff] at this
      simpa using this.2
    · obtain ⟨i, hi, rfl⟩ := List.getElem_of_mem hx
      have := hf i hi
      simp only [ckBad, getD_at hi, Bool.or_eq_false_iff] at this
      simpa using this.1
theorem dsP_get {l : List Int} (h : dsP l = none) : 1 ≤ l.length ∧ l.length ≤ 7 ∧ l.Nodup := by
  unfold dsP at h
  split at h
  · cases h
  · rename_i hl
    rw [Option.map_eq_none_iff] at h
    have hf := find_range h
    refine ⟨by omega, by omega, nodup_take fun i hi => ?_⟩
    have := hf i hi
    simp only [dsBad, getD_at hi] at this
    simpa using this
structure StartOk (m : Image) (p : Part) (t : List Int) : Prop where
  ck : ∀ x ∈ t, x ∈ p.ids ∨ x ∈ m.order
  ds : 1 ≤ t.length ∧ t.length ≤ 7 ∧ t.Nodup
  un : p.under = false
  ne : p.ids ≠ t
  le : t.length + (minus p.ids t).length ≤ 7
theorem start_ok {m : Image} {p : Part} {t : List Int} (h : m.startE p t = none) : StartOk m p t := by
  unfold Image.startE at h
  split at h
  · rename_i h1
    cases hc : ckP m.order (minus t p.ids) with
    | none => rw [hc] at h1; simp at h1
    | some b => rw [hc] at h; simp [erO] at h
  · rename_i h1
    split at h
    · rename_i h2
      cases hc : dsP t with
      | none => rw [hc] at h2; simp at h2
      | some b => rw [hc] at h; simp [erO] at h
    · rename_i h2
      split at h
      · simp [erO] at h
      · rename_i h3
        split at h
        · simp [erO] at h
        · rename_i h4
          split at h
          · simp [erO] at h
          · rename_i h5
            refine ⟨fun x hx => ?_, dsP_get (by simpa using h2), by simpa using h3, h4, by omega⟩
            by_cases hin : x ∈ p.ids
            · exact .inl hin
            · have hm : x ∈ minus t p.ids := mem_minus.2 ⟨hx, hin⟩
              have hl : 0 < (minus t p.ids).length := List.length_pos_of_mem hm
              have hc : ckP m.order (minus t p.ids) = none := by
                cases hc : ckP m.order (minus t p.ids) with
                | none => rfl
                | some b => exact absurd ⟨by rw [hc]; rfl, hl⟩ h1
              exact .inr ((ckP_get hc).2.2.2 x hm)
theorem under_nil {p : Part} : p.under = false ↔ p.add = [] ∧ p.drop = [] := by
  simp only [Part.under, Bool.or_eq_false_iff, decide_eq_false_iff_not, Nat.not_lt, Nat.le_zero_eq, List.length_eq_zero_iff]
theorem order_reg {m : Image} {n : Nat} (h : m.Inv n) (hn : n ≤ 1000) {x : Int} (hx : x ∈ m.order) : (m.broker x).isSome = true ∧ 1 ≤ x ∧ x ≤ 64 := by
  have hp := (order_perm m (by have := h.bl; omega)).mem_iff.1 hx
  obtain ⟨b, hb, rfl⟩ := List.mem_map.1 hp
  have hb := (List.mem_filter.1 hb).1
  have hbr := h.br b hb
  refine ⟨?_, by omega, by omega⟩
  unfold Image.broker
  rw [(find_srt h.bs).2 ⟨hb, rfl⟩]
  rfl
theorem brokersB_of {l : List Int} (h7 : l.length ≤ 7) (h : ∀ n ∈ l, 1 ≤ n ∧ n ≤ 64) (hn : l.Nodup) : brokersB l = true := by
  simp only [brokersB, decide_eq_true_eq]; exact ⟨h7, h, hn⟩
theorem brokersB_get {l : List Int} (h : brokersB l = true) : l.length ≤ 7 ∧ (∀ n ∈ l, 1 ≤ n ∧ n ≤ 64) ∧ l.Nodup := by
  simpa only [brokersB, decide_eq_true_eq] using h
theorem nodup_two {t l : List Int} (ht : t.Nodup) (hl : l.Nodup) : (t ++ minus l t).Nodup := by
  rw [List.nodup_append]
  exact ⟨ht, hl.sublist (minus_sub _ _), fun a ha b hb e => (mem_minus.1 hb).2 (e ▸ ha)⟩
theorem sent_next {m : Image} {n : Nat} (h : m.Inv n) (hn : n ≤ 1000) {p : Part} (hr : m.Right p) (hw : p.Rows n) {t : List Int} (hs : StartOk m p t) : m.Next p (p.sent t) := by
  have hids := brokersB_get hw.ids
  have hreg : ∀ x ∈ t, (m.broker x).isSome = true ∧ 1 ≤ x ∧ x ≤ 64 := by
    intro x hx
    rcases hs.ck x hx with h1 | h1
    · exact ⟨hr.reg x h1, (hids.2.1 x h1).1, (hids.2.1 x h1).2⟩
    · exact order_reg h hn h1
  have hpin : ∀ x ∈ p.ids, x ∈ t ++ minus p.ids t := by
    intro x hx
    by_cases hxt : x ∈ t
    · exact List.mem_append_left _ hxt
    · exact List.mem_append_right _ (mem_minus.2 ⟨hx, hxt⟩)
  have hall : ∀ x ∈ t ++ minus p.ids t, (m.broker x).isSome = true ∧ 1 ≤ x ∧ x ≤ 64 := by
    intro x hx
    rcases List.mem_append.1 hx with h1 | h1
    · exact hreg x h1
    · have h1 := (mem_minus.1 h1).1
      exact ⟨hr.reg x h1, (hids.2.1 x h1).1, (hids.2.1 x h1).2⟩
  refine ⟨⟨?_, fun x hx => (hall x hx).1, hr.isr, fun x hx => hpin x (hr.sub x hx), hr.lead, ?_, ?_⟩, ⟨?_, hw.isr, ?_, ?_, ?_, hw.le⟩, .inl ⟨rfl, rfl⟩⟩
  · intro e
    have := hs.ds
    have h3 : (p.sent t).ids.length = t.length + (minus p.ids t).length := by simp [Part.sent]
    rw [e] at h3; simp at h3; omega
  · intro x hx
    have hx := mem_minus.1 hx
    exact ⟨List.mem_append_left _ hx.1, fun hd => hx.2 (mem_minus.1 hd).1⟩
  · intro x hx
    exact List.mem_append_right _ hx
  · exact brokersB_of (by simpa [Part.sent] using hs.le) (fun x hx => (hall x hx).2) (nodup_two hs.ds.2.2 hids.2.2)
  · refine brokersB_of ?_ (fun x hx => (hreg x (mem_minus.1 hx).1).2) (hs.ds.2.2.sublist (minus_sub _ _))
    have := minus_len t p.ids; have := hs.ds; simp only [Part.sent]; omega
  · exact brokersB_sub hw.ids (minus_sub _ _)
  · have := hw.ep; simp only [Part.sent]; omega
structure Settled (m : Image) (p : Part) (g : List Int) (x : Part) : Prop where
  ids : x.ids = minus p.ids g
  isr : x.isr = minus p.isr g
  ne : x.isr ≠ []
  add : x.add = []
  drop : x.drop = []
  who : (x.leader = p.leader ∧ x.epoch = p.epoch ∧ (p.leader = 0 ∨ p.leader ∉ g)) ∨ (x.epoch = p.epoch + 1 ∧ p.leader ≠ 0 ∧ p.leader ∈ g ∧ x.leader ≠ 0 ∧ x.leader ∈ x.ids ∧ x.leader ∈ x.isr ∧ m.alive x.leader = true)
theorem settled {m : Image} {p : Part} {g : List Int} (h : (m.settle p g).2 = true) : Settled m p g (m.settle p g).1 := by
  unfold Image.settle at h ⊢
  split at h
  · cases h
  · rename_i h1
    rw [if_neg h1]
    have hne : (p.less g).isr ≠ [] := by intro e; rw [e] at h1; exact h1 rfl
    split at h
    · rename_i h2
      rw [if_pos h2]
      split at h
      · cases h
      · rename_i h3
        rw [if_neg h3]
        have hc := chooseP_spec m (p.less g) p.leader
        rcases hc with hc | ⟨c1, c2, c3, c4⟩
        · exact absurd hc h3
        · exact ⟨rfl, rfl, hne, rfl, rfl, .inr ⟨rfl, h2.1, by simpa using h2.2, h3, c1, c3, c4⟩⟩
    · rename_i h2
      rw [if_neg h2]
      refine ⟨rfl, rfl, hne, rfl, rfl, .inl ⟨rfl, rfl, ?_⟩⟩
      by_cases h0 : p.leader = 0
      · exact .inl h0
      · refine .inr fun hg => h2 ⟨h0, by simpa using hg⟩
theorem unsettled {m : Image} {p : Part} {g : List Int} (h : (m.settle p g).2 = false) : (m.settle p g).1 = p ∧ (minus p.isr g = [] ∨ (p.leader ≠ 0 ∧ p.leader ∈ g ∧ m.chooseP (p.less g) p.leader = 0)) := by
  unfold Image.settle at h ⊢
  split at h
  · rename_i h1
    rw [if_pos h1]
    exact ⟨rfl, .inl (by simpa [Part.less] using h1)⟩
  · rename_i h1
    rw [if_neg h1]
    split at h
    · rename_i h2
      rw [if_pos h2]
      split at h
      · rename_i h3
        rw [if_pos h3]
        exact ⟨rfl, .inr ⟨h2.1, by simpa using h2.2, h3⟩⟩
      · cases h
    · cases h
theorem settled_next {m : Image} {n : Nat} (hn : n ≤ 1000) {p x : Part} {g : List Int} (hr : m.Right p) (hw : p.Rows n) (h : Settled m p g x) : m.Next p x := by
  have hep := hw.ep
  have hids := brokersB_get hw.ids
  have hsub : ∀ y ∈ x.isr, y ∈ x.ids := by
    intro y hy
    rw [h.isr] at hy; rw [h.ids]
    exact mem_minus.2 ⟨hr.sub y (mem_minus.1 hy).1, (mem_minus.1 hy).2⟩
  have hreg : ∀ y ∈ x.ids, y ∈ p.ids := fun y hy => by rw [h.ids] at hy; exact (mem_minus.1 hy).1
  refine ⟨⟨?_, fun y hy => hr.reg y (hreg y hy), h.ne, hsub, ?_, ?_, ?_⟩, ⟨?_, ?_, ?_, ?_, ?_, ?_⟩, ?_⟩
  · intro e
    obtain ⟨y, hy⟩ := List.exists_mem_of_ne_nil _ h.ne
    have := hsub y hy
    rw [e] at this; cases this
  · intro hl
    rcases h.who with ⟨e1, _, h0 | h0⟩ | ⟨_, _, _, _, _, h5, h6⟩
    · rw [e1, h0] at hl; exact absurd rfl hl
    · rw [e1] at hl ⊢
      have := hr.lead hl
      exact ⟨by rw [h.isr]; exact mem_minus.2 ⟨this.1, h0⟩, this.2⟩
    · exact ⟨h5, h6⟩
  · intro y hy; rw [h.add] at hy; cases hy
  · intro y hy; rw [h.drop] at hy; cases hy
  · rw [h.ids]; exact brokersB_sub hw.ids (minus_sub _ _)
  · rw [h.isr]; exact brokersB_sub hw.isr (minus_sub _ _)
  · rw [h.add]; exact brokersB_nil
  · rw [h.drop]; exact brokersB_nil
  · rcases h.who with ⟨_, e, _⟩ | ⟨e, _⟩ <;> omega
  · rcases h.who with ⟨e, _, _⟩ | ⟨_, _, _, _, h4, _⟩
    · rw [e]; exact hw.le
    · have := hids.2.1 _ (hreg _ h4); omega
  · rcases h.who with ⟨e1, e2, _⟩ | ⟨e, _⟩
    · exact .inl ⟨e2, e1⟩
    · exact .inr e
theorem settled_same {m : Image} {p x : Part} {g : List Int} (hu : p.under = true) (h : Settled m p g x) : p.same x = false := by
  cases hc : p.same x with
  | false => rfl
  | true =>
    have e := same_eq hc
    have : p.under = false := under_nil.2 ⟨by rw [e]; exact h.add, by rw [e]; exact h.drop⟩
    rw [hu] at this; cases this
end
end Go.Am
end
section
namespace Go.Am
open Go
noncomputable section
theorem parts_mid {t : Topic} {k : Nat} {p : Part} (hk : t.parts[k]? = some p) : k < t.parts.length ∧ p ∈ t.parts ∧ t.parts = t.parts.take k ++ p :: t.parts.drop (k + 1) ∧ (t.parts.take k).length = k := by
  have hkl : k < t.parts.length := by
    rcases Nat.lt_or_ge k t.parts.length with h | h
    · exact h
    · rw [List.getElem?_eq_none h] at hk; cases hk
  have hkp : t.parts[k] = p := by rw [List.getElem?_eq_getElem hkl] at hk; simpa using hk
  refine ⟨hkl, hkp ▸ List.getElem_mem hkl, ?_, by rw [List.length_take]; omega⟩
  rw [← hkp, ← List.drop_eq_getElem_cons hkl, List.take_append_drop]
theorem finish_false {m : Image} {p : Part} (h : (m.finish p).2 = false) : (m.finish p).1 = p := by
  unfold Image.finish at h ⊢
  split at h
  · rename_i h1; rw [if_pos h1]
  · rename_i h1; rw [if_neg h1]; exact (unsettled h).1
theorem finish_true {m : Image} {p : Part} (h : (m.finish p).2 = true) : p.under = true ∧ (∀ x ∈ p.add, x ∈ p.isr) ∧ Settled m p p.drop (m.finish p).1 := by
  unfold Image.finish at h ⊢
  split at h
  · cases h
  · rename_i h1
    rw [if_neg h1]
    simp only [not_or, Bool.not_eq_false, Nat.not_lt, Nat.le_zero_eq, List.length_eq_zero_iff] at h1
    exact ⟨h1.1, minus_nil.1 h1.2, settled h⟩
theorem finish_rows {m : Image} {n : Nat} (hn : n ≤ 1000) {p : Part} (hr : m.Right p) (hw : p.Rows n) : (m.finish p).1.Rows 1000000 := by
  cases hf : (m.finish p).2 with
  | false => rw [finish_false hf]; exact ⟨hw.ids, hw.isr, hw.add, hw.drop, by have := hw.ep; omega, hw.le⟩
  | true => exact (settled_next hn hr hw (finish_true hf).2.2).rows
theorem same_refl (p : Part) : p.same p = true := by simp [Part.same]
end
end Go.Am
end
