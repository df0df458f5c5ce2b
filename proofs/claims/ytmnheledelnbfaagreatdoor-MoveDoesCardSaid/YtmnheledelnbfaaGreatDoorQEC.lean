/- Part of the proof of a law of moving. -/
import Derived.Test.YtmnheledelnbfaaGreatDoorQE3
import Derived.Test.YtmnheledelnbfaaGreatDoorQE3c
import Derived.Test.YtmnheledelnbfaaGreatDoorQE3s
import Derived.Test.YtmnheledelnbfaaGreatDoorQPU
set_option linter.all false
section
set_option maxRecDepth 100000
set_option maxHeartbeats 0
namespace Go.Am
open Go
noncomputable section
end
end Go.Am
end
section
set_option maxRecDepth 100000
set_option maxHeartbeats 0
namespace Go.Am
open Go
noncomputable section
def mixL {α : Type} (f g : α → V) (l : List α) (i : Nat) : List V := (l.take i).map f ++ (l.drop i).map g
def mixM {α : Type} (f g : α → V) (l : List α) (i : Nat) (x : V) : List V := (l.take i).map f ++ x :: (l.drop (i + 1)).map g
section
variable {α : Type} {f g : α → V} {l : List α} {i : Nat} {x : V}
@[simp] theorem mixL_get (h : i < l.length) : (mixL f g l i)[i]? = some (g l[i]) := by
  simp only [mixL]
  rw [List.getElem?_append_right (by simp; omega)]
  simp [Nat.min_eq_left (Nat.le_of_lt h), h]
theorem mixL_mod (h : i < l.length) (k : V → V) : (mixL f g l i).modify i k = mixM f g l i (k (g l[i])) := by
  simp only [mixL, mixM]
  rw [List.modify_eq_take_cons_drop (by simp; omega)]
  have hl : ((l.take i).map f).length = i := by simp; omega
  have e1 : ((l.take i).map f ++ (l.drop i).map g).take i = (l.take i).map f := by rw [← hl]; simp
  have e2 : ((l.take i).map f ++ (l.drop i).map g).drop (i + 1) = (l.drop (i + 1)).map g := by
    rw [List.drop_append, hl, List.drop_eq_nil_of_le (by rw [hl]; omega)]
    simp [List.drop_drop]
  have hmin : min i l.length = i := Nat.min_eq_left (by omega)
  rw [e1, e2, List.getElem_append_right (by omega)]
  simp [hl, hmin]
@[simp] theorem mixL_mod' (h : i < l.length) (k : V → V) : (mixL f g l i).modify i k = mixM f g l i (k (g l[i])) := mixL_mod h k
@[simp] theorem mixM_length (h : i < l.length) : (mixM f g l i x).length = l.length := by simp [mixM]; omega
@[simp] theorem mixM_get (h : i < l.length) : (mixM f g l i x)[i]? = some x := by
  simp only [mixM]
  rw [List.getElem?_append_right (by simp; omega)]
  simp [Nat.min_eq_left (Nat.le_of_lt h)]
@[simp] theorem mixM_mod (h : i < l.length) (k : V → V) : (mixM f g l i x).modify i k = mixM f g l i (k x) := by
  simp only [mixM]
  have hl : ((l.take i).map f).length = i := by simp; omega
  rw [List.modify_eq_take_cons_drop (by simp; omega)]
  have e1 : ((l.take i).map f ++ x :: (l.drop (i + 1)).map g).take i = (l.take i).map f := by rw [← hl]; simp
  have e2 : ((l.take i).map f ++ x :: (l.drop (i + 1)).map g).drop (i + 1) = (l.drop (i + 1)).map g := by
    rw [List.drop_append, hl, List.drop_eq_nil_of_le (by rw [hl]; omega)]
    simp
  have hmin : min i l.length = i := Nat.min_eq_left (by omega)
  rw [e1, e2, List.getElem_append_right (by omega)]
  simp [hl, hmin]
@[simp] theorem mixM_ge (h : i < l.length) (h' : i < (mixM f g l i x).length) : (mixM f g l i x)[i] = x := by
  have := mixM_get (f := f) (g := g) (x := x) h
  rw [List.getElem?_eq_getElem h'] at this
  exact Option.some.inj this
@[simp] theorem setCell_mixL {j : Nat} {y : V} (h : i < l.length) : (V.uq (mixL f g l i)).setCell i j y = .uq (mixM f g l i ((g l[i]).recell ((g l[i]).cells.set j y))) := by
  simp [V.setCell, V.row, V.setRow, h]
@[simp] theorem setCell_mixM {j : Nat} {y : V} (h : i < l.length) : (V.uq (mixM f g l i x)).setCell i j y = .uq (mixM f g l i (x.recell (x.cells.set j y))) := by
  simp [V.setCell, V.row, V.setRow, h]
end
def encTO (t : Topic) : V := .agg [I t.id, St t.name, .uq (t.parts.map encPO)]
@[simp] theorem encTO_eq (t : Topic) : encTO t = .agg [I t.id, St t.name, .uq (t.parts.map encPO)] := rfl
def encMO (m : Image) : V := .agg [.uq (m.brokers.map encB), .uq (m.topics.map encTO), .uq (m.configs.map encC), .uq (m.done.map encD), I m.last]
@[simp] theorem encMO_eq (m : Image) : encMO m = .agg [.uq (m.brokers.map encB), .uq (m.topics.map encTO), .uq (m.configs.map encC), .uq (m.done.map encD), I m.last] := rfl
end
end Go.Am
end
section
set_option maxRecDepth 100000
set_option maxHeartbeats 0
namespace Go.Am
open Go
noncomputable section
def c40 : SC := (.seq (.reg [oO 2 36 0,oD 4 (.assign (.const (.slice none 0 0)))] [1,2,42]) (.seq (.reg [oD 5 (.assign (.const (.slice none 0 0)))] [1,2,5,42]) (.seq (.reg [oD 6 (.assign (.func 70))] [1,2,5,6,42]) (.seq (.reg [oF 12 36 2 1,oL 13 32 12,oN 14 13 32,oD 15 (.move (.const (.int .i64 0)))] [1,2,5,6,12,13,14,15,42,44]) (.seq (.block 0 (.seq (.loop (.seq (.reg [oB 16 .lss 3 15 14 3] [1,2,5,6,12,13,14,15,16,42,44]) (.seq (.cond (.tmp 16) .skip (.exit 0)) (.seq (.block 1 (.seq (.reg [oJ 17 32 13 15,oL 18 51 17,oA 8 51,oS 51 8 18] [1,2,5,6,8,12,13,14,15,42,44]) (.seq (.reg [oF 19 51 8 2,oL 20 49 19,oN 21 20 49,oD 22 (.move (.const (.int .i64 0)))] [1,2,5,6,8,12,13,14,15,19,20,21,22,42,43,44]) (.seq (.block 2 (.seq (.loop (.seq (.reg [oB 23 .lss 3 22 21 3] [1,2,5,6,8,12,13,14,15,19,20,21,22,23,42,43,44]) (.seq (.cond (.tmp 23) .skip (.exit 2)) (.seq (.block 3 (.seq (.reg [oM 24 22,oJ 25 49 20 22,oL 26 53 25,oA 10 53,oG 9 24,oS 53 10 26] [1,2,5,6,8,9,10,12,13,14,15,19,20,21,22,24,42,43,44]) (.seq (.reg [oM 27 1,oL 28 53 10,oD 29 (.call { callee := .value (.tmp 27),args := #[.tmp 28],argTypes := #[53] }),oA 11 53,oS 53 11 29] [1,2,5,6,8,9,10,11,12,13,14,15,19,20,21,22,24,42,43,44]) (.seq (.reg [oM 30 6,oL 31 53 10,oL 32 53 11,oD 33 (.call { callee := .value (.tmp 30),args := #[.tmp 31,.tmp 32],argTypes := #[53,53] }),oD 34 (.unOp .not 4 (.tmp 33))] [1,2,5,6,8,9,11,12,13,14,15,19,20,21,22,24,34,42,43,44]) (.seq (.cond (.tmp 34) (.seq (.reg [oM 35 5,oF 36 51 8 0,oL 37 3 36,oM 38 9,oL 39 53 11,oC 40 35 #[.tmp 37,.tmp 38,.tmp 39] #[3,3,53],oD 41 (.buildSlice 22 1 #[(0,.tmp 40)]),oP 42 #[.tmp 35,.tmp 41] #[22,22],oG 5 42] [1,2,5,6,8,12,13,14,15,19,20,21,22,42,43,44]) .skip) .skip) .skip))))) (.seq (.reg [oK 43 .add 3 22 1 3,oM 22 43] [1,2,5,6,8,12,13,14,15,19,20,21,22,42,43,44]) .skip))))) .skip)) .skip)))) (.seq (.reg [oK 44 .add 3 15 1 3,oM 15 44] [1,2,5,6,12,13,14,15,42,44]) .skip))))) .skip)) (.seq (.reg [oM 45 5,oG 4 45] [4,5,42,45]) .ret))))))
theorem s40 : TextK Proofs.Tryz.prog 0 40 46 [ResultVar.tmp 4] c40 := .mk' Proofs.Tryz.f40 _ (by kernel_rfl) rfl rfl rfl (by kernel_rfl) rfl (by kernel_rfl)
@[simp] theorem pvL_R (l : List Record) : pvL (l.map encR) = l.map encR := by rw [pvL_eq]; simp
structure Image.Sml (m : Image) : Prop where
  tl : m.topics.length ≤ 1000
  pl : ∀ t ∈ m.topics, t.parts.length ≤ 1000
  ps : ∀ t ∈ m.topics, ∀ p ∈ t.parts, p.Small
theorem eall_ok (m : Image) (fid : FuncId) (caps : List V) (hp : pureL caps = true) (F : Part → Part) (hF : ∀ t ∈ m.topics, ∀ p ∈ t.parts, ACall pg fid ([encP p] ++ caps) (encP (F p))) (hm : m.Sml) (hS : ∀ t ∈ m.topics, ∀ p ∈ t.parts, (F p).Small) :
    ACall pg 40 [encM m, .clo fid caps] (.sl ((m.changes F).map encR)) := by
  refine s40.call mo (by simp) fun hxs => ?_
  clear hxs
  have hv := pvL_pure caps hp
  have htl := hm.tl
  unfold c40; dsimp only [oA, oB, oC, oD, oF, oG, oJ, oK, oL, oM, oN, oO, oP, oS]
  repeat' first | (with_reducible first | refine thN ?_ | refine thE ?_ | refine inN ?_ | refine inH ?_ | refine fS ?_ | refine fR ?_ | refine fQ ?_ | refine fE ?_ | refine awBlock ?_ | refine awExit ?_ | refine awRet ?_ | refine awSkip ?_) | ((with_reducible refine awReg fun K hok hK => ?_); clear hok; (try simp (maxSteps := 10000000) (disch := first | omega | simp) [hp, hv]); (repeat' first | (with_reducible refine hK _ (by simp) ?_)) <;> clear hK K) | ((with_reducible refine awCond fun A B hA hB => ?_); simp (maxSteps := 10000000) (disch := first | omega | simp) [hp, hv]; (first | refine ⟨fun h => hA ?_, fun h => hB ?_⟩ | refine hA ?_ | refine hB ?_) <;> (clear hA hB A B; (try (exfalso; omega))))
  refine awFor m.topics.length (fun i (s : List Record) => s ++ (m.topics.drop i).flatMap (fun t => changesT F t.id t.parts 0) = m.changes F ∧ s.length ≤ i * 1000) (fun i s => [(15, .p (I i)), (14, .p (I m.topics.length)), (13, .p (.sl (m.topics.map encT))), (6, .p (.clo 70 [])), (5, .p (.uq (s.map encR))), (1, .p (.clo fid caps))]) [] (Wk.ofA (by simp)) ⟨rfl, by simp⟩ fun i s hi hs => ?_
  obtain ⟨hs, hsl⟩ := hs
  by_cases hlt : i < m.topics.length
  · rw [drop_cons hlt, List.flatMap_cons] at hs
    have htm := List.getElem_mem hlt
    have hpl := hm.pl _ htm
    repeat' first | (with_reducible first | refine thN ?_ | refine thE ?_ | refine inN ?_ | refine inH ?_ | refine fS ?_ | refine fR ?_ | refine fQ ?_ | refine fE ?_ | refine awBlock ?_ | refine awExit ?_ | refine awRet ?_ | refine awSkip ?_) | ((with_reducible refine awReg fun K hok hK => ?_); clear hok; (try simp (maxSteps := 10000000) (disch := first | omega | simp) [hp, hv]); (repeat' first | (with_reducible refine hK _ (by simp) ?_)) <;> clear hK K) | ((with_reducible refine awCond fun A B hA hB => ?_); simp (maxSteps := 10000000) (disch := first | omega | simp) [hp, hv]; (first | refine ⟨fun h => hA ?_, fun h => hB ?_⟩ | refine hA ?_ | refine hB ?_) <;> (clear hA hB A B; (try (exfalso; omega))))
    refine awFor m.topics[i].parts.length (fun k (s : List Record) => s ++ (changesT F m.topics[i].id (m.topics[i].parts.drop k) k ++ (m.topics.drop (i + 1)).flatMap (fun t => changesT F t.id t.parts 0)) = m.changes F ∧ s.length ≤ i * 1000 + k) (fun k s => [(22, .p (I k)), (21, .p (I m.topics[i].parts.length)), (20, .p (.sl (m.topics[i].parts.map encP))), (8, .p (.own (encT m.topics[i]).cells)), (15, .p (I i)), (14, .p (I m.topics.length)), (13, .p (.sl (m.topics.map encT))), (6, .p (.clo 70 [])), (5, .p (.uq (s.map encR))), (1, .p (.clo fid caps))]) s (Wk.ofA (by simp)) ⟨hs, by omega⟩ fun k s2 hk hs2 => ?_
    obtain ⟨hs2, hs2l⟩ := hs2
    by_cases hkt : k < m.topics[i].parts.length
    · rw [drop_cons hkt] at hs2
      simp only [changesT] at hs2
      have hpm := List.getElem_mem hkt
      have hf := hF _ htm _ hpm
      have h1 := hm.ps _ htm _ hpm
      have h2 := hS _ htm _ hpm
      repeat' first | (with_reducible first | refine thN ?_ | refine thE ?_ | refine inN ?_ | refine inH ?_ | refine fS ?_ | refine fR ?_ | refine fQ ?_ | refine fE ?_ | refine awBlock ?_ | refine awExit ?_ | refine awRet ?_ | refine awSkip ?_) | ((with_reducible refine awReg fun K hok hK => ?_); clear hok; (try simp (maxSteps := 10000000) (disch := first | omega | simp) [hp, hv]); (repeat' first | (with_reducible refine hK _ (by simp) ?_) | ((first | ((with_reducible refine callF' fun K2 hK2 => ?_); (try simp (maxSteps := 10000000) (disch := first | omega | simp) [hp, hv]); (first | refine hK2 _ _ _ hf fun _ => ?_ | refine hK2 _ _ _ (same_ok _ _ h1 h2) fun _ => ?_ | refine hK2 _ _ _ (change_ok m.topics[i].id k _ h2) fun _ => ?_); clear hK2 K2) | ((with_reducible refine callCS' fun K2 hK2 => ?_); (try simp (maxSteps := 10000000) (disch := first | omega | simp) [hp, hv]); (first | refine hK2 _ _ _ _ hf rfl fun hk9 => ?_ | refine hK2 _ _ _ _ (same_ok _ _ h1 h2) rfl fun hk9 => ?_ | refine hK2 _ _ _ _ (change_ok m.topics[i].id k _ h2) rfl fun hk9 => ?_); clear hk9; clear hK2 K2) | ((with_reducible refine callC' fun K2 hK2 => ?_); (try simp (maxSteps := 10000000) (disch := first | omega | simp) [hp, hv]); (first | refine hK2 _ _ _ _ _ hf fun _ => ?_ | refine hK2 _ _ _ _ _ (same_ok _ _ h1 h2) fun _ => ?_ | refine hK2 _ _ _ _ _ (change_ok m.topics[i].id k _ h2) fun _ => ?_); clear hK2 K2)); (try simp (maxSteps := 10000000) (disch := first | omega | simp) [hp, hv]))) <;> clear hK K) | ((with_reducible refine awCond fun A B hA hB => ?_); simp (maxSteps := 10000000) (disch := first | omega | simp) [hp, hv]; (first | refine ⟨fun h => hA ?_, fun h => hB ?_⟩ | refine hA ?_ | refine hB ?_) <;> (clear hA hB A B; (try (exfalso; omega))))
      all_goals first
        | (rw [if_pos (by assumption)] at hs2
           (refine ⟨?_, s2, ?_, Wk.ofA ?_⟩; assumption; rotate_left; focus (simp []; done))
           exact ⟨hs2, by omega⟩)
        | (rw [if_neg (by simpa using ‹_›)] at hs2
           (refine ⟨?_, s2 ++ [change m.topics[i].id k (F m.topics[i].parts[k])], ?_, Wk.ofA ?_⟩; assumption; rotate_left; focus (simp []; done))
           constructor
           · rw [← hs2]; simp
           · simp; omega)
    · rw [drop_nil (by omega)] at hs2
      simp only [changesT, List.nil_append] at hs2
      repeat' first | (with_reducible first | refine thN ?_ | refine thE ?_ | refine inN ?_ | refine inH ?_ | refine fS ?_ | refine fR ?_ | refine fQ ?_ | refine fE ?_ | refine awBlock ?_ | refine awExit ?_ | refine awRet ?_ | refine awSkip ?_) | ((with_reducible refine awReg fun K hok hK => ?_); clear hok; (try simp (maxSteps := 10000000) (disch := first | omega | simp) [hp, hv]); (repeat' first | (with_reducible refine hK _ (by simp) ?_)) <;> clear hK K) | ((with_reducible refine awCond fun A B hA hB => ?_); simp (maxSteps := 10000000) (disch := first | omega | simp) [hp, hv]; (first | refine ⟨fun h => hA ?_, fun h => hB ?_⟩ | refine hA ?_ | refine hB ?_) <;> (clear hA hB A B; (try (exfalso; omega))))
      (refine ⟨?_, s2, ?_, Wk.ofA ?_⟩; assumption; rotate_left; focus (simp []; done))
      exact ⟨hs2, by omega⟩
  · rw [drop_nil (by omega)] at hs
    simp only [List.flatMap_nil, List.append_nil] at hs
    repeat' first | (with_reducible first | refine thN ?_ | refine thE ?_ | refine inN ?_ | refine inH ?_ | refine fS ?_ | refine fR ?_ | refine fQ ?_ | refine fE ?_ | refine awBlock ?_ | refine awExit ?_ | refine awRet ?_ | refine awSkip ?_) | ((with_reducible refine awReg fun K hok hK => ?_); clear hok; (try simp (maxSteps := 10000000) (disch := first | omega | simp) [hp, hv]); (repeat' first | (with_reducible refine hK _ (by simp) ?_)) <;> clear hK K) | ((with_reducible refine awCond fun A B hA hB => ?_); simp (maxSteps := 10000000) (disch := first | omega | simp) [hp, hv]; (first | refine ⟨fun h => hA ?_, fun h => hB ?_⟩ | refine hA ?_ | refine hB ?_) <;> (clear hA hB A B; (try (exfalso; omega))))
    subst hs
    (refine aEnR (aRes [true] fun K hK => ?_); simp (maxSteps := 10000000) (disch := first | omega | simp) []; refine hK _ ?_ (by simp); clear hK; first | done | (simp (maxSteps := 10000000) (disch := first | omega | simp) [*]; done) | (simp (maxSteps := 10000000) (disch := first | omega | simp) [*]; omega) | (simp_all []; done) | (simp_all []; omega))
end
end Go.Am
end
