/- Part of the proof of a law of placing. -/
import Derived.Test.YteijffflinnccaaQE6
set_option linter.all false
set_option maxRecDepth 100000
set_option maxHeartbeats 0
namespace Go.Am
open Go
noncomputable section
def c67 : SC := (.seq (.reg [⟨some 1, .box 30 (.tmp 0), none, []⟩,
  ⟨some 2, .alloc 30, none, []⟩] [1, 2]) (.seq (.reg [⟨some 6, .fieldAddr 30 (.tmp 1) 0, none, [9, 10, 12, 13]⟩,
  ⟨some 7, .load 25 (.tmp 6), none, [9, 10, 12, 13]⟩,
  ⟨some 8, .call { callee := .value (.func 128), args := #[.tmp 7], argTypes := #[25] }, none, [9, 10, 12, 13]⟩,
  ⟨some 9, .fieldAddr 30 (.tmp 1) 2, none, [6, 7, 8, 12, 13]⟩,
  ⟨some 10, .load 27 (.tmp 9), none, [6, 7, 8, 12, 13]⟩,
  ⟨some 11, .call { callee := .value (.func 129), args := #[.tmp 10], argTypes := #[27] }, none, [12, 13, 15]⟩,
  ⟨some 12, .fieldAddr 30 (.tmp 1) 3, none, [6, 7, 8, 9, 10, 11]⟩,
  ⟨some 13, .load 28 (.tmp 12), none, [6, 7, 8, 9, 10, 11]⟩,
  ⟨some 14, .call { callee := .value (.func 94), args := #[.tmp 13], argTypes := #[28] }, none, [15]⟩,
  ⟨some 15, .fieldAddr 30 (.tmp 1) 0, none, [11, 14]⟩,
  ⟨none, .store 25 (.tmp 15) (.tmp 8), none, []⟩,
  ⟨some 16, .fieldAddr 30 (.tmp 1) 2, none, []⟩,
  ⟨none, .store 27 (.tmp 16) (.tmp 11), none, []⟩,
  ⟨some 17, .fieldAddr 30 (.tmp 1) 3, none, []⟩,
  ⟨none, .store 28 (.tmp 17) (.tmp 14), none, []⟩] [1, 2]) (.seq (.reg [⟨some 18, .fieldAddr 30 (.tmp 1) 1, none, []⟩,
  ⟨some 19, .load 26 (.tmp 18), none, []⟩,
  ⟨some 20, .call { callee := .value (.func 130), args := #[.tmp 19], argTypes := #[26] }, none, []⟩,
  ⟨some 21, .fieldAddr 30 (.tmp 1) 1, none, []⟩,
  ⟨none, .store 26 (.tmp 21) (.tmp 20), none, []⟩] [1, 2]) (.seq (.reg [⟨some 22, .fieldAddr 30 (.tmp 1) 1, none, []⟩,
  ⟨some 23, .load 26 (.tmp 22), none, []⟩,
  ⟨some 24, .call { callee := .builtin .len, args := #[.tmp 23], argTypes := #[26] }, none, []⟩,
  ⟨some 25, .move (.const (.int .i64 0)), none, []⟩] [1, 2, 24, 25, 63]) (.seq (.block 0 (.seq (.loop (.seq (.reg [⟨some 26, .binOp .lss 3 (.tmp 25) (.tmp 24) 3, none, []⟩] [1, 2, 24, 25, 26, 63]) (.seq (.cond (.tmp 26) .skip (.exit 0)) (.seq (.block 1 (.seq (.reg [⟨some 27, .move (.tmp 25), none, []⟩,
  ⟨some 3, .assign (.tmp 27), none, []⟩] [1, 2, 3, 24, 25, 27, 63]) (.seq (.reg [⟨some 28, .fieldAddr 30 (.tmp 1) 1, none, []⟩,
  ⟨some 29, .load 26 (.tmp 28), none, []⟩,
  ⟨some 30, .move (.tmp 3), none, []⟩,
  ⟨some 31, .indexAddr 26 (.tmp 29) (.tmp 30), none, []⟩,
  ⟨some 4, .assign (.tmp 31), none, []⟩] [1, 2, 3, 4, 24, 25, 27, 28, 29, 30, 31, 63]) (.seq (.reg [⟨some 32, .move (.tmp 4), none, []⟩,
  ⟨some 33, .move (.tmp 4), none, []⟩,
  ⟨some 34, .nilCheck (.tmp 33), none, []⟩,
  ⟨some 35, .fieldAddr 46 (.tmp 34) 2, none, []⟩,
  ⟨some 36, .load 44 (.tmp 35), none, []⟩,
  ⟨some 37, .call { callee := .value (.func 131), args := #[.tmp 36], argTypes := #[44] }, none, []⟩,
  ⟨some 38, .nilCheck (.tmp 32), none, []⟩,
  ⟨some 39, .fieldAddr 46 (.tmp 38) 2, none, []⟩,
  ⟨none, .store 44 (.tmp 39) (.tmp 37), none, []⟩] [1, 2, 3, 4, 24, 25, 27, 28, 29, 30, 31, 63]) (.seq (.reg [⟨some 40, .move (.tmp 4), none, []⟩,
  ⟨some 41, .nilCheck (.tmp 40), none, []⟩,
  ⟨some 42, .fieldAddr 46 (.tmp 41) 2, none, []⟩,
  ⟨some 43, .load 44 (.tmp 42), none, []⟩,
  ⟨some 44, .call { callee := .builtin .len, args := #[.tmp 43], argTypes := #[44] }, none, []⟩,
  ⟨some 45, .move (.const (.int .i64 0)), none, []⟩] [1, 2, 3, 4, 24, 25, 27, 28, 29, 30, 31, 44, 45, 62, 63]) (.seq (.block 2 (.seq (.loop (.seq (.reg [⟨some 46, .binOp .lss 3 (.tmp 45) (.tmp 44) 3, none, []⟩] [1, 2, 3, 4, 24, 25, 27, 28, 29, 30, 31, 44, 45, 46, 62, 63]) (.seq (.cond (.tmp 46) .skip (.exit 2)) (.seq (.block 3 (.seq (.reg [⟨some 47, .move (.tmp 45), none, []⟩,
  ⟨some 5, .assign (.tmp 47), none, []⟩] [1, 2, 3, 4, 5, 24, 25, 27, 28, 29, 30, 31, 44, 45, 47, 62, 63]) (.seq (.reg [⟨some 48, .move (.tmp 4), none, [52, 53, 54, 55, 56, 57, 58, 59, 60]⟩,
  ⟨some 49, .nilCheck (.tmp 48), none, [52, 53, 54, 55, 56, 57, 58, 59, 60]⟩,
  ⟨some 50, .fieldAddr 46 (.tmp 49) 2, none, [52, 53, 54, 55, 56, 57, 58, 59, 60]⟩,
  ⟨some 51, .load 44 (.tmp 50), none, [52, 53, 54, 55, 56, 57, 58, 59, 60]⟩,
  ⟨some 52, .move (.tmp 5), none, [48, 49, 50, 51, 53, 54, 55, 56, 57, 58, 59, 60]⟩,
  ⟨some 53, .move (.tmp 4), none, [48, 49, 50, 51, 52, 57]⟩,
  ⟨some 54, .nilCheck (.tmp 53), none, [48, 49, 50, 51, 52, 57]⟩,
  ⟨some 55, .fieldAddr 46 (.tmp 54) 2, none, [48, 49, 50, 51, 52, 57]⟩,
  ⟨some 56, .load 44 (.tmp 55), none, [48, 49, 50, 51, 52, 57]⟩,
  ⟨some 57, .move (.tmp 5), none, [48, 49, 50, 51, 52, 53, 54, 55, 56]⟩,
  ⟨some 58, .indexAddr 44 (.tmp 56) (.tmp 57), none, [48, 49, 50, 51, 52]⟩,
  ⟨some 59, .load 48 (.tmp 58), none, [48, 49, 50, 51, 52]⟩,
  ⟨some 60, .call { callee := .value (.func 72), args := #[.tmp 59], argTypes := #[48] }, none, [48, 49, 50, 51, 52]⟩,
  ⟨some 61, .indexAddr 44 (.tmp 51) (.tmp 52), none, []⟩,
  ⟨none, .store 48 (.tmp 61) (.tmp 60), none, []⟩] [1, 2, 3, 4, 24, 25, 27, 28, 29, 30, 31, 44, 45, 62, 63]) .skip))) (.seq (.reg [⟨some 62, .binOp .add 3 (.tmp 45) (.const (.int .i64 1)) 3, none, []⟩,
  ⟨some 45, .move (.tmp 62), none, []⟩] [1, 2, 3, 4, 24, 25, 27, 28, 29, 30, 31, 44, 45, 62, 63]) .skip))))) .skip)) .skip)))))) (.seq (.reg [⟨some 63, .binOp .add 3 (.tmp 25) (.const (.int .i64 1)) 3, none, []⟩,
  ⟨some 25, .move (.tmp 63), none, []⟩] [1, 2, 24, 25, 63]) .skip))))) .skip)) (.seq (.reg [⟨some 64, .load 30 (.tmp 1), none, []⟩,
  ⟨none, .store 30 (.tmp 2) (.tmp 64), none, []⟩] [2]) .ret))))))
theorem s67 : TextK Proofs.Try.prog 0 67 65 [ResultVar.cell 2 30] c67 := .mk' Proofs.Try.f67 _ (by kernel_rfl) rfl rfl rfl (by kernel_rfl) rfl (by kernel_rfl)
def mixL {α : Type} (f g : α → V) (l : List α) (i : Nat) : List V := (l.take i).map f ++ (l.drop i).map g
def mixM {α : Type} (f g : α → V) (l : List α) (i : Nat) (x : V) : List V := (l.take i).map f ++ x :: (l.drop (i + 1)).map g
section
variable {α : Type} {f g : α → V} {l : List α} {i : Nat} {x : V}
@[simp] theorem mixL_zero : mixL f g l 0 = l.map g := by simp [mixL]
@[simp] theorem mixL_len : mixL f g l l.length = l.map f := by simp [mixL]
@[simp] theorem mixL_length (h : i ≤ l.length) : (mixL f g l i).length = l.length := by simp [mixL]; omega
@[simp] theorem mixL_get (h : i < l.length) : (mixL f g l i)[i]? = some (g l[i]) := by
  simp only [mixL]
  rw [List.getElem?_append_right (by simp; omega)]
  simp [Nat.min_eq_left (Nat.le_of_lt h), h]
theorem mixL_mod (h : i < l.length) (k : V → V) : (mixL f g l i).modify i k = mixM f g l i (k (g l[i])) := by
  simp only [mixL, mixM]
  rw [List.modify_eq_take_cons_drop (by simp; omega)]
  have hl : ((l.take i).map f).length = i := by simp; omega
  have e1 : ((l.take i).map f ++ (l.drop i).map g).take i = (l.take i).map f := by rw [← hl]; simp
  have e2 : ((l.take i).map f ++ (l.drop i).map g).drop (i + 1) = (l.drop (i + 1)).map g := by
    rw [List.drop_append, hl, List.drop_eq_nil_of_le (by rw [hl]; omega)]
    simp [List.drop_drop]
  have hmin : min i l.length = i := Nat.min_eq_left (by omega)
  rw [e1, e2, List.getElem_append_right (by omega)]
  simp [hl, hmin]
@[simp] theorem mixL_mod' (h : i < l.length) (k : V → V) : (mixL f g l i).modify i k = mixM f g l i (k (g l[i])) := mixL_mod h k
@[simp] theorem mixM_length (h : i < l.length) : (mixM f g l i x).length = l.length := by simp [mixM]; omega
@[simp] theorem mixM_get (h : i < l.length) : (mixM f g l i x)[i]? = some x := by
  simp only [mixM]
  rw [List.getElem?_append_right (by simp; omega)]
  simp [Nat.min_eq_left (Nat.le_of_lt h)]
@[simp] theorem mixM_mod (h : i < l.length) (k : V → V) : (mixM f g l i x).modify i k = mixM f g l i (k x) := by
  simp only [mixM]
  have hl : ((l.take i).map f).length = i := by simp; omega
  rw [List.modify_eq_take_cons_drop (by simp; omega)]
  have e1 : ((l.take i).map f ++ x :: (l.drop (i + 1)).map g).take i = (l.take i).map f := by rw [← hl]; simp
  have e2 : ((l.take i).map f ++ x :: (l.drop (i + 1)).map g).drop (i + 1) = (l.drop (i + 1)).map g := by
    rw [List.drop_append, hl, List.drop_eq_nil_of_le (by rw [hl]; omega)]
    simp
  have hmin : min i l.length = i := Nat.min_eq_left (by omega)
  rw [e1, e2, List.getElem_append_right (by omega)]
  simp [hl, hmin]
theorem mixM_next (h : i < l.length) : mixM f g l i (f l[i]) = mixL f g l (i + 1) := by
  simp only [mixM, mixL]
  rw [List.take_add_one, List.getElem?_eq_getElem h]
  simp only [Option.toList_some, List.map_append, List.map_cons, List.map_nil, List.append_assoc, List.cons_append, List.nil_append]
@[simp] theorem mixM_ge (h : i < l.length) (h' : i < (mixM f g l i x).length) : (mixM f g l i x)[i] = x := by
  have := mixM_get (f := f) (g := g) (x := x) h
  rw [List.getElem?_eq_getElem h'] at this
  exact Option.some.inj this
@[simp] theorem mixL_ge (h : i < l.length) (h' : i < (mixL f g l i).length) : (mixL f g l i)[i] = g l[i] := by
  have := mixL_get (f := f) (g := g) h
  rw [List.getElem?_eq_getElem h'] at this
  exact Option.some.inj this
@[simp] theorem setCell_mixL {j : Nat} {y : V} (h : i < l.length) : (V.uq (mixL f g l i)).setCell i j y = .uq (mixM f g l i ((g l[i]).recell ((g l[i]).cells.set j y))) := by
  simp [V.setCell, V.row, V.setRow, h]
@[simp] theorem setCell_mixM {j : Nat} {y : V} (h : i < l.length) : (V.uq (mixM f g l i x)).setCell i j y = .uq (mixM f g l i (x.recell (x.cells.set j y))) := by
  simp [V.setCell, V.row, V.setRow, h]
@[simp] theorem mixL_cells {n : Nat} (h1 : ∀ a, (f a).cells.length = n) (h2 : ∀ a, (g a).cells.length = n) : lenL n (mixL f g l i) = True := by simp [mixL, h1, h2]
end
def encTO (t : Topic) : V := .agg [I t.id, St t.name, .uq (t.parts.map encPO)]
@[simp] theorem encTO_eq (t : Topic) : encTO t = .agg [I t.id, St t.name, .uq (t.parts.map encPO)] := rfl
def encMO (m : Image) : V := .agg [.uq (m.brokers.map encB), .uq (m.topics.map encTO), .uq (m.configs.map encC), .uq (m.done.map encD), I m.last]
@[simp] theorem encMO_eq (m : Image) : encMO m = .agg [.uq (m.brokers.map encB), .uq (m.topics.map encTO), .uq (m.configs.map encC), .uq (m.done.map encD), I m.last] := rfl
theorem copy_ok (m : Image) (hm : m.Pre) (hp : ∀ t ∈ m.topics, ∀ p ∈ t.parts, p.Small) : ACall pg 67 [encM m] (encMO m) := by
  refine s67.call mo (by simp) fun hxs => ?_
  clear hxs
  have hbl := hm.bl
  have htl := hm.tl
  have hcl := hm.cl
  have hdl := hm.dl
  unfold c67
  repeat' first
      | (with_reducible first | refine thN ?_ | refine thR ?_ | refine thE ?_ | refine inN ?_ | refine inR ?_ | refine inH ?_ | refine fF ?_ | refine fS ?_ | refine fR ?_ | refine fQ ?_ | refine fC ?_ | refine fB ?_ | refine fL ?_ | refine fE ?_ | refine fT ?_ | refine awBlock ?_ | refine awExit ?_ | refine awRet ?_ | refine awSkip ?_ | refine inM (by decide) ?_)
      | ((with_reducible refine awReg fun K hok hK => ?_); clear hok; (try simp (maxSteps := 10000000) (disch := first | omega | simp) []); (repeat' first
          | (with_reducible refine hK _ (by simp) ?_)
          | ((with_reducible refine gdT (fun h => ?_) (fun h => ?_)) <;> (simp (maxSteps := 10000000) (disch := first | omega | simp) [h]; (try simp at h); (try (exfalso; omega))))
          | ((with_reducible refine gdF (fun h => ?_) (fun h => ?_)) <;> (simp (maxSteps := 10000000) (disch := first | omega | simp) [h]; (try simp at h); (try (exfalso; omega))))
          | ((with_reducible refine callS' fun K2 hK2 => ?_); (try simp (maxSteps := 10000000) (disch := first | omega | simp) []); (first | (refine hK2 _ _ (cloneB_ok m.brokers (by omega)) rfl fun hk9 => ?_; clear hk9) | (refine hK2 _ _ (cloneT_ok m.topics (by omega)) rfl fun hk9 => ?_; clear hk9) | (refine hK2 _ _ (cloneC_ok m.configs (by omega)) rfl fun hk9 => ?_; clear hk9) | (refine hK2 _ _ (cloneD_ok m.done (by omega)) rfl fun hk9 => ?_; clear hk9)); clear hK2 K2; (try simp (maxSteps := 10000000) (disch := first | omega | simp) []))
          | ((with_reducible refine callF' fun K2 hK2 => ?_); (try simp (maxSteps := 10000000) (disch := first | omega | simp) []); (first | refine hK2 _ _ _ (cloneB_ok m.brokers (by omega)) fun _ => ?_ | refine hK2 _ _ _ (cloneT_ok m.topics (by omega)) fun _ => ?_ | refine hK2 _ _ _ (cloneC_ok m.configs (by omega)) fun _ => ?_ | refine hK2 _ _ _ (cloneD_ok m.done (by omega)) fun _ => ?_); clear hK2 K2; (try simp (maxSteps := 10000000) (disch := first | omega | simp) []))
          | ((with_reducible refine sideS' fun K2 hK2 => ?_); (try simp (maxSteps := 10000000) (disch := first | omega | simp) []); (first | refine hK2 _ _ (cloneB_ok m.brokers (by omega)) rfl ?_ | refine hK2 _ _ (cloneT_ok m.topics (by omega)) rfl ?_ | refine hK2 _ _ (cloneC_ok m.configs (by omega)) rfl ?_ | refine hK2 _ _ (cloneD_ok m.done (by omega)) rfl ?_); clear hK2 K2; (try simp (maxSteps := 10000000) (disch := first | omega | simp) []))
          | ((with_reducible refine sideF' fun K2 hK2 => ?_); (try simp (maxSteps := 10000000) (disch := first | omega | simp) []); (first | refine hK2 _ _ _ (cloneB_ok m.brokers (by omega)) (by simp) ?_ | refine hK2 _ _ _ (cloneT_ok m.topics (by omega)) (by simp) ?_ | refine hK2 _ _ _ (cloneC_ok m.configs (by omega)) (by simp) ?_ | refine hK2 _ _ _ (cloneD_ok m.done (by omega)) (by simp) ?_); clear hK2 K2; (try simp (maxSteps := 10000000) (disch := first | omega | simp) []))
          | ((with_reducible refine sideSt' fun K2 hK2 => ?_); (try simp (maxSteps := 10000000) (disch := first | omega | simp) []); refine hK2 _ ?_; clear hK2 K2; (try simp (maxSteps := 10000000) (disch := first | omega | simp) []))
          | ((with_reducible refine gdU ?_); (try simp (maxSteps := 10000000) (disch := first | omega | simp) []))
          | ((with_reducible refine sideQ' ?_ ?_ fun K2 hK2 => ?_); exact rfl; exact rfl; (try simp (maxSteps := 10000000) (disch := first | omega | simp) []); with_reducible refine hK2 _ _ ?_; clear hK2 K2; (try simp (maxSteps := 10000000) (disch := first | omega | simp) []))
          | ((with_reducible refine side' ?_ fun K2 hK2 => ?_); exact rfl; (try simp (maxSteps := 10000000) (disch := first | omega | simp) []); refine hK2 _ _ (by simp) ?_; clear hK2 K2; (try simp (maxSteps := 10000000) (disch := first | omega | simp) []))) <;> clear hK K)
      | ((with_reducible refine awCond fun A B hA hB => ?_); simp (maxSteps := 10000000) (disch := first | omega | simp) []; (first | refine ⟨fun h => hA ?_, fun h => hB ?_⟩ | refine hA ?_ | refine hB ?_) <;> (clear hA hB A B; (try (exfalso; omega))))
  refine awFor m.topics.length (fun i (_ : Unit) => True) (fun i _ => [(25, .p (I i)), (24, .p (I m.topics.length)), (2, .p (.own [.uq [], .uq [], .uq [], .uq [], I 0])), (1, .p (.own [.uq (m.brokers.map encB), .uq (mixL encTO encT m.topics i), .uq (m.configs.map encC), .uq (m.done.map encD), I m.last]))]) () (Wk.ofA (by simp)) trivial fun i _ hi _ => ?_
  by_cases hlt : i < m.topics.length
  · have htm := List.getElem_mem hlt
    have hpl := hm.pl _ htm
    repeat' first
        | (with_reducible first | refine thN ?_ | refine thR ?_ | refine thE ?_ | refine inN ?_ | refine inR ?_ | refine inH ?_ | refine fF ?_ | refine fS ?_ | refine fR ?_ | refine fQ ?_ | refine fC ?_ | refine fB ?_ | refine fL ?_ | refine fE ?_ | refine fT ?_ | refine awBlock ?_ | refine awExit ?_ | refine awRet ?_ | refine awSkip ?_ | refine inM (by decide) ?_)
        | ((with_reducible refine awReg fun K hok hK => ?_); clear hok; (try simp (maxSteps := 10000000) (disch := first | omega | simp) []); (repeat' first
            | (with_reducible refine hK _ (by simp) ?_)
            | ((with_reducible refine gdT (fun h => ?_) (fun h => ?_)) <;> (simp (maxSteps := 10000000) (disch := first | omega | simp) [h]; (try simp at h); (try (exfalso; omega))))
            | ((with_reducible refine gdF (fun h => ?_) (fun h => ?_)) <;> (simp (maxSteps := 10000000) (disch := first | omega | simp) [h]; (try simp at h); (try (exfalso; omega))))
            | ((with_reducible refine callS' fun K2 hK2 => ?_); (try simp (maxSteps := 10000000) (disch := first | omega | simp) []); (first | (refine hK2 _ _ (cloneP_ok m.topics[i].parts (by omega)) rfl fun hk9 => ?_; clear hk9)); clear hK2 K2; (try simp (maxSteps := 10000000) (disch := first | omega | simp) []))
            | ((with_reducible refine callF' fun K2 hK2 => ?_); (try simp (maxSteps := 10000000) (disch := first | omega | simp) []); (first | refine hK2 _ _ _ (cloneP_ok m.topics[i].parts (by omega)) fun _ => ?_); clear hK2 K2; (try simp (maxSteps := 10000000) (disch := first | omega | simp) []))
            | ((with_reducible refine sideS' fun K2 hK2 => ?_); (try simp (maxSteps := 10000000) (disch := first | omega | simp) []); (first | refine hK2 _ _ (cloneP_ok m.topics[i].parts (by omega)) rfl ?_); clear hK2 K2; (try simp (maxSteps := 10000000) (disch := first | omega | simp) []))
            | ((with_reducible refine sideF' fun K2 hK2 => ?_); (try simp (maxSteps := 10000000) (disch := first | omega | simp) []); (first | refine hK2 _ _ _ (cloneP_ok m.topics[i].parts (by omega)) (by simp) ?_); clear hK2 K2; (try simp (maxSteps := 10000000) (disch := first | omega | simp) []))
            | ((with_reducible refine sideSt' fun K2 hK2 => ?_); (try simp (maxSteps := 10000000) (disch := first | omega | simp) []); refine hK2 _ ?_; clear hK2 K2; (try simp (maxSteps := 10000000) (disch := first | omega | simp) []))
            | ((with_reducible refine gdU ?_); (try simp (maxSteps := 10000000) (disch := first | omega | simp) []))
            | ((with_reducible refine sideQ' ?_ ?_ fun K2 hK2 => ?_); exact rfl; exact rfl; (try simp (maxSteps := 10000000) (disch := first | omega | simp) []); with_reducible refine hK2 _ _ ?_; clear hK2 K2; (try simp (maxSteps := 10000000) (disch := first | omega | simp) []))
            | ((with_reducible refine side' ?_ fun K2 hK2 => ?_); exact rfl; (try simp (maxSteps := 10000000) (disch := first | omega | simp) []); refine hK2 _ _ (by simp) ?_; clear hK2 K2; (try simp (maxSteps := 10000000) (disch := first | omega | simp) []))) <;> clear hK K)
        | ((with_reducible refine awCond fun A B hA hB => ?_); simp (maxSteps := 10000000) (disch := first | omega | simp) []; (first | refine ⟨fun h => hA ?_, fun h => hB ?_⟩ | refine hA ?_ | refine hB ?_) <;> (clear hA hB A B; (try (exfalso; omega))))
    refine awFor m.topics[i].parts.length (fun k (_ : Unit) => True) (fun k _ => [(45, .p (I k)), (44, .p (I m.topics[i].parts.length)), (4, .pa 1 [(0, 1)] i 0), (25, .p (I i)), (24, .p (I m.topics.length)), (2, .p (.own [.uq [], .uq [], .uq [], .uq [], I 0])), (1, .p (.own [.uq (m.brokers.map encB), .uq (mixM encTO encT m.topics i (.agg [I m.topics[i].id, St m.topics[i].name, .uq (mixL encPO encP m.topics[i].parts k)])), .uq (m.configs.map encC), .uq (m.done.map encD), I m.last]))]) () (Wk.ofA (by simp)) trivial fun k _ hk _ => ?_
    by_cases hkt : k < m.topics[i].parts.length
    · have hpm := List.getElem_mem hkt
      have e := mixM_next (f := encPO) (g := encP) hkt
      rw [encPO_eq] at e
      repeat' first
          | (with_reducible first | refine thN ?_ | refine thR ?_ | refine thE ?_ | refine inN ?_ | refine inR ?_ | refine inH ?_ | refine fF ?_ | refine fS ?_ | refine fR ?_ | refine fQ ?_ | refine fC ?_ | refine fB ?_ | refine fL ?_ | refine fE ?_ | refine fT ?_ | refine awBlock ?_ | refine awExit ?_ | refine awRet ?_ | refine awSkip ?_ | refine inM (by decide) ?_)
          | ((with_reducible refine awReg fun K hok hK => ?_); clear hok; (try simp (maxSteps := 10000000) (disch := first | omega | simp) []); (repeat' first
              | (with_reducible refine hK _ (by simp) ?_)
              | ((with_reducible refine gdT (fun h => ?_) (fun h => ?_)) <;> (simp (maxSteps := 10000000) (disch := first | omega | simp) [h]; (try simp at h); (try (exfalso; omega))))
              | ((with_reducible refine gdF (fun h => ?_) (fun h => ?_)) <;> (simp (maxSteps := 10000000) (disch := first | omega | simp) [h]; (try simp at h); (try (exfalso; omega))))
              | ((with_reducible refine callS' fun K2 hK2 => ?_); (try simp (maxSteps := 10000000) (disch := first | omega | simp) []); (first | (refine hK2 _ _ (alone_ok m.topics[i].parts[k] (hp _ htm _ hpm)) rfl fun hk9 => ?_; clear hk9)); clear hK2 K2; (try simp (maxSteps := 10000000) (disch := first | omega | simp) []))
              | ((with_reducible refine callF' fun K2 hK2 => ?_); (try simp (maxSteps := 10000000) (disch := first | omega | simp) []); (first | refine hK2 _ _ _ (alone_ok m.topics[i].parts[k] (hp _ htm _ hpm)) fun _ => ?_); clear hK2 K2; (try simp (maxSteps := 10000000) (disch := first | omega | simp) []))
              | ((with_reducible refine sideS' fun K2 hK2 => ?_); (try simp (maxSteps := 10000000) (disch := first | omega | simp) []); (first | refine hK2 _ _ (alone_ok m.topics[i].parts[k] (hp _ htm _ hpm)) rfl ?_); clear hK2 K2; (try simp (maxSteps := 10000000) (disch := first | omega | simp) []))
              | ((with_reducible refine sideF' fun K2 hK2 => ?_); (try simp (maxSteps := 10000000) (disch := first | omega | simp) []); (first | refine hK2 _ _ _ (alone_ok m.topics[i].parts[k] (hp _ htm _ hpm)) (by simp) ?_); clear hK2 K2; (try simp (maxSteps := 10000000) (disch := first | omega | simp) []))
              | ((with_reducible refine sideSt' fun K2 hK2 => ?_); (try simp (maxSteps := 10000000) (disch := first | omega | simp) []); refine hK2 _ ?_; clear hK2 K2; (try simp (maxSteps := 10000000) (disch := first | omega | simp) []))
              | ((with_reducible refine gdU ?_); (try simp (maxSteps := 10000000) (disch := first | omega | simp) []))
              | ((with_reducible refine sideQ' ?_ ?_ fun K2 hK2 => ?_); exact rfl; exact rfl; (try simp (maxSteps := 10000000) (disch := first | omega | simp) []); with_reducible refine hK2 _ _ ?_; clear hK2 K2; (try simp (maxSteps := 10000000) (disch := first | omega | simp) []))
              | ((with_reducible refine side' ?_ fun K2 hK2 => ?_); exact rfl; (try simp (maxSteps := 10000000) (disch := first | omega | simp) []); refine hK2 _ _ (by simp) ?_; clear hK2 K2; (try simp (maxSteps := 10000000) (disch := first | omega | simp) []))) <;> clear hK K)
          | ((with_reducible refine awCond fun A B hA hB => ?_); simp (maxSteps := 10000000) (disch := first | omega | simp) []; (first | refine ⟨fun h => hA ?_, fun h => hB ?_⟩ | refine hA ?_ | refine hB ?_) <;> (clear hA hB A B; (try (exfalso; omega))))
      (refine ⟨?_, (), ?_, Wk.ofA ?_⟩; assumption; rotate_left; focus (simp [e]; done))
      trivial
    · obtain rfl : k = m.topics[i].parts.length := by omega
      have e := mixM_next (f := encTO) (g := encT) hlt
      rw [encTO_eq] at e
      repeat' first
          | (with_reducible first | refine thN ?_ | refine thR ?_ | refine thE ?_ | refine inN ?_ | refine inR ?_ | refine inH ?_ | refine fF ?_ | refine fS ?_ | refine fR ?_ | refine fQ ?_ | refine fC ?_ | refine fB ?_ | refine fL ?_ | refine fE ?_ | refine fT ?_ | refine awBlock ?_ | refine awExit ?_ | refine awRet ?_ | refine awSkip ?_ | refine inM (by decide) ?_)
          | ((with_reducible refine awReg fun K hok hK => ?_); clear hok; (try simp (maxSteps := 10000000) (disch := first | omega | simp) []); (repeat' first
              | (with_reducible refine hK _ (by simp) ?_)
              | ((with_reducible refine gdT (fun h => ?_) (fun h => ?_)) <;> (simp (maxSteps := 10000000) (disch := first | omega | simp) [h]; (try simp at h); (try (exfalso; omega))))
              | ((with_reducible refine gdF (fun h => ?_) (fun h => ?_)) <;> (simp (maxSteps := 10000000) (disch := first | omega | simp) [h]; (try simp at h); (try (exfalso; omega))))
              | ((with_reducible refine sideSt' fun K2 hK2 => ?_); (try simp (maxSteps := 10000000) (disch := first | omega | simp) []); refine hK2 _ ?_; clear hK2 K2; (try simp (maxSteps := 10000000) (disch := first | omega | simp) []))
              | ((with_reducible refine gdU ?_); (try simp (maxSteps := 10000000) (disch := first | omega | simp) []))
              | ((with_reducible refine sideQ' ?_ ?_ fun K2 hK2 => ?_); exact rfl; exact rfl; (try simp (maxSteps := 10000000) (disch := first | omega | simp) []); with_reducible refine hK2 _ _ ?_; clear hK2 K2; (try simp (maxSteps := 10000000) (disch := first | omega | simp) []))
              | ((with_reducible refine side' ?_ fun K2 hK2 => ?_); exact rfl; (try simp (maxSteps := 10000000) (disch := first | omega | simp) []); refine hK2 _ _ (by simp) ?_; clear hK2 K2; (try simp (maxSteps := 10000000) (disch := first | omega | simp) []))) <;> clear hK K)
          | ((with_reducible refine awCond fun A B hA hB => ?_); simp (maxSteps := 10000000) (disch := first | omega | simp) []; (first | refine ⟨fun h => hA ?_, fun h => hB ?_⟩ | refine hA ?_ | refine hB ?_) <;> (clear hA hB A B; (try (exfalso; omega))))
      (refine ⟨?_, (), ?_, Wk.ofA ?_⟩; assumption; rotate_left; focus (simp [e]; done))
      trivial
  · obtain rfl : i = m.topics.length := by omega
    repeat' first
        | (with_reducible first | refine thN ?_ | refine thR ?_ | refine thE ?_ | refine inN ?_ | refine inR ?_ | refine inH ?_ | refine fF ?_ | refine fS ?_ | refine fR ?_ | refine fQ ?_ | refine fC ?_ | refine fB ?_ | refine fL ?_ | refine fE ?_ | refine fT ?_ | refine awBlock ?_ | refine awExit ?_ | refine awRet ?_ | refine awSkip ?_ | refine inM (by decide) ?_)
        | ((with_reducible refine awReg fun K hok hK => ?_); clear hok; (try simp (maxSteps := 10000000) (disch := first | omega | simp) []); (repeat' first
            | (with_reducible refine hK _ (by simp) ?_)
            | ((with_reducible refine gdT (fun h => ?_) (fun h => ?_)) <;> (simp (maxSteps := 10000000) (disch := first | omega | simp) [h]; (try simp at h); (try (exfalso; omega))))
            | ((with_reducible refine gdF (fun h => ?_) (fun h => ?_)) <;> (simp (maxSteps := 10000000) (disch := first | omega | simp) [h]; (try simp at h); (try (exfalso; omega))))
            | ((with_reducible refine sideSt' fun K2 hK2 => ?_); (try simp (maxSteps := 10000000) (disch := first | omega | simp) []); refine hK2 _ ?_; clear hK2 K2; (try simp (maxSteps := 10000000) (disch := first | omega | simp) []))
            | ((with_reducible refine gdU ?_); (try simp (maxSteps := 10000000) (disch := first | omega | simp) []))
            | ((with_reducible refine sideQ' ?_ ?_ fun K2 hK2 => ?_); exact rfl; exact rfl; (try simp (maxSteps := 10000000) (disch := first | omega | simp) []); with_reducible refine hK2 _ _ ?_; clear hK2 K2; (try simp (maxSteps := 10000000) (disch := first | omega | simp) []))
            | ((with_reducible refine side' ?_ fun K2 hK2 => ?_); exact rfl; (try simp (maxSteps := 10000000) (disch := first | omega | simp) []); refine hK2 _ _ (by simp) ?_; clear hK2 K2; (try simp (maxSteps := 10000000) (disch := first | omega | simp) []))) <;> clear hK K)
        | ((with_reducible refine awCond fun A B hA hB => ?_); simp (maxSteps := 10000000) (disch := first | omega | simp) []; (first | refine ⟨fun h => hA ?_, fun h => hB ?_⟩ | refine hA ?_ | refine hB ?_) <;> (clear hA hB A B; (try (exfalso; omega))))
    (refine aEnR (aRes [] fun K hK => ?_); simp (maxSteps := 10000000) (disch := first | omega | simp) []; refine hK _ ?_ (by simp); simp (maxSteps := 10000000) (disch := first | omega | simp) [])
end
end Go.Am
