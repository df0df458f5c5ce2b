/- Part of the proof of a law of placing. -/
import Derived.Test.YteijffflinnccaaDoorQE6
set_option linter.all false
set_option maxRecDepth 100000
set_option maxHeartbeats 0
namespace Go.Am
open Go
noncomputable section
def mixL {α : Type} (f g : α → V) (l : List α) (i : Nat) : List V := (l.take i).map f ++ (l.drop i).map g
def mixM {α : Type} (f g : α → V) (l : List α) (i : Nat) (x : V) : List V := (l.take i).map f ++ x :: (l.drop (i + 1)).map g
section
variable {α : Type} {f g : α → V} {l : List α} {i : Nat} {x : V}
@[simp] theorem mixL_zero : mixL f g l 0 = l.map g := by simp [mixL]
@[simp] theorem mixL_len : mixL f g l l.length = l.map f := by simp [mixL]
@[simp] theorem mixL_length (h : i ≤ l.length) : (mixL f g l i).length = l.length := by simp [mixL]; omega
@[simp] theorem mixL_get (h : i < l.length) : (mixL f g l i)[i]? = some (g l[i]) := by
  simp only [mixL]
  rw [List.getElem?_append_right (by simp; omega)]
  simp [Nat.min_eq_left (Nat.le_of_lt h), h]
theorem mixL_mod (h : i < l.length) (k : V → V) : (mixL f g l i).modify i k = mixM f g l i (k (g l[i])) := by
  simp only [mixL, mixM]
  rw [List.modify_eq_take_cons_drop (by simp; omega)]
  have hl : ((l.take i).map f).length = i := by simp; omega
  have e1 : ((l.take i).map f ++ (l.drop i).map g).take i = (l.take i).map f := by rw [← hl]; simp
  have e2 : ((l.take i).map f ++ (l.drop i).map g).drop (i + 1) = (l.drop (i + 1)).map g := by
    rw [List.drop_append, hl, List.drop_eq_nil_of_le (by rw [hl]; omega)]
    simp [List.drop_drop]
  have hmin : min i l.length = i := Nat.min_eq_left (by omega)
  rw [e1, e2, List.getElem_append_right (by omega)]
  simp [hl, hmin]
@[simp] theorem mixL_mod' (h : i < l.length) (k : V → V) : (mixL f g l i).modify i k = mixM f g l i (k (g l[i])) := mixL_mod h k
@[simp] theorem mixM_length (h : i < l.length) : (mixM f g l i x).length = l.length := by simp [mixM]; omega
@[simp] theorem mixM_get (h : i < l.length) : (mixM f g l i x)[i]? = some x := by
  simp only [mixM]
  rw [List.getElem?_append_right (by simp; omega)]
  simp [Nat.min_eq_left (Nat.le_of_lt h)]
@[simp] theorem mixM_mod (h : i < l.length) (k : V → V) : (mixM f g l i x).modify i k = mixM f g l i (k x) := by
  simp only [mixM]
  have hl : ((l.take i).map f).length = i := by simp; omega
  rw [List.modify_eq_take_cons_drop (by simp; omega)]
  have e1 : ((l.take i).map f ++ x :: (l.drop (i + 1)).map g).take i = (l.take i).map f := by rw [← hl]; simp
  have e2 : ((l.take i).map f ++ x :: (l.drop (i + 1)).map g).drop (i + 1) = (l.drop (i + 1)).map g := by
    rw [List.drop_append, hl, List.drop_eq_nil_of_le (by rw [hl]; omega)]
    simp
  have hmin : min i l.length = i := Nat.min_eq_left (by omega)
  rw [e1, e2, List.getElem_append_right (by omega)]
  simp [hl, hmin]
theorem mixM_next (h : i < l.length) : mixM f g l i (f l[i]) = mixL f g l (i + 1) := by
  simp only [mixM, mixL]
  rw [List.take_add_one, List.getElem?_eq_getElem h]
  simp only [Option.toList_some, List.map_append, List.map_cons, List.map_nil, List.append_assoc, List.cons_append, List.nil_append]
@[simp] theorem mixM_ge (h : i < l.length) (h' : i < (mixM f g l i x).length) : (mixM f g l i x)[i] = x := by
  have := mixM_get (f := f) (g := g) (x := x) h
  rw [List.getElem?_eq_getElem h'] at this
  exact Option.some.inj this
@[simp] theorem mixL_ge (h : i < l.length) (h' : i < (mixL f g l i).length) : (mixL f g l i)[i] = g l[i] := by
  have := mixL_get (f := f) (g := g) h
  rw [List.getElem?_eq_getElem h'] at this
  exact Option.some.inj this
@[simp] theorem setCell_mixL {j : Nat} {y : V} (h : i < l.length) : (V.uq (mixL f g l i)).setCell i j y = .uq (mixM f g l i ((g l[i]).recell ((g l[i]).cells.set j y))) := by
  simp [V.setCell, V.row, V.setRow, h]
@[simp] theorem setCell_mixM {j : Nat} {y : V} (h : i < l.length) : (V.uq (mixM f g l i x)).setCell i j y = .uq (mixM f g l i (x.recell (x.cells.set j y))) := by
  simp [V.setCell, V.row, V.setRow, h]
@[simp] theorem mixL_cells {n : Nat} (h1 : ∀ a, (f a).cells.length = n) (h2 : ∀ a, (g a).cells.length = n) : lenL n (mixL f g l i) = True := by simp [mixL, h1, h2]
end
def encTO (t : Topic) : V := .agg [I t.id, St t.name, .uq (t.parts.map encPO)]
@[simp] theorem encTO_eq (t : Topic) : encTO t = .agg [I t.id, St t.name, .uq (t.parts.map encPO)] := rfl
def encMO (m : Image) : V := .agg [.uq (m.brokers.map encB), .uq (m.topics.map encTO), .uq (m.configs.map encC), .uq (m.done.map encD), I m.last]
@[simp] theorem encMO_eq (m : Image) : encMO m = .agg [.uq (m.brokers.map encB), .uq (m.topics.map encTO), .uq (m.configs.map encC), .uq (m.done.map encD), I m.last] := rfl
end
end Go.Am
