/- Part of the proof of a law of moving. -/
import Derived.Test.YtmnheledelnbfaaGreatDoorQPU
set_option linter.all false
section
namespace Go.Am
open Go
noncomputable section
theorem bl_irrefl : ∀ (a : List UInt8), Op.bytesLess a a = false := by
  intro a
  induction a with
  | nil => rfl
  | cons x a ih => simp [Op.bytesLess, ih]
theorem bl_trans : ∀ (a b c : List UInt8), Op.bytesLess a b = true → Op.bytesLess b c = true → Op.bytesLess a c = true := by
  intro a
  induction a with
  | nil =>
    intro b c h1 h2
    cases c with
    | nil => cases b <;> simp [Op.bytesLess] at h2
    | cons z c => rfl
  | cons x a ih =>
    intro b c h1 h2
    cases b with
    | nil => simp [Op.bytesLess] at h1
    | cons y b =>
      cases c with
      | nil => simp [Op.bytesLess] at h2
      | cons z c =>
        simp only [Op.bytesLess, Bool.or_eq_true, decide_eq_true_eq, Bool.and_eq_true, beq_iff_eq] at *
        rcases h1 with h1 | ⟨rfl, h1⟩
        · rcases h2 with h2 | ⟨rfl, h2⟩
          · exact .inl (UInt8.lt_trans h1 h2)
          · exact .inl h1
        · rcases h2 with h2 | ⟨rfl, h2⟩
          · exact .inl h2
          · exact .inr ⟨rfl, ih _ _ h1 h2⟩
theorem bl_tri : ∀ (a b : List UInt8), Op.bytesLess a b = false → Op.bytesLess b a = false → a = b := by
  intro a
  induction a with
  | nil => intro b h1 h2; cases b with
    | nil => rfl
    | cons y b => simp [Op.bytesLess] at h1
  | cons x a ih =>
    intro b h1 h2
    cases b with
    | nil => simp [Op.bytesLess] at h2
    | cons y b =>
      simp only [Op.bytesLess, Bool.or_eq_false_iff, decide_eq_false_iff_not, Bool.and_eq_false_iff, beq_eq_false_iff_ne] at *
      have e : x = y := by
        rcases h1 with ⟨h1, _⟩
        rcases h2 with ⟨h2, _⟩
        exact UInt8.le_antisymm (by simpa using h2) (by simpa using h1)
      subst e
      rw [ih b (h1.2.resolve_left (by simp)) (h2.2.resolve_left (by simp))]
abbrev lessS (a b : ByteArray) : Bool := Op.bytesLess a.toList b.toList
abbrev eqS (a b : ByteArray) : Bool := a.toList == b.toList
def cmpS (a b : ByteArray) : Int := if lessS a b then -1 else if !(lessS a b || eqS a b) then 1 else 0
theorem cmpS_neg (a b : ByteArray) : cmpS a b < 0 ↔ lessS a b = true := by
  unfold cmpS; split
  · rename_i h; simp [h]
  · rename_i h; split <;> simp [h]
theorem cmpS_zero (a b : ByteArray) : (cmpS a b == 0) = eqS a b := by
  unfold cmpS
  by_cases h1 : lessS a b = true
  · have : eqS a b = false := by
      rw [beq_eq_false_iff_ne]; intro e
      unfold lessS at h1
      rw [e, bl_irrefl] at h1; cases h1
    simp [h1, this]
  · by_cases h2 : eqS a b = true <;> simp [h1, h2]
structure Rack where
  name : ByteArray
  ids : List Int
def rpos (l : List Rack) (s : ByteArray) : Nat := (l.takeWhile fun r => lessS r.name s).length
abbrev srtK (l : List Rack) : Prop := l.Pairwise fun a b => lessS a.name b.name = true
theorem rpos_le (l : List Rack) (s : ByteArray) : rpos l s ≤ l.length := (List.takeWhile_sublist _).length_le
theorem rpos_iff {l : List Rack} (s : ByteArray) (h : srtK l) : ∀ (i : Nat) (hi : i < l.length), i < rpos l s ↔ lessS l[i].name s = true := by
  unfold rpos
  induction l with
  | nil => intro i hi; simp at hi
  | cons r l ih =>
    intro i hi
    rw [srtK, List.pairwise_cons] at h
    rw [List.takeWhile_cons]
    cases hr : lessS r.name s with
    | true =>
      cases i with
      | zero => simp [hr]
      | succ i =>
        simp only [if_true, List.length_cons, List.getElem_cons_succ]
        rw [← ih h.2 i (by simpa using hi)]
        omega
    | false =>
      simp only [Bool.false_eq_true, if_false, List.length_nil, Nat.not_lt_zero, false_iff]
      cases i with
      | zero => simp [hr]
      | succ i =>
        simp only [List.getElem_cons_succ]
        intro hl
        have hil : i < l.length := by simpa using hi
        have := h.1 l[i] (List.getElem_mem hil)
        have := bl_trans _ _ _ this hl
        unfold lessS at hr
        rw [this] at hr; cases hr
def rthere (l : List Rack) (s : ByteArray) : Bool := match l[rpos l s]? with | some r => eqS r.name s | none => false
def rput (l : List Rack) (s : ByteArray) : List Rack := if rthere l s then l else l.take (rpos l s) ++ ⟨s, []⟩ :: l.drop (rpos l s)
def radd (l : List Rack) (i : Nat) (id : Int) : List Rack := l.modify i fun r => { r with ids := r.ids ++ [id] }
def readyB (b : Broker) : Bool := !b.fenced && !b.leaving
def rackStep (l : List Rack) (b : Broker) : List Rack := if readyB b then radd (rput l b.rack) (rpos l b.rack) b.id else l
def racksOf (l : List Broker) : List Rack := l.foldl rackStep []
theorem rput_at (l : List Rack) (s : ByteArray) : rpos l s < (rput l s).length := by
  have := rpos_le l s
  unfold rput
  split
  · rename_i h
    unfold rthere at h
    split at h
    · rename_i r hr
      rcases Nat.lt_or_ge (rpos l s) l.length with h' | h'
      · exact h'
      · rw [List.getElem?_eq_none h'] at hr; cases hr
    · cases h
  · simp; omega
theorem rput_len (l : List Rack) (s : ByteArray) : (rput l s).length ≤ l.length + 1 := by
  unfold rput; split
  · omega
  · simp; omega
theorem rput_srt {l : List Rack} (s : ByteArray) (h : srtK l) : srtK (rput l s) := by
  unfold rput
  split
  · exact h
  · rename_i ht
    have hp := rpos_le l s
    have h1 : ∀ r ∈ l.take (rpos l s), lessS r.name s = true := by
      intro r hr
      obtain ⟨i, hi, rfl⟩ := List.getElem_of_mem hr
      simp only [List.length_take] at hi
      rw [List.getElem_take]
      exact (rpos_iff s h i (by omega)).1 (by omega)
    have h2 : ∀ r ∈ l.drop (rpos l s), lessS s r.name = true := by
      intro r hr
      obtain ⟨i, hi, rfl⟩ := List.getElem_of_mem hr
      simp only [List.length_drop] at hi
      rw [List.getElem_drop]
      have hlt : rpos l s + i < l.length := by omega
      have h3 : ¬ lessS l[rpos l s + i].name s = true := fun hh => by have := (rpos_iff s h _ hlt).2 hh; omega
      by_cases h4 : lessS s l[rpos l s + i].name = true
      · exact h4
      · exfalso
        have e := bl_tri _ _ (by simpa using h3) (by simpa using h4)
        cases i with
        | zero =>
          apply ht
          unfold rthere
          rw [List.getElem?_eq_getElem (show rpos l s < l.length by omega)]
          simp only [Nat.add_zero] at e
          simp [eqS, e]
        | succ i =>
          have hlt0 : rpos l s < l.length := by omega
          have h5 : ¬ lessS l[rpos l s].name s = true := fun hh => by have := (rpos_iff s h _ hlt0).2 hh; omega
          have h6 : lessS l[rpos l s].name l[rpos l s + (i + 1)].name = true := by
            have := List.pairwise_iff_getElem.1 h (rpos l s) (rpos l s + (i + 1)) hlt0 hlt (by omega)
            exact this
          unfold lessS at h5 h6
          rw [e] at h6
          exact h5 h6
    rw [srtK, List.pairwise_append]
    refine ⟨List.Pairwise.sublist (List.take_sublist _ _) h, ?_, ?_⟩
    · rw [List.pairwise_cons]
      exact ⟨fun r hr => h2 r hr, List.Pairwise.sublist (List.drop_sublist _ _) h⟩
    · intro a ha b hb
      rcases List.mem_cons.1 hb with rfl | hb
      · exact h1 a ha
      · exact bl_trans _ _ _ (h1 a ha) (h2 b hb)
theorem radd_srt {l : List Rack} (i : Nat) (id : Int) (h : srtK l) : srtK (radd l i id) := by
  unfold radd srtK at *
  rw [List.pairwise_iff_getElem] at *
  intro a b ha hb hab
  simp only [List.length_modify] at ha hb
  have := h a b ha hb hab
  simp only [List.getElem_modify]
  split <;> split <;> exact this
theorem rackStep_srt {l : List Rack} (b : Broker) (h : srtK l) : srtK (rackStep l b) := by
  unfold rackStep; split
  · exact radd_srt _ _ (rput_srt _ h)
  · exact h
theorem rackStep_len (l : List Rack) (b : Broker) : (rackStep l b).length ≤ l.length + 1 := by
  unfold rackStep; split
  · simpa [radd] using rput_len l b.rack
  · omega
theorem racksOf_len : ∀ (l : List Broker) (s : List Rack) (n : Nat), s.length ≤ n → (∀ r ∈ s, r.ids.length ≤ n) → (l.foldl rackStep s).length ≤ n + l.length ∧ ∀ r ∈ l.foldl rackStep s, r.ids.length ≤ n + l.length := by
  intro l
  induction l with
  | nil => intro s n h1 h2; exact ⟨h1, h2⟩
  | cons b l ih =>
    intro s n h1 h2
    have h3 := rackStep_len s b
    have h4 : ∀ r ∈ rackStep s b, r.ids.length ≤ n + 1 := by
      intro r hr
      unfold rackStep at hr
      split at hr
      · have hp : ∀ r ∈ rput s b.rack, r.ids.length ≤ n := by
          intro r hr
          unfold rput at hr
          split at hr
          · exact h2 r hr
          · rcases List.mem_append.1 hr with hr | hr
            · exact h2 r (List.mem_of_mem_take hr)
            · rcases List.mem_cons.1 hr with rfl | hr
              · simp
              · exact h2 r (List.mem_of_mem_drop hr)
        obtain ⟨j, hj, rfl⟩ := List.getElem_of_mem hr
        simp only [radd, List.length_modify] at hj
        simp only [radd, List.getElem_modify]
        have := hp _ (List.getElem_mem hj)
        split
        · simp; omega
        · omega
      · have := h2 r hr; omega
    have := ih (rackStep s b) (n + 1) (by omega) h4
    simp only [List.foldl_cons, List.length_cons]
    exact ⟨by omega, fun r hr => by have := this.2 r hr; omega⟩
def roundK (l : List Rack) (i : Nat) : List Int := l.flatMap fun r => (r.ids[i]?).toList
def orderOf (l : List Rack) : List Int := (List.range 1000).flatMap (roundK l)
def Image.order (m : Image) : List Int := orderOf (racksOf m.brokers)
theorem roundK_len (l : List Rack) (i : Nat) : (roundK l i).length ≤ l.length := by
  unfold roundK
  induction l with
  | nil => simp
  | cons r l ih =>
    simp only [List.flatMap_cons, List.length_append, List.length_cons]
    have : ((r.ids[i]?).toList).length ≤ 1 := by cases r.ids[i]? <;> simp
    omega
theorem flat_len_le {α β : Type} (g : α → List β) (N : Nat) : ∀ (l : List α), (∀ x ∈ l, (g x).length ≤ N) → (l.flatMap g).length ≤ l.length * N := by
  intro l
  induction l with
  | nil => simp
  | cons x l ih =>
    intro h
    have h1 := h x (by simp)
    have h2 := ih fun y hy => h y (by simp [hy])
    simp only [List.flatMap_cons, List.length_append, List.length_cons, Nat.add_mul]
    omega
theorem orderOf_len (l : List Rack) : (orderOf l).length ≤ 1000 * l.length := by
  have := flat_len_le (roundK l) l.length (List.range 1000) (fun x _ => roundK_len l x)
  simpa [orderOf] using this
theorem roundK_nil {l : List Rack} {i : Nat} (h : ∀ r ∈ l, r.ids.length ≤ i) : roundK l i = [] := by
  unfold roundK
  rw [List.flatMap_eq_nil_iff]
  intro r hr
  rw [List.getElem?_eq_none (h r hr)]; rfl
theorem rest_nil {l : List Rack} {i : Nat} (h : ∀ r ∈ l, r.ids.length ≤ i) : ((List.range 1000).drop i).flatMap (roundK l) = [] := by
  rw [List.flatMap_eq_nil_iff]
  intro j hj
  refine roundK_nil fun r hr => ?_
  obtain ⟨k, hk, rfl⟩ := List.getElem_of_mem hj
  have := h r hr
  simp; omega
end
end Go.Am
end
section
namespace Go.Am
open Go
noncomputable section
def rackOf (m : Image) (id : Int) : ByteArray := ((m.broker id).getD zB).rack
def getM : List (ByteArray × Int) → ByteArray → Int
  | [], _ => 0
  | e :: l, s => if s == e.1 then e.2 else getM l s
def putM : List (ByteArray × Int) → ByteArray → Int → List (ByteArray × Int)
  | [], s, n => [(s, n)]
  | e :: l, s, n => if s == e.1 then (s, n) :: l else e :: putM l s n
structure Ch where
  at' : Nat
  taken : List Int
  met : List (ByteArray × Int)
def nth (order : List Int) (i : Nat) : Int := order.getD (i % order.length) 0
def stepB (m : Image) (order : List Int) (c : Ch) (best : Int) (k : Nat) : Int :=
  let id := nth order (c.at' + k)
  if c.taken.contains id then best else if best < 0 ∨ getM c.met (rackOf m id) < getM c.met (rackOf m best) then id else best
def bestB (m : Image) (order : List Int) (c : Ch) : Int := (List.range order.length).foldl (stepB m order c) (-1)
def nextC (m : Image) (order : List Int) (c : Ch) : Ch := { c with taken := c.taken ++ [bestB m order c], met := putM c.met (rackOf m (bestB m order c)) (getM c.met (rackOf m (bestB m order c)) + 1) }
end
end Go.Am
end
section
namespace Go.Am
open Go
noncomputable section
def iterC (m : Image) (order : List Int) : Nat → Ch → Ch
  | 0, c => c
  | n + 1, c => iterC m order n (nextC m order c)
def oneP (m : Image) (order : List Int) (at' r : Nat) : List Int := (iterC m order r ⟨at', [], []⟩).taken
def rowsP (m : Image) (order : List Int) (start r parts : Nat) : List (List Int) := (List.range parts).map fun p => oneP m order (start + p) r
abbrev Bad' := ByteArray × Int × Int
def Image.assign (m : Image) (parts r start : Int) : List (List Int) × Option Bad' :=
  if parts < 1 ∨ 256 < parts then ([], some (bs [112, 97, 114, 116, 115], parts, 2))
  else if r < 1 ∨ 7 < r ∨ (m.order.length : Int) < r then ([], some (bs [114, 101, 112, 108, 105, 99, 97, 115], r, 18))
  else if start < 0 ∨ 1073741824 < start then ([], some (bs [115, 116, 97, 114, 116], start, 2))
  else (rowsP m m.order start.toNat r.toNat parts.toNat, none)
structure ChOk (m : Image) (order : List Int) (at' : Nat) (j : Nat) (c : Ch) : Prop where
  at' : c.at' = at'
  len : c.taken.length = j
  nd : c.taken.Nodup
  sub : ∀ id ∈ c.taken, id ∈ order
  met : ∀ s, getM c.met s = (c.taken.countP fun id => rackOf m id == s : Nat)
theorem ChOk.zero (m : Image) (order : List Int) (at' : Nat) : ChOk m order at' 0 ⟨at', [], []⟩ := ⟨rfl, rfl, List.nodup_nil, by simp, by simp [getM]⟩
theorem flat_rput (s : List Rack) (n : ByteArray) : (rput s n).flatMap Rack.ids = s.flatMap Rack.ids := by
  unfold rput
  split
  · rfl
  · rw [List.flatMap_append, List.flatMap_cons, List.nil_append, ← List.flatMap_append, List.take_append_drop]
theorem flat_radd {l : List Rack} {k : Nat} (id : Int) (h : k < l.length) : ((radd l k id).flatMap Rack.ids).Perm (l.flatMap Rack.ids ++ [id]) := by
  unfold radd
  rw [List.modify_eq_take_cons_drop h]
  conv => rhs; rw [← List.take_append_drop k l, List.drop_eq_getElem_cons h]
  simp only [List.flatMap_append, List.flatMap_cons, List.append_assoc]
  refine List.Perm.append_left _ (List.Perm.append_left _ ?_)
  exact List.perm_append_comm
theorem racks_perm : ∀ (l : List Broker) (s : List Rack), ((l.foldl rackStep s).flatMap Rack.ids).Perm (s.flatMap Rack.ids ++ (l.filter readyB).map Broker.id) := by
  intro l
  induction l with
  | nil => intro s; simp
  | cons b l ih =>
    intro s
    simp only [List.foldl_cons]
    refine (ih _).trans ?_
    cases hr : readyB b with
    | false => simp [rackStep, hr]
    | true =>
      have := flat_radd (l := rput s b.rack) b.id (rput_at s b.rack)
      rw [flat_rput] at this
      simp only [rackStep, hr, if_true, List.filter_cons, List.map_cons]
      refine (this.append_right _).trans ?_
      simp
theorem flat_swap {α β γ : Type} (f : α → β → List γ) (xs : List α) : ∀ (l : List β), (xs.flatMap fun i => l.flatMap fun r => f i r).Perm (l.flatMap fun r => xs.flatMap fun i => f i r) := by
  have key : ∀ (g h : α → List γ) (xs : List α), (xs.flatMap fun i => g i ++ h i).Perm (xs.flatMap g ++ xs.flatMap h) := by
    intro g h xs
    induction xs with
    | nil => simp
    | cons x xs ih =>
      simp only [List.flatMap_cons, List.append_assoc]
      refine List.Perm.append_left _ ?_
      refine (List.Perm.append_left _ ih).trans ?_
      rw [← List.append_assoc, ← List.append_assoc]
      exact List.Perm.append_right _ List.perm_append_comm
  intro l
  induction l with
  | nil => simp
  | cons r l ih =>
    simp only [List.flatMap_cons]
    exact (key _ _ _).trans (List.Perm.append_left _ ih)
theorem range_get : ∀ (n : Nat) (ids : List Int), ids.length ≤ n → ((List.range n).flatMap fun i => (ids[i]?).toList) = ids := by
  intro n
  induction n with
  | zero => intro ids h; have : ids = [] := List.eq_nil_of_length_eq_zero (by omega); subst this; rfl
  | succ n ih =>
    intro ids h
    cases ids with
    | nil => rw [List.flatMap_eq_nil_iff]; intro i _; simp
    | cons x ids =>
      rw [List.range_succ_eq_map, List.flatMap_cons, List.flatMap_map]
      simp only [List.getElem?_cons_zero, Option.toList_some, List.getElem?_cons_succ, List.cons_append, List.nil_append]
      rw [ih ids (by simpa using h)]
theorem orderOf_perm {l : List Rack} (h : ∀ r ∈ l, r.ids.length ≤ 1000) : (orderOf l).Perm (l.flatMap Rack.ids) := by
  unfold orderOf roundK
  generalize 1000 = N at *
  refine (flat_swap (fun i (r : Rack) => (r.ids[i]?).toList) (List.range N) l).trans ?_
  have : (l.flatMap fun r => (List.range N).flatMap fun i => (r.ids[i]?).toList) = l.flatMap Rack.ids := by
    induction l with
    | nil => rfl
    | cons r l ih =>
      simp only [List.flatMap_cons]
      rw [range_get N r.ids (h r (by simp)), ih fun q hq => h q (by simp [hq])]
  rw [this]
theorem order_perm (m : Image) (h : m.brokers.length ≤ 1000) : m.order.Perm ((m.brokers.filter readyB).map Broker.id) := by
  have h0 := racksOf_len m.brokers [] 0 (by simp) (by simp)
  refine (orderOf_perm fun r hr => by have := h0.2 r hr; omega).trans ?_
  have := racks_perm m.brokers []
  simp only [List.flatMap_nil, List.nil_append] at this
  exact this
end
end Go.Am
end
section
namespace Go.Am
open Go
noncomputable section
def ckBad (order ids : List Int) (i : Nat) : Bool := !order.contains (ids.getD i 0) || (ids.take i).contains (ids.getD i 0)
def ckP (order ids : List Int) : Option Bad' :=
  if ids.length < 1 ∨ 7 < ids.length then some (bs [114, 101, 112, 108, 105, 99, 97, 115], (ids.length : Int), 18)
  else ((List.range ids.length).find? (ckBad order ids)).map fun i : Nat => (bs [114, 101, 112, 108, 105, 99, 97], (i : Int), 18)
end
end Go.Am
end
section
namespace Go.Am
open Go
open Classical
noncomputable section
end
end Go.Am
end
section
namespace Go.Am
open Go
noncomputable section
structure Image.Few (m : Image) : Prop where
  len : m.brokers.length ≤ 100
  pos : ∀ b ∈ m.brokers, 0 < b.id
  nd : (m.brokers.map Broker.id).Nodup
theorem Image.Few.order_mem {m : Image} (h : m.Few) {id : Int} (hid : id ∈ m.order) : ∃ b ∈ m.brokers, b.id = id ∧ readyB b = true := by
  have hp := order_perm m (by have := h.len; omega)
  have := hp.mem_iff.1 hid
  simp only [List.mem_map, List.mem_filter] at this
  obtain ⟨b, ⟨h1, h2⟩, h3⟩ := this
  exact ⟨b, h1, h3, h2⟩
end
end Go.Am
end
section
namespace Go.Am
open Go
section
theorem broker_of {m : Image} (h : m.Few) {b : Broker} (hb : b ∈ m.brokers) : m.broker b.id = some b := by
  have hs : (m.broker b.id).isSome = true := by rw [Image.broker, List.find?_isSome]; exact ⟨b, hb, by simp⟩
  obtain ⟨c, hc⟩ := Option.isSome_iff_exists.1 hs
  rw [hc]
  have hcm := List.mem_of_find?_eq_some hc
  have hci : c.id = b.id := by have := List.find?_some hc; simpa using this
  congr 1
  have hn := h.nd
  obtain ⟨i, hi, rfl⟩ := List.getElem_of_mem hcm
  obtain ⟨j, hj, rfl⟩ := List.getElem_of_mem hb
  have := (List.nodup_iff_pairwise_ne.1 hn)
  rw [List.pairwise_map, List.pairwise_iff_getElem] at this
  rcases Nat.lt_trichotomy i j with h' | h' | h'
  · exact absurd hci (this i j hi hj h')
  · subst h'; rfl
  · exact absurd hci.symm (this j i hj hi h')
def codeO : Option Bad' → Int
  | none => 0
  | some b => b.2.2
def refBad (m : Image) (ids : List Int) (i : Nat) : Bool := !(m.broker (ids.getD i 0)).isSome || !readyB ((m.broker (ids.getD i 0)).getD zB) || (ids.take i).contains (ids.getD i 0)
def refCk (m : Image) (ids : List Int) : Int := if ids.length < 1 ∨ 7 < ids.length then 18 else if (List.range ids.length).any (refBad m ids) then 18 else 0
theorem order_contains {m : Image} (h : m.Few) (id : Int) : m.order.contains id = ((m.broker id).isSome && readyB ((m.broker id).getD zB)) := by
  rw [Bool.eq_iff_iff, List.contains_iff_mem, Bool.and_eq_true]
  constructor
  · intro hm
    obtain ⟨b, hb, rfl, hr⟩ := h.order_mem hm
    rw [broker_of h hb]; exact ⟨rfl, hr⟩
  · rintro ⟨h1, h2⟩
    obtain ⟨b, hb⟩ := Option.isSome_iff_exists.1 h1
    rw [hb] at h2
    have hbm := List.mem_of_find?_eq_some hb
    have hbi : b.id = id := by have := List.find?_some hb; simpa using this
    rw [(order_perm m (by have := h.len; omega)).mem_iff, List.mem_map]
    exact ⟨b, List.mem_filter.2 ⟨hbm, h2⟩, hbi⟩
theorem ck_code {m : Image} (h : m.Few) (ids : List Int) : codeO (ckP m.order ids) = refCk m ids := by
  have e : ckBad m.order ids = refBad m ids := by
    funext i
    unfold ckBad refBad
    rw [order_contains h]
    cases (m.broker (ids.getD i 0)).isSome <;> simp
  unfold ckP refCk
  rw [e]
  split
  · rfl
  · cases hf : (List.range ids.length).find? (refBad m ids) with
    | none =>
      have : (List.range ids.length).any (refBad m ids) = false := by
        rw [List.any_eq_false]; intro x hx; have := List.find?_eq_none.1 hf x hx; simpa using this
      rw [this]; rfl
    | some i =>
      have : (List.range ids.length).any (refBad m ids) = true := by
        rw [List.any_eq_true]; exact ⟨i, List.mem_of_find?_eq_some hf, List.find?_some hf⟩
      rw [this]; rfl
end
end Go.Am
end
