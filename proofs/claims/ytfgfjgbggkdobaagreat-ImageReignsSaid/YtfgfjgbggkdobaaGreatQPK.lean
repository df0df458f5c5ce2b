/- Part of the proof of a law of the image. -/
import Derived.Test.YtfgfjgbggkdobaaGreatQPU
set_option linter.all false
section
namespace Go.Am
open Go
section
variable {α : Type} {f : α → Int} {l : List α} {n : Int}
theorem take_pos : ∀ {l : List α}, l.Pairwise (fun a b => f a < f b) → l.take (posOf f l n) = l.filter (fun x => decide (f x < n)) ∧ l.drop (posOf f l n) = l.filter (fun x => decide (n ≤ f x)) := by
  intro l
  induction l with
  | nil => intro _; exact ⟨rfl, rfl⟩
  | cons x l ih =>
    intro h
    rw [List.pairwise_cons] at h
    obtain ⟨i1, i2⟩ := ih h.2
    unfold posOf at i1 i2 ⊢
    by_cases hx : f x < n
    · rw [List.countP_cons_of_pos (by simpa using hx), List.filter_cons_of_pos (by simpa using hx), List.filter_cons_of_neg (by simpa using hx)]
      simp only [List.take_succ_cons, List.drop_succ_cons, i1, i2, and_self]
    · have h0 : l.countP (fun x => decide (f x < n)) = 0 := by
        rw [List.countP_eq_zero]; intro y hy; have := h.1 y hy; simp; omega
      have h1 : l.filter (fun x => decide (f x < n)) = [] := by
        rw [List.filter_eq_nil_iff]; intro y hy; have := h.1 y hy; simp; omega
      rw [List.countP_cons_of_neg (by simpa using hx), List.filter_cons_of_neg (by simpa using hx), List.filter_cons_of_pos (by simp; omega), h0, h1]
      rw [h0] at i2
      simp only [List.drop_zero] at i2
      exact ⟨rfl, by rw [List.drop_zero, ← i2]⟩
theorem hit_filters {i : Nat} (hs : l.Pairwise (fun a b => f a < f b)) (hi : i < l.length) (hn : f l[i] = n) :
    l.filter (fun x => decide (f x < n)) = l.take i ∧ l.filter (fun x => decide (n < f x)) = l.drop (i + 1) ∧ l.filter (fun x => f x != n) = l.take i ++ l.drop (i + 1) ∧
    ∀ g : α → α, l.map (fun t => if f t = n then g t else t) = l.take i ++ g l[i] :: l.drop (i + 1) := by
  have hp := List.pairwise_iff_getElem.1 hs
  have ht : ∀ x ∈ l.take i, f x < n := by
    intro x hx
    obtain ⟨j, hj, rfl⟩ := List.mem_take_iff_getElem.1 hx
    have := hp j i (by omega) hi (by omega)
    omega
  have hd : ∀ x ∈ l.drop (i + 1), n < f x := by
    intro x hx
    obtain ⟨j, hj, rfl⟩ := List.mem_iff_getElem.1 hx
    rw [List.getElem_drop]
    rw [List.length_drop] at hj
    have := hp i (i + 1 + j) hi (by omega) (by omega)
    omega
  have e : l = l.take i ++ l[i] :: l.drop (i + 1) := by rw [List.getElem_cons_drop, List.take_append_drop]
  refine ⟨?_, ?_, ?_, fun g => ?_⟩
  · conv => lhs; rw [e]
    rw [List.filter_append, List.filter_cons_of_neg (by simp; omega), List.filter_eq_self.2 (fun x hx => by simpa using ht x hx), List.filter_eq_nil_iff.2 (fun x hx => by have := hd x hx; simp; omega), List.append_nil]
  · conv => lhs; rw [e]
    rw [List.filter_append, List.filter_cons_of_neg (by simp; omega), List.filter_eq_nil_iff.2 (fun x hx => by have := ht x hx; simp; omega), List.filter_eq_self.2 (fun x hx => by simpa using hd x hx), List.nil_append]
  · conv => lhs; rw [e]
    rw [List.filter_append, List.filter_cons_of_neg (by simpa using hn), List.filter_eq_self.2 (fun x hx => by have := ht x hx; simp; omega), List.filter_eq_self.2 (fun x hx => by have := hd x hx; simp; omega)]
  · conv => lhs; rw [e]
    rw [List.map_append, List.map_cons, if_pos hn]
    congr 1
    · conv => rhs; rw [← List.map_id (l.take i)]
      refine List.map_congr_left fun x hx => ?_
      have := ht x hx
      rw [if_neg (by omega)]; rfl
    · congr 1
      conv => rhs; rw [← List.map_id (l.drop (i + 1))]
      refine List.map_congr_left fun x hx => ?_
      have := hd x hx
      rw [if_neg (by omega)]; rfl
end
theorem putB_new {l : List Broker} {b : Broker} (hs : srtB l) (hn : ∀ x ∈ l, x.id ≠ b.id) : putB l b = l.take (posOf Broker.id l b.id) ++ b :: l.drop (posOf Broker.id l b.id) := by
  have h := take_pos (f := Broker.id) (n := b.id) hs
  rw [putB_eq b hs, h.1, h.2]
  congr 2
  refine List.filter_congr fun x hx => ?_
  have := hn x hx
  by_cases h : x.id < b.id
  · rw [decide_eq_false (by omega), decide_eq_false (by omega)]
  · rw [decide_eq_true (by omega), decide_eq_true (by omega)]
theorem putB_old {l : List Broker} {b : Broker} (hs : srtB l) {i : Nat} (hi : i < l.length) (hn : l[i].id = b.id) : putB l b = l.take i ++ b :: l.drop (i + 1) := by
  have h := hit_filters (f := Broker.id) hs hi hn
  rw [putB_eq b hs, h.1, h.2.1]
theorem pos_hit {α : Type} {f : α → Int} {l : List α} {n : Int} {x : α} (hs : l.Pairwise (fun a b => f a < f b)) (h : l.find? (fun x => f x == n) = some x) : ∃ hi : posOf f l n < l.length, l[posOf f l n] = x ∧ f x = n := by
  rw [pos_find n hs] at h
  split at h
  · rename_i hi
    split at h
    · rename_i he; cases h; exact ⟨hi, rfl, he⟩
    · cases h
  · cases h
end Go.Am
end
section
namespace Go.Am
open Go
noncomputable section
theorem bl_irrefl : ∀ (a : List UInt8), Op.bytesLess a a = false := by
  intro a
  induction a with
  | nil => rfl
  | cons x a ih => simp [Op.bytesLess, ih]
theorem bl_trans : ∀ (a b c : List UInt8), Op.bytesLess a b = true → Op.bytesLess b c = true → Op.bytesLess a c = true := by
  intro a
  induction a with
  | nil =>
    intro b c h1 h2
    cases c with
    | nil => cases b <;> simp [Op.bytesLess] at h2
    | cons z c => rfl
  | cons x a ih =>
    intro b c h1 h2
    cases b with
    | nil => simp [Op.bytesLess] at h1
    | cons y b =>
      cases c with
      | nil => simp [Op.bytesLess] at h2
      | cons z c =>
        simp only [Op.bytesLess, Bool.or_eq_true, decide_eq_true_eq, Bool.and_eq_true, beq_iff_eq] at *
        rcases h1 with h1 | ⟨rfl, h1⟩
        · rcases h2 with h2 | ⟨rfl, h2⟩
          · exact .inl (UInt8.lt_trans h1 h2)
          · exact .inl h1
        · rcases h2 with h2 | ⟨rfl, h2⟩
          · exact .inl h2
          · exact .inr ⟨rfl, ih _ _ h1 h2⟩
theorem bl_tri : ∀ (a b : List UInt8), Op.bytesLess a b = false → Op.bytesLess b a = false → a = b := by
  intro a
  induction a with
  | nil => intro b h1 h2; cases b with
    | nil => rfl
    | cons y b => simp [Op.bytesLess] at h1
  | cons x a ih =>
    intro b h1 h2
    cases b with
    | nil => simp [Op.bytesLess] at h2
    | cons y b =>
      simp only [Op.bytesLess, Bool.or_eq_false_iff, decide_eq_false_iff_not, Bool.and_eq_false_iff, beq_eq_false_iff_ne] at *
      have e : x = y := by
        rcases h1 with ⟨h1, _⟩
        rcases h2 with ⟨h2, _⟩
        exact UInt8.le_antisymm (by simpa using h2) (by simpa using h1)
      subst e
      rw [ih b (h1.2.resolve_left (by simp)) (h2.2.resolve_left (by simp))]
abbrev lessS (a b : ByteArray) : Bool := Op.bytesLess a.toList b.toList
abbrev eqS (a b : ByteArray) : Bool := a.toList == b.toList
structure Rack where
  name : ByteArray
  ids : List Int
def rpos (l : List Rack) (s : ByteArray) : Nat := (l.takeWhile fun r => lessS r.name s).length
def rthere (l : List Rack) (s : ByteArray) : Bool := match l[rpos l s]? with | some r => eqS r.name s | none => false
def rput (l : List Rack) (s : ByteArray) : List Rack := if rthere l s then l else l.take (rpos l s) ++ ⟨s, []⟩ :: l.drop (rpos l s)
def radd (l : List Rack) (i : Nat) (id : Int) : List Rack := l.modify i fun r => { r with ids := r.ids ++ [id] }
def readyB (b : Broker) : Bool := !b.fenced && !b.leaving
def rackStep (l : List Rack) (b : Broker) : List Rack := if readyB b then radd (rput l b.rack) (rpos l b.rack) b.id else l
def racksOf (l : List Broker) : List Rack := l.foldl rackStep []
def roundK (l : List Rack) (i : Nat) : List Int := l.flatMap fun r => (r.ids[i]?).toList
def orderOf (l : List Rack) : List Int := (List.range 1000).flatMap (roundK l)
def Image.order (m : Image) : List Int := orderOf (racksOf m.brokers)
end
end Go.Am
end
section
namespace Go.Am
open Go
section
variable {α : Type} {p : α → Bool}
theorem count_pre : ∀ {l : List α}, l.Pairwise (fun a b => p b = true → p a = true) → l.take (l.countP p) = l.filter p ∧ l.drop (l.countP p) = l.filter (fun x => !p x) ∧ ∀ i (h : i < l.length), i < l.countP p ↔ p l[i] = true := by
  intro l
  induction l with
  | nil => intro _; exact ⟨rfl, rfl, fun i h => by simp at h⟩
  | cons x l ih =>
    intro h
    rw [List.pairwise_cons] at h
    obtain ⟨i1, i2, i3⟩ := ih h.2
    cases hx : p x with
    | true =>
      rw [List.countP_cons_of_pos hx, List.filter_cons_of_pos hx, List.filter_cons_of_neg (by simp [hx])]
      refine ⟨by rw [List.take_succ_cons, i1], by rw [List.drop_succ_cons, i2], fun i hi => ?_⟩
      cases i with
      | zero => simp [hx]
      | succ i => simp only [List.getElem_cons_succ]; rw [← i3 i (by simpa using hi)]; omega
    | false =>
      have hn : ∀ y ∈ l, p y = false := fun y hy => by
        cases hy2 : p y with
        | false => rfl
        | true => rw [h.1 y hy hy2] at hx; cases hx
      have h0 : l.countP p = 0 := by rw [List.countP_eq_zero]; intro y hy; rw [hn y hy]; simp
      have h1 : l.filter p = [] := by rw [List.filter_eq_nil_iff]; intro y hy; rw [hn y hy]; simp
      rw [List.countP_cons_of_neg (by simp [hx]), List.filter_cons_of_neg (by simp [hx]), List.filter_cons_of_pos (by simp [hx]), h0, h1]
      rw [h0] at i2
      refine ⟨rfl, by rw [List.drop_zero, ← i2, List.drop_zero], fun i hi => ?_⟩
      cases i with
      | zero => simp [hx]
      | succ i => simp only [List.getElem_cons_succ]; rw [hn _ (List.getElem_mem _)]; simp
end
def ahC (t : Int) (k : ByteArray) (c : Config) : Bool := decide (c.topic < t) || (c.topic == t && lessS c.key k)
def neC (t : Int) (k : ByteArray) (c : Config) : Bool := c.topic != t || !(c.key.toList == k.toList)
def srtC (l : List Config) : Prop := l.Pairwise fun a b => ahC b.topic b.key a = true
theorem ah_trans {t : Int} {k : ByteArray} {a b : Config} (h1 : ahC b.topic b.key a = true) (h2 : ahC t k b = true) : ahC t k a = true := by
  simp only [ahC, Bool.or_eq_true, decide_eq_true_eq, Bool.and_eq_true, beq_iff_eq] at *
  rcases h1 with h1 | ⟨h1, h1'⟩
  · rcases h2 with h2 | ⟨h2, h2'⟩
    · left; omega
    · left; omega
  · rcases h2 with h2 | ⟨h2, h2'⟩
    · left; omega
    · exact .inr ⟨by omega, bl_trans _ _ _ h1' h2'⟩
theorem ah_ne {t : Int} {k : ByteArray} {c : Config} (h : ahC t k c = true) : neC t k c = true := by
  simp only [ahC, neC, Bool.or_eq_true, decide_eq_true_eq, Bool.and_eq_true, beq_iff_eq, bne_iff_ne, Bool.not_eq_true', beq_eq_false_iff_ne] at *
  rcases h with h | ⟨h, h'⟩
  · left; omega
  · right; intro e; unfold lessS at h'; rw [e, bl_irrefl] at h'; cases h'
theorem ah_tri {t : Int} {k : ByteArray} {c : Config} (h1 : ahC t k c = false) (h2 : neC t k c = true) (v : ByteArray) : ahC c.topic c.key ⟨t, k, v⟩ = true := by
  simp only [ahC, neC, Bool.or_eq_true, Bool.or_eq_false_iff, decide_eq_true_eq, decide_eq_false_iff_not, Bool.and_eq_true, Bool.and_eq_false_iff, beq_iff_eq, bne_iff_ne, Bool.not_eq_true', beq_eq_false_iff_ne] at *
  by_cases ht : c.topic = t
  · right
    refine ⟨ht.symm, ?_⟩
    have h3 : lessS c.key k = false := h1.2.resolve_left (fun h => h ht)
    have h4 : c.key.toList ≠ k.toList := h2.resolve_left (fun h => h ht)
    cases h5 : lessS k c.key with
    | true => rfl
    | false => exact absurd (bl_tri _ _ h3 h5) h4
  · left; omega
theorem clo_C {l : List Config} (h : srtC l) (t : Int) (k : ByteArray) : l.Pairwise fun a b => ahC t k b = true → ahC t k a = true :=
  List.Pairwise.imp (fun h1 h2 => ah_trans h1 h2) h
def newC (r : Record) : Config := ⟨r.topic, r.key, r.value⟩
theorem step_C (r : Record) (s : List Config × Bool) (c : Config) : putCStep r s c = ((if neC r.topic r.key c then (if !s.2 && !ahC r.topic r.key c then (s.1 ++ [newC r], true) else s).1 ++ [c] else (if !s.2 && !ahC r.topic r.key c then (s.1 ++ [newC r], true) else s).1), (if !s.2 && !ahC r.topic r.key c then (s.1 ++ [newC r], true) else s).2) := by
  have e : (decide (r.topic < c.topic) || (c.topic == r.topic && !Op.bytesLess c.key.toList r.key.toList)) = !ahC r.topic r.key c := by
    unfold ahC lessS
    by_cases h1 : c.topic < r.topic
    · have h2 : ¬ r.topic < c.topic := by omega
      have h3 : (c.topic == r.topic) = false := by simp; omega
      simp [h1, h2, h3]
    · by_cases h2 : c.topic = r.topic
      · simp [h2]
      · have h3 : r.topic < c.topic := by omega
        simp [h1, h2, h3]
  unfold putCStep newC neC
  simp only [e]
theorem putC_true (r : Record) : ∀ (l acc : List Config), l.foldl (putCStep r) (acc, true) = (acc ++ l.filter (neC r.topic r.key), true) := by
  intro l
  induction l with
  | nil => intro acc; simp
  | cons c l ih =>
    intro acc
    rw [List.foldl_cons, step_C]
    simp only [Bool.not_true, Bool.false_and, Bool.false_eq_true, if_false]
    rw [ih]
    cases h : neC r.topic r.key c <;> simp [h]
theorem putC_false (r : Record) : ∀ (l acc : List Config), srtC l → l.foldl (putCStep r) (acc, false) = if l.all (ahC r.topic r.key) then (acc ++ l, false) else (acc ++ l.filter (ahC r.topic r.key) ++ newC r :: l.filter (fun c => !ahC r.topic r.key c && neC r.topic r.key c), true) := by
  intro l
  induction l with
  | nil => intro acc _; simp
  | cons c l ih =>
    intro acc hs
    have hc := clo_C hs r.topic r.key
    rw [List.pairwise_cons] at hc
    have hs2 : srtC l := (List.pairwise_cons.1 hs).2
    rw [List.foldl_cons, step_C]
    cases h : ahC r.topic r.key c with
    | true =>
      simp only [Bool.not_true, Bool.and_false, Bool.false_eq_true, if_false, ah_ne h, if_true]
      rw [ih _ hs2]
      simp only [List.all_cons, h, Bool.true_and, List.filter_cons_of_pos h]
      rw [List.filter_cons_of_neg (by simp [h])]
      split <;> simp
    | false =>
      simp only [Bool.not_false, Bool.and_true, if_true, List.all_cons, h, Bool.false_and, Bool.false_eq_true, if_false]
      rw [putC_true]
      have hn : ∀ y ∈ l, ahC r.topic r.key y = false := fun y hy => by
        cases hy2 : ahC r.topic r.key y with
        | false => rfl
        | true => rw [hc.1 y hy hy2] at h; cases h
      have h1 : l.filter (ahC r.topic r.key) = [] := by rw [List.filter_eq_nil_iff]; intro y hy; rw [hn y hy]; simp
      have h2 : l.filter (fun c => !ahC r.topic r.key c && neC r.topic r.key c) = l.filter (neC r.topic r.key) := List.filter_congr fun y hy => by rw [hn y hy]; rfl
      rw [List.filter_cons_of_neg (by simp [h]), h1]
      cases hne : neC r.topic r.key c with
      | true => rw [List.filter_cons_of_pos (by simp [h, hne]), h2]; simp
      | false => rw [List.filter_cons_of_neg (by simp [h, hne]), h2]; simp
theorem putC_put {l : List Config} (r : Record) (hs : srtC l) (hf : r.flag = false) : putC l r = l.filter (ahC r.topic r.key) ++ newC r :: l.filter (fun c => !ahC r.topic r.key c && neC r.topic r.key c) := by
  unfold putC
  simp only [hf]
  rw [putC_false r l [] hs]
  cases ha : l.all (ahC r.topic r.key) with
  | true =>
    rw [List.all_eq_true] at ha
    have e1 : l.filter (ahC r.topic r.key) = l := List.filter_eq_self.2 ha
    have e2 : l.filter (fun c => !ahC r.topic r.key c && neC r.topic r.key c) = [] := by rw [List.filter_eq_nil_iff]; intro y hy; rw [ha y hy]; simp
    rw [e1, e2]; simp [newC]
  | false => simp
theorem putC_del {l : List Config} (r : Record) (hf : r.flag = true) : putC l r = l.filter (neC r.topic r.key) := by
  unfold putC
  simp only [hf]
  rw [putC_true]; simp
theorem srtC_filter {l : List Config} (h : srtC l) (q : Config → Bool) : srtC (l.filter q) := List.Pairwise.filter _ h
theorem srtC_put {l : List Config} (r : Record) (hs : srtC l) : srtC (putC l r) := by
  cases hf : r.flag with
  | true => rw [putC_del r hf]; exact srtC_filter hs _
  | false =>
    rw [putC_put r hs hf]
    unfold srtC
    rw [List.pairwise_append, List.pairwise_cons]
    refine ⟨srtC_filter hs _, ⟨fun b hb => ?_, srtC_filter hs _⟩, fun a ha b hb => ?_⟩
    · have hb := (List.mem_filter.1 hb).2
      simp only [Bool.and_eq_true, Bool.not_eq_true'] at hb
      exact ah_tri hb.1 hb.2 _
    · have ha := (List.mem_filter.1 ha).2
      rcases List.mem_cons.1 hb with rfl | hb
      · exact ha
      · have hb := (List.mem_filter.1 hb).2
        simp only [Bool.and_eq_true, Bool.not_eq_true'] at hb
        exact ah_trans (b := newC r) ha (ah_tri hb.1 hb.2 _)
end Go.Am
end
section
namespace Go.Am
open Go
noncomputable section
def rackOf (m : Image) (id : Int) : ByteArray := ((m.broker id).getD zB).rack
def getM : List (ByteArray × Int) → ByteArray → Int
  | [], _ => 0
  | e :: l, s => if s == e.1 then e.2 else getM l s
def putM : List (ByteArray × Int) → ByteArray → Int → List (ByteArray × Int)
  | [], s, n => [(s, n)]
  | e :: l, s, n => if s == e.1 then (s, n) :: l else e :: putM l s n
structure Ch where
  at' : Nat
  taken : List Int
  met : List (ByteArray × Int)
def nth (order : List Int) (i : Nat) : Int := order.getD (i % order.length) 0
def stepB (m : Image) (order : List Int) (c : Ch) (best : Int) (k : Nat) : Int :=
  let id := nth order (c.at' + k)
  if c.taken.contains id then best else if best < 0 ∨ getM c.met (rackOf m id) < getM c.met (rackOf m best) then id else best
def bestB (m : Image) (order : List Int) (c : Ch) : Int := (List.range order.length).foldl (stepB m order c) (-1)
def nextC (m : Image) (order : List Int) (c : Ch) : Ch := { c with taken := c.taken ++ [bestB m order c], met := putM c.met (rackOf m (bestB m order c)) (getM c.met (rackOf m (bestB m order c)) + 1) }
end
end Go.Am
end
section
namespace Go.Am
open Go
theorem ah_same {t : Int} {k : ByteArray} {c x : Config} (h : neC t k c = false) : ahC c.topic c.key x = ahC t k x := by
  simp only [neC, Bool.or_eq_false_iff, bne_eq_false_iff_eq, Bool.not_eq_false', beq_iff_eq] at h
  unfold ahC lessS
  rw [h.1, h.2]
theorem ne_find (t : Int) (k : ByteArray) (c : Config) : (c.topic == t && c.key.toList == k.toList) = !neC t k c := by
  unfold neC; cases h : (c.topic == t) <;> simp [h, bne]
variable {l : List Config} {t : Int} {k : ByteArray}
theorem after_ne (hs : srtC l) {i : Nat} (hi : i < l.length) (h : ahC t k l[i] = false) : ∀ c ∈ l.drop (i + 1), neC t k c = true := by
  intro c hc
  obtain ⟨j, hj, rfl⟩ := List.mem_iff_getElem.1 hc
  rw [List.getElem_drop]
  rw [List.length_drop] at hj
  have := List.pairwise_iff_getElem.1 hs i (i + 1 + j) hi (by omega) (by omega)
  cases hn : neC t k l[i + 1 + j] with
  | true => rfl
  | false => rw [ah_same hn] at this; rw [this] at h; cases h
theorem take_ne (hs : srtC l) : ∀ c ∈ l.take (l.countP (ahC t k)), neC t k c = true := by
  intro c hc
  rw [(count_pre (clo_C hs t k)).1] at hc
  exact ah_ne (List.mem_filter.1 hc).2
theorem conf_find (hs : srtC l) : l.find? (fun c => c.topic == t && c.key.toList == k.toList) = if h : l.countP (ahC t k) < l.length then (if neC t k l[l.countP (ahC t k)] then none else some l[l.countP (ahC t k)]) else none := by
  have e : (fun c : Config => c.topic == t && c.key.toList == k.toList) = fun c => !neC t k c := funext fun c => ne_find t k c
  rw [e]
  have h3 := (count_pre (clo_C hs t k)).2.2
  have ht := take_ne (t := t) (k := k) hs
  generalize l.countP (ahC t k) = i at *
  have h1 : (l.take i).find? (fun c => !neC t k c) = none := by rw [List.find?_eq_none]; intro c hc; rw [ht c hc]; simp
  conv => lhs; rw [← List.take_append_drop i l]
  rw [List.find?_append, h1, Option.none_or]
  split
  · rename_i hi
    have ha : ahC t k l[i] = false := by
      cases hx : ahC t k l[i] with
      | false => rfl
      | true => have := (h3 i hi).2 hx; omega
    rw [List.drop_eq_getElem_cons hi, List.find?_cons]
    cases hn : neC t k l[i] with
    | true =>
      simp only [Bool.not_true, if_true]
      rw [List.find?_eq_none]; intro c hc; rw [after_ne hs hi ha c hc]; simp
    | false => simp
  · rename_i hi
    rw [List.drop_eq_nil_of_le (by omega)]; rfl
theorem filt_split : l.filter (fun c => !ahC t k c && neC t k c) = (l.filter fun c => !ahC t k c).filter (neC t k) := by
  rw [List.filter_filter]
  refine List.filter_congr fun c _ => ?_
  rw [Bool.and_comm]
theorem put_fresh (r : Record) (hs : srtC l) (hf : r.flag = false) (hn : l.find? (fun c => c.topic == r.topic && c.key.toList == r.key.toList) = none) : putC l r = l.take (l.countP (ahC r.topic r.key)) ++ newC r :: l.drop (l.countP (ahC r.topic r.key)) := by
  have hp := count_pre (clo_C hs r.topic r.key)
  rw [putC_put r hs hf, filt_split, ← hp.1, ← hp.2.1]
  congr 2
  refine List.filter_eq_self.2 fun c hc => ?_
  have := List.find?_eq_none.1 hn c (List.mem_of_mem_drop hc)
  rw [ne_find] at this
  simpa using this
theorem put_there (r : Record) (hs : srtC l) (hf : r.flag = false) (hi : l.countP (ahC r.topic r.key) < l.length) (hn : neC r.topic r.key l[l.countP (ahC r.topic r.key)] = false) : putC l r = l.take (l.countP (ahC r.topic r.key)) ++ newC r :: l.drop (l.countP (ahC r.topic r.key) + 1) := by
  have hp := count_pre (clo_C hs r.topic r.key)
  have ha : ahC r.topic r.key l[l.countP (ahC r.topic r.key)] = false := by
    cases hx : ahC r.topic r.key l[l.countP (ahC r.topic r.key)] with
    | false => rfl
    | true => rw [ah_ne hx] at hn; cases hn
  rw [putC_put r hs hf, filt_split, ← hp.1, ← hp.2.1]
  congr 2
  rw [List.drop_eq_getElem_cons hi, List.filter_cons_of_neg (by rw [hn]; simp)]
  exact List.filter_eq_self.2 (after_ne hs hi ha)
theorem del_there (r : Record) (hs : srtC l) (hf : r.flag = true) (hi : l.countP (ahC r.topic r.key) < l.length) (hn : neC r.topic r.key l[l.countP (ahC r.topic r.key)] = false) : putC l r = l.take (l.countP (ahC r.topic r.key)) ++ l.drop (l.countP (ahC r.topic r.key) + 1) := by
  have ha : ahC r.topic r.key l[l.countP (ahC r.topic r.key)] = false := by
    cases hx : ahC r.topic r.key l[l.countP (ahC r.topic r.key)] with
    | false => rfl
    | true => rw [ah_ne hx] at hn; cases hn
  have ht := take_ne (t := r.topic) (k := r.key) hs
  rw [putC_del r hf]
  generalize l.countP (ahC r.topic r.key) = i at *
  conv => lhs; rw [← List.take_append_drop i l]
  rw [List.filter_append, List.filter_eq_self.2 ht, List.drop_eq_getElem_cons hi, List.filter_cons_of_neg (by rw [hn]; simp), List.filter_eq_self.2 (after_ne hs hi ha)]
end Go.Am
end
section
namespace Go.Am
open Go
noncomputable section
def iterC (m : Image) (order : List Int) : Nat → Ch → Ch
  | 0, c => c
  | n + 1, c => iterC m order n (nextC m order c)
def oneP (m : Image) (order : List Int) (at' r : Nat) : List Int := (iterC m order r ⟨at', [], []⟩).taken
def rowsP (m : Image) (order : List Int) (start r parts : Nat) : List (List Int) := (List.range parts).map fun p => oneP m order (start + p) r
abbrev Bad' := ByteArray × Int × Int
def Image.assign (m : Image) (parts r start : Int) : List (List Int) × Option Bad' :=
  if parts < 1 ∨ 256 < parts then ([], some (bs [112, 97, 114, 116, 115], parts, 2))
  else if r < 1 ∨ 7 < r ∨ (m.order.length : Int) < r then ([], some (bs [114, 101, 112, 108, 105, 99, 97, 115], r, 18))
  else if start < 0 ∨ 1073741824 < start then ([], some (bs [115, 116, 97, 114, 116], start, 2))
  else (rowsP m m.order start.toNat r.toNat parts.toNat, none)
structure ChOk (m : Image) (order : List Int) (at' : Nat) (j : Nat) (c : Ch) : Prop where
  at' : c.at' = at'
  len : c.taken.length = j
  nd : c.taken.Nodup
  sub : ∀ id ∈ c.taken, id ∈ order
  met : ∀ s, getM c.met s = (c.taken.countP fun id => rackOf m id == s : Nat)
theorem ChOk.zero (m : Image) (order : List Int) (at' : Nat) : ChOk m order at' 0 ⟨at', [], []⟩ := ⟨rfl, rfl, List.nodup_nil, by simp, by simp [getM]⟩
end
end Go.Am
end
section
namespace Go.Am
open Go
noncomputable section
end
end Go.Am
end
section
namespace Go.Am
open Go
open Classical
noncomputable section
theorem get_data (b : ByteArray) (i : Nat) (h : i < b.data.toList.length) : b.get! i = b.data.toList[i] := by
  rcases b with ⟨d⟩
  have hi : i < d.size := by simpa using h
  show d[i]! = _
  rw [getElem!_pos d i hi]
  simp
theorem toList_loop (b : ByteArray) : ∀ (n i : Nat) (r : List UInt8), b.size - i = n → ByteArray.toList.loop b i r = r.reverse ++ b.data.toList.drop i := by
  intro n
  have hs : b.data.toList.length = b.size := by rw [Array.length_toList]; rfl
  induction n with
  | zero =>
    intro i r h
    rw [ByteArray.toList.loop]
    rw [if_neg (by omega), List.drop_eq_nil_of_le (by omega), List.append_nil]
  | succ n ih =>
    intro i r h
    rw [ByteArray.toList.loop]
    rw [if_pos (by omega), ih (i + 1) _ (by omega), get_data b i (by omega), List.drop_eq_getElem_cons (show i < b.data.toList.length by omega), List.reverse_cons, List.append_assoc]
    rfl
theorem toList_data (b : ByteArray) : b.toList = b.data.toList := by
  have := toList_loop b b.size 0 [] (by omega)
  unfold ByteArray.toList
  rw [this]; simp
theorem eqS_iff (a b : ByteArray) : eqS a b = true ↔ a = b := by
  unfold eqS
  rw [beq_iff_eq, toList_data, toList_data]
  constructor
  · intro h
    rcases a with ⟨a⟩; rcases b with ⟨b⟩
    simp only at h
    rw [Array.toList_inj.1 h]
  · rintro rfl; rfl
end
end Go.Am
end
