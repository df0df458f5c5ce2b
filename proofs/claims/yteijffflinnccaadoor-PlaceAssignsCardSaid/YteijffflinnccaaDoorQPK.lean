/- Part of the proof of a law of placing. -/
import Derived.Test.YteijffflinnccaaDoorQPU
set_option linter.all false
section
namespace Go.Am
open Go
noncomputable section
theorem bl_irrefl : ∀ (a : List UInt8), Op.bytesLess a a = false := by
  intro a
  induction a with
  | nil => rfl
  | cons x a ih => simp [Op.bytesLess, ih]
theorem bl_trans : ∀ (a b c : List UInt8), Op.bytesLess a b = true → Op.bytesLess b c = true → Op.bytesLess a c = true := by
  intro a
  induction a with
  | nil =>
    intro b c h1 h2
    cases c with
    | nil => cases b <;> simp [Op.bytesLess] at h2
    | cons z c => rfl
  | cons x a ih =>
    intro b c h1 h2
    cases b with
    | nil => simp [Op.bytesLess] at h1
    | cons y b =>
      cases c with
      | nil => simp [Op.bytesLess] at h2
      | cons z c =>
        simp only [Op.bytesLess, Bool.or_eq_true, decide_eq_true_eq, Bool.and_eq_true, beq_iff_eq] at *
        rcases h1 with h1 | ⟨rfl, h1⟩
        · rcases h2 with h2 | ⟨rfl, h2⟩
          · exact .inl (UInt8.lt_trans h1 h2)
          · exact .inl h1
        · rcases h2 with h2 | ⟨rfl, h2⟩
          · exact .inl h2
          · exact .inr ⟨rfl, ih _ _ h1 h2⟩
theorem bl_tri : ∀ (a b : List UInt8), Op.bytesLess a b = false → Op.bytesLess b a = false → a = b := by
  intro a
  induction a with
  | nil => intro b h1 h2; cases b with
    | nil => rfl
    | cons y b => simp [Op.bytesLess] at h1
  | cons x a ih =>
    intro b h1 h2
    cases b with
    | nil => simp [Op.bytesLess] at h2
    | cons y b =>
      simp only [Op.bytesLess, Bool.or_eq_false_iff, decide_eq_false_iff_not, Bool.and_eq_false_iff, beq_eq_false_iff_ne] at *
      have e : x = y := by
        rcases h1 with ⟨h1, _⟩
        rcases h2 with ⟨h2, _⟩
        exact UInt8.le_antisymm (by simpa using h2) (by simpa using h1)
      subst e
      rw [ih b (h1.2.resolve_left (by simp)) (h2.2.resolve_left (by simp))]
abbrev lessS (a b : ByteArray) : Bool := Op.bytesLess a.toList b.toList
abbrev eqS (a b : ByteArray) : Bool := a.toList == b.toList
def cmpS (a b : ByteArray) : Int := if lessS a b then -1 else if !(lessS a b || eqS a b) then 1 else 0
theorem cmpS_neg (a b : ByteArray) : cmpS a b < 0 ↔ lessS a b = true := by
  unfold cmpS; split
  · rename_i h; simp [h]
  · rename_i h; split <;> simp [h]
theorem cmpS_zero (a b : ByteArray) : (cmpS a b == 0) = eqS a b := by
  unfold cmpS
  by_cases h1 : lessS a b = true
  · have : eqS a b = false := by
      rw [beq_eq_false_iff_ne]; intro e
      unfold lessS at h1
      rw [e, bl_irrefl] at h1; cases h1
    simp [h1, this]
  · by_cases h2 : eqS a b = true <;> simp [h1, h2]
structure Rack where
  name : ByteArray
  ids : List Int
def rpos (l : List Rack) (s : ByteArray) : Nat := (l.takeWhile fun r => lessS r.name s).length
abbrev srtK (l : List Rack) : Prop := l.Pairwise fun a b => lessS a.name b.name = true
theorem rpos_le (l : List Rack) (s : ByteArray) : rpos l s ≤ l.length := (List.takeWhile_sublist _).length_le
theorem rpos_iff {l : List Rack} (s : ByteArray) (h : srtK l) : ∀ (i : Nat) (hi : i < l.length), i < rpos l s ↔ lessS l[i].name s = true := by
  unfold rpos
  induction l with
  | nil => intro i hi; simp at hi
  | cons r l ih =>
    intro i hi
    rw [srtK, List.pairwise_cons] at h
    rw [List.takeWhile_cons]
    cases hr : lessS r.name s with
    | true =>
      cases i with
      | zero => simp [hr]
      | succ i =>
        simp only [if_true, List.length_cons, List.getElem_cons_succ]
        rw [← ih h.2 i (by simpa using hi)]
        omega
    | false =>
      simp only [Bool.false_eq_true, if_false, List.length_nil, Nat.not_lt_zero, false_iff]
      cases i with
      | zero => simp [hr]
      | succ i =>
        simp only [List.getElem_cons_succ]
        intro hl
        have hil : i < l.length := by simpa using hi
        have := h.1 l[i] (List.getElem_mem hil)
        have := bl_trans _ _ _ this hl
        unfold lessS at hr
        rw [this] at hr; cases hr
def rthere (l : List Rack) (s : ByteArray) : Bool := match l[rpos l s]? with | some r => eqS r.name s | none => false
def rput (l : List Rack) (s : ByteArray) : List Rack := if rthere l s then l else l.take (rpos l s) ++ ⟨s, []⟩ :: l.drop (rpos l s)
def radd (l : List Rack) (i : Nat) (id : Int) : List Rack := l.modify i fun r => { r with ids := r.ids ++ [id] }
def readyB (b : Broker) : Bool := !b.fenced && !b.leaving
def rackStep (l : List Rack) (b : Broker) : List Rack := if readyB b then radd (rput l b.rack) (rpos l b.rack) b.id else l
def racksOf (l : List Broker) : List Rack := l.foldl rackStep []
theorem rput_at (l : List Rack) (s : ByteArray) : rpos l s < (rput l s).length := by
  have := rpos_le l s
  unfold rput
  split
  · rename_i h
    unfold rthere at h
    split at h
    · rename_i r hr
      rcases Nat.lt_or_ge (rpos l s) l.length with h' | h'
      · exact h'
      · rw [List.getElem?_eq_none h'] at hr; cases hr
    · cases h
  · simp; omega
theorem rput_len (l : List Rack) (s : ByteArray) : (rput l s).length ≤ l.length + 1 := by
  unfold rput; split
  · omega
  · simp; omega
theorem rput_srt {l : List Rack} (s : ByteArray) (h : srtK l) : srtK (rput l s) := by
  unfold rput
  split
  · exact h
  · rename_i ht
    have hp := rpos_le l s
    have h1 : ∀ r ∈ l.take (rpos l s), lessS r.name s = true := by
      intro r hr
      obtain ⟨i, hi, rfl⟩ := List.getElem_of_mem hr
      simp only [List.length_take] at hi
      rw [List.getElem_take]
      exact (rpos_iff s h i (by omega)).1 (by omega)
    have h2 : ∀ r ∈ l.drop (rpos l s), lessS s r.name = true := by
      intro r hr
      obtain ⟨i, hi, rfl⟩ := List.getElem_of_mem hr
      simp only [List.length_drop] at hi
      rw [List.getElem_drop]
      have hlt : rpos l s + i < l.length := by omega
      have h3 : ¬ lessS l[rpos l s + i].name s = true := fun hh => by have := (rpos_iff s h _ hlt).2 hh; omega
      by_cases h4 : lessS s l[rpos l s + i].name = true
      · exact h4
      · exfalso
        have e := bl_tri _ _ (by simpa using h3) (by simpa using h4)
        cases i with
        | zero =>
          apply ht
          unfold rthere
          rw [List.getElem?_eq_getElem (show rpos l s < l.length by omega)]
          simp only [Nat.add_zero] at e
          simp [eqS, e]
        | succ i =>
          have hlt0 : rpos l s < l.length := by omega
          have h5 : ¬ lessS l[rpos l s].name s = true := fun hh => by have := (rpos_iff s h _ hlt0).2 hh; omega
          have h6 : lessS l[rpos l s].name l[rpos l s + (i + 1)].name = true := by
            have := List.pairwise_iff_getElem.1 h (rpos l s) (rpos l s + (i + 1)) hlt0 hlt (by omega)
            exact this
          unfold lessS at h5 h6
          rw [e] at h6
          exact h5 h6
    rw [srtK, List.pairwise_append]
    refine ⟨List.Pairwise.sublist (List.take_sublist _ _) h, ?_, ?_⟩
    · rw [List.pairwise_cons]
      exact ⟨fun r hr => h2 r hr, List.Pairwise.sublist (List.drop_sublist _ _) h⟩
    · intro a ha b hb
      rcases List.mem_cons.1 hb with rfl | hb
      · exact h1 a ha
      · exact bl_trans _ _ _ (h1 a ha) (h2 b hb)
theorem radd_srt {l : List Rack} (i : Nat) (id : Int) (h : srtK l) : srtK (radd l i id) := by
  unfold radd srtK at *
  rw [List.pairwise_iff_getElem] at *
  intro a b ha hb hab
  simp only [List.length_modify] at ha hb
  have := h a b ha hb hab
  simp only [List.getElem_modify]
  split <;> split <;> exact this
theorem rackStep_srt {l : List Rack} (b : Broker) (h : srtK l) : srtK (rackStep l b) := by
  unfold rackStep; split
  · exact radd_srt _ _ (rput_srt _ h)
  · exact h
theorem rackStep_len (l : List Rack) (b : Broker) : (rackStep l b).length ≤ l.length + 1 := by
  unfold rackStep; split
  · simpa [radd] using rput_len l b.rack
  · omega
theorem racksOf_len : ∀ (l : List Broker) (s : List Rack) (n : Nat), s.length ≤ n → (∀ r ∈ s, r.ids.length ≤ n) → (l.foldl rackStep s).length ≤ n + l.length ∧ ∀ r ∈ l.foldl rackStep s, r.ids.length ≤ n + l.length := by
  intro l
  induction l with
  | nil => intro s n h1 h2; exact ⟨h1, h2⟩
  | cons b l ih =>
    intro s n h1 h2
    have h3 := rackStep_len s b
    have h4 : ∀ r ∈ rackStep s b, r.ids.length ≤ n + 1 := by
      intro r hr
      unfold rackStep at hr
      split at hr
      · have hp : ∀ r ∈ rput s b.rack, r.ids.length ≤ n := by
          intro r hr
          unfold rput at hr
          split at hr
          · exact h2 r hr
          · rcases List.mem_append.1 hr with hr | hr
            · exact h2 r (List.mem_of_mem_take hr)
            · rcases List.mem_cons.1 hr with rfl | hr
              · simp
              · exact h2 r (List.mem_of_mem_drop hr)
        obtain ⟨j, hj, rfl⟩ := List.getElem_of_mem hr
        simp only [radd, List.length_modify] at hj
        simp only [radd, List.getElem_modify]
        have := hp _ (List.getElem_mem hj)
        split
        · simp; omega
        · omega
      · have := h2 r hr; omega
    have := ih (rackStep s b) (n + 1) (by omega) h4
    simp only [List.foldl_cons, List.length_cons]
    exact ⟨by omega, fun r hr => by have := this.2 r hr; omega⟩
def roundK (l : List Rack) (i : Nat) : List Int := l.flatMap fun r => (r.ids[i]?).toList
def orderOf (l : List Rack) : List Int := (List.range 1000).flatMap (roundK l)
def Image.order (m : Image) : List Int := orderOf (racksOf m.brokers)
theorem roundK_len (l : List Rack) (i : Nat) : (roundK l i).length ≤ l.length := by
  unfold roundK
  induction l with
  | nil => simp
  | cons r l ih =>
    simp only [List.flatMap_cons, List.length_append, List.length_cons]
    have : ((r.ids[i]?).toList).length ≤ 1 := by cases r.ids[i]? <;> simp
    omega
theorem flat_len_le {α β : Type} (g : α → List β) (N : Nat) : ∀ (l : List α), (∀ x ∈ l, (g x).length ≤ N) → (l.flatMap g).length ≤ l.length * N := by
  intro l
  induction l with
  | nil => simp
  | cons x l ih =>
    intro h
    have h1 := h x (by simp)
    have h2 := ih fun y hy => h y (by simp [hy])
    simp only [List.flatMap_cons, List.length_append, List.length_cons, Nat.add_mul]
    omega
theorem orderOf_len (l : List Rack) : (orderOf l).length ≤ 1000 * l.length := by
  have := flat_len_le (roundK l) l.length (List.range 1000) (fun x _ => roundK_len l x)
  simpa [orderOf] using this
theorem roundK_nil {l : List Rack} {i : Nat} (h : ∀ r ∈ l, r.ids.length ≤ i) : roundK l i = [] := by
  unfold roundK
  rw [List.flatMap_eq_nil_iff]
  intro r hr
  rw [List.getElem?_eq_none (h r hr)]; rfl
theorem rest_nil {l : List Rack} {i : Nat} (h : ∀ r ∈ l, r.ids.length ≤ i) : ((List.range 1000).drop i).flatMap (roundK l) = [] := by
  rw [List.flatMap_eq_nil_iff]
  intro j hj
  refine roundK_nil fun r hr => ?_
  obtain ⟨k, hk, rfl⟩ := List.getElem_of_mem hj
  have := h r hr
  simp; omega
end
end Go.Am
end
section
namespace Go.Am
open Go
noncomputable section
def rackOf (m : Image) (id : Int) : ByteArray := ((m.broker id).getD zB).rack
def getM : List (ByteArray × Int) → ByteArray → Int
  | [], _ => 0
  | e :: l, s => if s == e.1 then e.2 else getM l s
def putM : List (ByteArray × Int) → ByteArray → Int → List (ByteArray × Int)
  | [], s, n => [(s, n)]
  | e :: l, s, n => if s == e.1 then (s, n) :: l else e :: putM l s n
theorem bae {a b : ByteArray} : (a == b) = true ↔ a = b := by
  constructor
  · intro h
    rcases a with ⟨a⟩; rcases b with ⟨b⟩
    have h : (a == b) = true := by simpa [BEq.beq, ByteArray.beq] using h
    rw [eq_of_beq h]
  · rintro rfl
    rcases a with ⟨a⟩
    show (a == a) = true
    simp
theorem getM_putM (l : List (ByteArray × Int)) (s t : ByteArray) (n : Int) : getM (putM l s n) t = if t = s then n else getM l t := by
  induction l with
  | nil =>
    simp only [putM, getM]
    by_cases h : t = s
    · rw [if_pos (bae.2 h), if_pos h]
    · rw [if_neg (fun h' => h (bae.1 h')), if_neg h]
  | cons e l ih =>
    simp only [putM]
    by_cases hse : (s == e.1) = true
    · rw [if_pos hse]
      have hse' := bae.1 hse
      simp only [getM]
      by_cases h : t = s
      · rw [if_pos (bae.2 h), if_pos h]
      · rw [if_neg (fun h' => h (bae.1 h')), if_neg h, if_neg (fun h' => h (by rw [hse']; exact bae.1 h'))]
    · rw [if_neg hse]
      simp only [getM, ih]
      by_cases hte : (t == e.1) = true
      · rw [if_pos hte]
        have : ¬ t = s := fun e2 => hse (by rw [← e2]; exact hte)
        simp only [if_neg this, if_pos hte]
      · rw [if_neg hte]
        by_cases h : t = s
        · simp [h]
        · simp only [if_neg h, if_neg hte]
structure Ch where
  at' : Nat
  taken : List Int
  met : List (ByteArray × Int)
def nth (order : List Int) (i : Nat) : Int := order.getD (i % order.length) 0
def stepB (m : Image) (order : List Int) (c : Ch) (best : Int) (k : Nat) : Int :=
  let id := nth order (c.at' + k)
  if c.taken.contains id then best else if best < 0 ∨ getM c.met (rackOf m id) < getM c.met (rackOf m best) then id else best
def bestB (m : Image) (order : List Int) (c : Ch) : Int := (List.range order.length).foldl (stepB m order c) (-1)
def nextC (m : Image) (order : List Int) (c : Ch) : Ch := { c with taken := c.taken ++ [bestB m order c], met := putM c.met (rackOf m (bestB m order c)) (getM c.met (rackOf m (bestB m order c)) + 1) }
theorem nth_mem {order : List Int} (h : order ≠ []) (i : Nat) : nth order i ∈ order := by
  have hl : 0 < order.length := List.length_pos_iff.2 h
  have := Nat.mod_lt i hl
  unfold nth
  rw [List.getD_eq_getElem?_getD, List.getElem?_eq_getElem this]
  exact List.getElem_mem _
theorem stepB_mem {m : Image} {order : List Int} {c : Ch} {best : Int} {k : Nat} (h : order ≠ []) (hb : best = -1 ∨ (best ∈ order ∧ c.taken.contains best = false)) : stepB m order c best k = -1 ∨ (stepB m order c best k ∈ order ∧ c.taken.contains (stepB m order c best k) = false) := by
  unfold stepB
  simp only
  split
  · exact hb
  · rename_i ht
    split
    · exact .inr ⟨nth_mem h _, by simpa using ht⟩
    · exact hb
theorem foldB_mem {m : Image} {order : List Int} {c : Ch} (h : order ≠ []) : ∀ (l : List Nat) (best : Int), (best = -1 ∨ (best ∈ order ∧ c.taken.contains best = false)) → l.foldl (stepB m order c) best = -1 ∨ (l.foldl (stepB m order c) best ∈ order ∧ c.taken.contains (l.foldl (stepB m order c) best) = false) := by
  intro l
  induction l with
  | nil => intro best hb; exact hb
  | cons k l ih => intro best hb; exact ih _ (stepB_mem h hb)
theorem stepB_pos {m : Image} {order : List Int} {c : Ch} (hp : ∀ id ∈ order, 0 < id) (h : order ≠ []) {best : Int} {k : Nat} (hb : 0 < best) : 0 < stepB m order c best k := by
  have hn := hp _ (nth_mem h (c.at' + k))
  unfold stepB
  simp only
  split
  · exact hb
  · split
    · exact hn
    · exact hb
theorem foldB_pos {m : Image} {order : List Int} {c : Ch} (hp : ∀ id ∈ order, 0 < id) (h : order ≠ []) : ∀ (l : List Nat) (best : Int), (0 < best ∨ (best < 0 ∧ ∃ k ∈ l, c.taken.contains (nth order (c.at' + k)) = false)) → 0 < l.foldl (stepB m order c) best := by
  intro l
  induction l with
  | nil =>
    intro best hb
    rcases hb with hb | ⟨_, k, hk, _⟩
    · exact hb
    · cases hk
  | cons k l ih =>
    intro best hb
    refine ih _ ?_
    have hn := hp _ (nth_mem h (c.at' + k))
    rcases hb with hb | ⟨h0, j, hj, hjt⟩
    · exact .inl (stepB_pos hp h hb)
    · by_cases hk : c.taken.contains (nth order (c.at' + k)) = true
      · right
        have e : stepB m order c best k = best := by unfold stepB; simp only [hk, if_true]
        rw [e]
        refine ⟨h0, j, ?_, hjt⟩
        rcases List.mem_cons.1 hj with rfl | hj
        · rw [hk] at hjt; cases hjt
        · exact hj
      · left
        unfold stepB
        simp only [hk, Bool.false_eq_true, if_false]
        rw [if_pos (.inl h0)]
        exact hn
theorem nth_all {order : List Int} (i : Nat) {id : Int} (h : id ∈ order) : ∃ k, k < order.length ∧ nth order (i + k) = id := by
  obtain ⟨j, hj, rfl⟩ := List.getElem_of_mem h
  have hl : 0 < order.length := by omega
  have hm := Nat.mod_lt i hl
  refine ⟨(j + order.length - i % order.length) % order.length, Nat.mod_lt _ hl, ?_⟩
  have : (i + (j + order.length - i % order.length) % order.length) % order.length = j := by
    rw [Nat.add_mod, Nat.mod_mod, ← Nat.add_mod]
    have e : i + (j + order.length - i % order.length) = j + order.length * (i / order.length + 1) := by
      have := Nat.div_add_mod i order.length
      rw [Nat.mul_add]
      omega
    rw [e, Nat.add_mul_mod_self_left, Nat.mod_eq_of_lt hj]
  unfold nth
  rw [this, List.getD_eq_getElem?_getD, List.getElem?_eq_getElem hj]; rfl
theorem bestB_ok {m : Image} {order : List Int} {c : Ch} (hp : ∀ id ∈ order, 0 < id) (h : ∃ id ∈ order, id ∉ c.taken) : 0 < bestB m order c ∧ bestB m order c ∈ order ∧ bestB m order c ∉ c.taken := by
  obtain ⟨id, hid, ht⟩ := h
  have hne : order ≠ [] := List.ne_nil_of_mem hid
  obtain ⟨k, hk, e⟩ := nth_all c.at' hid
  have h1 : 0 < bestB m order c := foldB_pos hp hne _ _ (.inr ⟨by omega, k, List.mem_range.2 hk, by rw [e]; simpa using ht⟩)
  rcases foldB_mem (m := m) (c := c) hne (List.range order.length) (-1) (.inl rfl) with h2 | h2
  · unfold bestB at h1; rw [h2] at h1; omega
  · exact ⟨h1, h2.1, by simpa [bestB] using h2.2⟩
end
end Go.Am
end
section
namespace Go.Am
open Go
noncomputable section
def iterC (m : Image) (order : List Int) : Nat → Ch → Ch
  | 0, c => c
  | n + 1, c => iterC m order n (nextC m order c)
def oneP (m : Image) (order : List Int) (at' r : Nat) : List Int := (iterC m order r ⟨at', [], []⟩).taken
def rowsP (m : Image) (order : List Int) (start r parts : Nat) : List (List Int) := (List.range parts).map fun p => oneP m order (start + p) r
abbrev Bad' := ByteArray × Int × Int
def Image.assign (m : Image) (parts r start : Int) : List (List Int) × Option Bad' :=
  if parts < 1 ∨ 256 < parts then ([], some (bs [112, 97, 114, 116, 115], parts, 2))
  else if r < 1 ∨ 7 < r ∨ (m.order.length : Int) < r then ([], some (bs [114, 101, 112, 108, 105, 99, 97, 115], r, 18))
  else if start < 0 ∨ 1073741824 < start then ([], some (bs [115, 116, 97, 114, 116], start, 2))
  else (rowsP m m.order start.toNat r.toNat parts.toNat, none)
theorem iterC_succ (m : Image) (order : List Int) : ∀ (n : Nat) (c : Ch), iterC m order (n + 1) c = nextC m order (iterC m order n c) := by
  intro n
  induction n with
  | zero => intro c; rfl
  | succ n ih => intro c; rw [iterC, ih]; rfl
structure ChOk (m : Image) (order : List Int) (at' : Nat) (j : Nat) (c : Ch) : Prop where
  at' : c.at' = at'
  len : c.taken.length = j
  nd : c.taken.Nodup
  sub : ∀ id ∈ c.taken, id ∈ order
  met : ∀ s, getM c.met s = (c.taken.countP fun id => rackOf m id == s : Nat)
theorem nodup_le : ∀ (l t : List Int), l.Nodup → (∀ x ∈ l, x ∈ t) → l.length ≤ t.length := by
  intro l
  induction l with
  | nil => intro t _ _; simp
  | cons x l ih =>
    intro t hn hs
    rw [List.nodup_cons] at hn
    have hx := hs x (by simp)
    have := ih (t.erase x) hn.2 fun y hy => (List.mem_erase_of_ne (fun e => hn.1 (by rw [← e]; exact hy))).2 (hs y (by simp [hy]))
    rw [List.length_erase_of_mem hx] at this
    have := List.length_pos_of_mem hx
    simp only [List.length_cons]
    omega
theorem exists_free {order taken : List Int} (ho : order.Nodup) (hs : ∀ id ∈ taken, id ∈ order) (hl : taken.length < order.length) : ∃ id ∈ order, id ∉ taken := by
  apply Classical.byContradiction
  intro h
  have h1 : ∀ id ∈ order, id ∈ taken := fun id hid => Classical.byContradiction fun hn => h ⟨id, hid, hn⟩
  have := nodup_le order taken ho h1
  omega
theorem ChOk.next {m : Image} {order : List Int} {at' j : Nat} {c : Ch} (h : ChOk m order at' j c) (ho : order.Nodup) (hp : ∀ id ∈ order, 0 < id) (hl : j < order.length) : ChOk m order at' (j + 1) (nextC m order c) := by
  obtain ⟨h1, h2, h3⟩ := bestB_ok (m := m) hp (exists_free ho h.sub (by rw [h.len]; exact hl))
  refine ⟨h.at', by simp [nextC, h.len], ?_, ?_, ?_⟩
  · simp only [nextC, List.nodup_append]
    exact ⟨h.nd, by simp, fun a ha b hb e => h3 (by simp at hb; rw [← hb, ← e]; exact ha)⟩
  · intro id hid
    simp only [nextC, List.mem_append, List.mem_singleton] at hid
    rcases hid with hid | rfl
    · exact h.sub id hid
    · exact h2
  · intro s
    simp only [nextC, getM_putM, List.countP_append, List.countP_singleton]
    by_cases e : s = rackOf m (bestB m order c)
    · subst e
      rw [if_pos rfl, h.met, if_pos (bae.2 rfl)]
      omega
    · rw [if_neg e, if_neg (fun h' => e (bae.1 h').symm), h.met]
      omega
theorem ChOk.zero (m : Image) (order : List Int) (at' : Nat) : ChOk m order at' 0 ⟨at', [], []⟩ := ⟨rfl, rfl, List.nodup_nil, by simp, by simp [getM]⟩
theorem ChOk.iter {m : Image} {order : List Int} {at' : Nat} (ho : order.Nodup) (hp : ∀ id ∈ order, 0 < id) : ∀ (n j : Nat) (c : Ch), ChOk m order at' j c → j + n ≤ order.length → ChOk m order at' (j + n) (iterC m order n c) := by
  intro n
  induction n with
  | zero => intro j c h _; exact h
  | succ n ih =>
    intro j c h hl
    have := ih (j + 1) _ (h.next ho hp (by omega)) (by omega)
    rw [show j + (n + 1) = j + 1 + n by omega]
    exact this
theorem flat_rput (s : List Rack) (n : ByteArray) : (rput s n).flatMap Rack.ids = s.flatMap Rack.ids := by
  unfold rput
  split
  · rfl
  · rw [List.flatMap_append, List.flatMap_cons, List.nil_append, ← List.flatMap_append, List.take_append_drop]
theorem flat_radd {l : List Rack} {k : Nat} (id : Int) (h : k < l.length) : ((radd l k id).flatMap Rack.ids).Perm (l.flatMap Rack.ids ++ [id]) := by
  unfold radd
  rw [List.modify_eq_take_cons_drop h]
  conv => rhs; rw [← List.take_append_drop k l, List.drop_eq_getElem_cons h]
  simp only [List.flatMap_append, List.flatMap_cons, List.append_assoc]
  refine List.Perm.append_left _ (List.Perm.append_left _ ?_)
  exact List.perm_append_comm
theorem racks_perm : ∀ (l : List Broker) (s : List Rack), ((l.foldl rackStep s).flatMap Rack.ids).Perm (s.flatMap Rack.ids ++ (l.filter readyB).map Broker.id) := by
  intro l
  induction l with
  | nil => intro s; simp
  | cons b l ih =>
    intro s
    simp only [List.foldl_cons]
    refine (ih _).trans ?_
    cases hr : readyB b with
    | false => simp [rackStep, hr]
    | true =>
      have := flat_radd (l := rput s b.rack) b.id (rput_at s b.rack)
      rw [flat_rput] at this
      simp only [rackStep, hr, if_true, List.filter_cons, List.map_cons]
      refine (this.append_right _).trans ?_
      simp
theorem flat_swap {α β γ : Type} (f : α → β → List γ) (xs : List α) : ∀ (l : List β), (xs.flatMap fun i => l.flatMap fun r => f i r).Perm (l.flatMap fun r => xs.flatMap fun i => f i r) := by
  have key : ∀ (g h : α → List γ) (xs : List α), (xs.flatMap fun i => g i ++ h i).Perm (xs.flatMap g ++ xs.flatMap h) := by
    intro g h xs
    induction xs with
    | nil => simp
    | cons x xs ih =>
      simp only [List.flatMap_cons, List.append_assoc]
      refine List.Perm.append_left _ ?_
      refine (List.Perm.append_left _ ih).trans ?_
      rw [← List.append_assoc, ← List.append_assoc]
      exact List.Perm.append_right _ List.perm_append_comm
  intro l
  induction l with
  | nil => simp
  | cons r l ih =>
    simp only [List.flatMap_cons]
    exact (key _ _ _).trans (List.Perm.append_left _ ih)
theorem range_get : ∀ (n : Nat) (ids : List Int), ids.length ≤ n → ((List.range n).flatMap fun i => (ids[i]?).toList) = ids := by
  intro n
  induction n with
  | zero => intro ids h; have : ids = [] := List.eq_nil_of_length_eq_zero (by omega); subst this; rfl
  | succ n ih =>
    intro ids h
    cases ids with
    | nil => rw [List.flatMap_eq_nil_iff]; intro i _; simp
    | cons x ids =>
      rw [List.range_succ_eq_map, List.flatMap_cons, List.flatMap_map]
      simp only [List.getElem?_cons_zero, Option.toList_some, List.getElem?_cons_succ, List.cons_append, List.nil_append]
      rw [ih ids (by simpa using h)]
theorem orderOf_perm {l : List Rack} (h : ∀ r ∈ l, r.ids.length ≤ 1000) : (orderOf l).Perm (l.flatMap Rack.ids) := by
  unfold orderOf roundK
  generalize 1000 = N at *
  refine (flat_swap (fun i (r : Rack) => (r.ids[i]?).toList) (List.range N) l).trans ?_
  have : (l.flatMap fun r => (List.range N).flatMap fun i => (r.ids[i]?).toList) = l.flatMap Rack.ids := by
    induction l with
    | nil => rfl
    | cons r l ih =>
      simp only [List.flatMap_cons]
      rw [range_get N r.ids (h r (by simp)), ih fun q hq => h q (by simp [hq])]
  rw [this]
theorem order_perm (m : Image) (h : m.brokers.length ≤ 1000) : m.order.Perm ((m.brokers.filter readyB).map Broker.id) := by
  have h0 := racksOf_len m.brokers [] 0 (by simp) (by simp)
  refine (orderOf_perm fun r hr => by have := h0.2 r hr; omega).trans ?_
  have := racks_perm m.brokers []
  simp only [List.flatMap_nil, List.nil_append] at this
  exact this
end
end Go.Am
end
section
namespace Go.Am
open Go
noncomputable section
structure Ent where
  id : Int
  rank : Int
  name : ByteArray
def rankR (m : Image) (b : Broker) : Nat := m.brokers.countP fun x => readyB x && eqS x.rack b.rack && decide (x.id < b.id)
def befE (n : Int) (s : ByteArray) (e : Ent) : Bool := decide (e.rank < n) || (e.rank == n && lessS e.name s)
def posE (n : Int) (s : ByteArray) (l : List Ent) : Nat := (l.takeWhile (befE n s)).length
def insL {α : Type} (l : List α) (k : Nat) (x : α) : List α := l.take k ++ [x] ++ l.drop k
def insE (l : List Ent) (e : Ent) : List Ent := insL l (posE e.rank e.name l) e
def ordStep (m : Image) (l : List Ent) (b : Broker) : List Ent := if readyB b then insE l ⟨b.id, rankR m b, b.rack⟩ else l
def refEnts (m : Image) : List Ent := m.brokers.foldl (ordStep m) []
def refOrder (m : Image) : List Int := (refEnts m).map Ent.id
theorem posE_le (n : Int) (s : ByteArray) (l : List Ent) : posE n s l ≤ l.length := (List.takeWhile_sublist _).length_le
theorem posE_step (n : Int) (s : ByteArray) : ∀ (l : List Ent) (k : Nat) (hk : k < l.length), k ≤ posE n s l → befE n s l[k] = true → k + 1 ≤ posE n s l := by
  intro l
  induction l with
  | nil => intro k hk; simp at hk
  | cons e l ih =>
    intro k hk h1 h2
    unfold posE at h1 ⊢
    cases k with
    | zero =>
      simp only [List.getElem_cons_zero] at h2
      simp only [List.takeWhile_cons, h2, if_true, List.length_cons]
      omega
    | succ k =>
      rw [List.takeWhile_cons] at h1 ⊢
      split at h1
      · rename_i h
        rw [if_pos h]
        simp only [List.length_cons] at h1 ⊢
        have := ih k (by simpa using hk) (by unfold posE; omega) (by simpa using h2)
        unfold posE at this
        omega
      · simp at h1
theorem posE_stop (n : Int) (s : ByteArray) : ∀ (l : List Ent) (k : Nat), k ≤ posE n s l → (∀ hk : k < l.length, befE n s l[k] = false) → k = posE n s l := by
  intro l
  induction l with
  | nil => intro k h1 _; simp [posE] at h1 ⊢; omega
  | cons e l ih =>
    intro k h1 h2
    unfold posE at h1 ⊢
    cases k with
    | zero =>
      have := h2 (by simp)
      simp only [List.getElem_cons_zero] at this
      simp [List.takeWhile_cons, this]
    | succ k =>
      rw [List.takeWhile_cons] at h1 ⊢
      split at h1
      · rename_i h
        rw [if_pos h]
        simp only [List.length_cons] at h1 ⊢
        have := ih k (by unfold posE; omega) (fun hk => by have := h2 (by simpa using hk); simpa using this)
        unfold posE at this
        omega
      · simp at h1
theorem insL_map {α β : Type} (f : α → β) (l : List α) (k : Nat) (x : α) : (insL l k x).map f = insL (l.map f) k (f x) := by simp [insL, List.map_take, List.map_drop]
theorem insL_perm {α : Type} (l : List α) (k : Nat) (x : α) : (insL l k x).Perm (l ++ [x]) := by
  unfold insL
  conv => rhs; rw [← List.take_append_drop k l]
  rw [List.append_assoc, List.append_assoc]
  exact List.Perm.append_left _ List.perm_append_comm
theorem insL_len {α : Type} (l : List α) (k : Nat) (x : α) : (insL l k x).length = l.length + 1 := by
  rw [(insL_perm l k x).length_eq]; simp
theorem refEnts_perm (m : Image) : ∀ (bs : List Broker) (l : List Ent), ((bs.foldl (ordStep m) l).map Ent.id).Perm (l.map Ent.id ++ (bs.filter readyB).map Broker.id) := by
  intro bs
  induction bs with
  | nil => intro l; simp
  | cons b bs ih =>
    intro l
    simp only [List.foldl_cons]
    refine (ih _).trans ?_
    cases hr : readyB b with
    | false => simp [ordStep, hr]
    | true =>
      simp only [ordStep, hr, if_true, List.filter_cons, List.map_cons, insE, insL_map]
      refine ((insL_perm _ _ _).append_right _).trans ?_
      simp
theorem refOrder_perm (m : Image) : (refOrder m).Perm ((m.brokers.filter readyB).map Broker.id) := by
  have := refEnts_perm m m.brokers []
  simpa [refOrder, refEnts] using this
theorem refEnts_len (m : Image) : ∀ (bs : List Broker) (l : List Ent), (bs.foldl (ordStep m) l).length ≤ l.length + bs.length := by
  intro bs
  induction bs with
  | nil => intro l; simp
  | cons b bs ih =>
    intro l
    simp only [List.foldl_cons, List.length_cons]
    have := ih (ordStep m l b)
    have h : (ordStep m l b).length ≤ l.length + 1 := by
      unfold ordStep
      split
      · unfold insE; rw [insL_len]; omega
      · omega
    omega
def ckBad (order ids : List Int) (i : Nat) : Bool := !order.contains (ids.getD i 0) || (ids.take i).contains (ids.getD i 0)
def ckP (order ids : List Int) : Option Bad' :=
  if ids.length < 1 ∨ 7 < ids.length then some (bs [114, 101, 112, 108, 105, 99, 97, 115], (ids.length : Int), 18)
  else ((List.range ids.length).find? (ckBad order ids)).map fun i : Nat => (bs [114, 101, 112, 108, 105, 99, 97], (i : Int), 18)
def racksN (m : Image) (l : List Int) : Nat := (List.range l.length).countP fun i => (List.range i).all fun k => !eqS (rackOf m (l.getD i 0)) (rackOf m (l.getD k 0))
end
end Go.Am
end
section
namespace Go.Am
open Go
open Classical
noncomputable section
theorem get_data (b : ByteArray) (i : Nat) (h : i < b.data.toList.length) : b.get! i = b.data.toList[i] := by
  rcases b with ⟨d⟩
  have hi : i < d.size := by simpa using h
  show d[i]! = _
  rw [getElem!_pos d i hi]
  simp
theorem toList_loop (b : ByteArray) : ∀ (n i : Nat) (r : List UInt8), b.size - i = n → ByteArray.toList.loop b i r = r.reverse ++ b.data.toList.drop i := by
  intro n
  have hs : b.data.toList.length = b.size := by rw [Array.length_toList]; rfl
  induction n with
  | zero =>
    intro i r h
    rw [ByteArray.toList.loop]
    rw [if_neg (by omega), List.drop_eq_nil_of_le (by omega), List.append_nil]
  | succ n ih =>
    intro i r h
    rw [ByteArray.toList.loop]
    rw [if_pos (by omega), ih (i + 1) _ (by omega), get_data b i (by omega), List.drop_eq_getElem_cons (show i < b.data.toList.length by omega), List.reverse_cons, List.append_assoc]
    rfl
theorem toList_data (b : ByteArray) : b.toList = b.data.toList := by
  have := toList_loop b b.size 0 [] (by omega)
  unfold ByteArray.toList
  rw [this]; simp
theorem eqS_iff (a b : ByteArray) : eqS a b = true ↔ a = b := by
  unfold eqS
  rw [beq_iff_eq, toList_data, toList_data]
  constructor
  · intro h
    rcases a with ⟨a⟩; rcases b with ⟨b⟩
    simp only at h
    rw [Array.toList_inj.1 h]
  · rintro rfl; rfl
theorem nodup_le2 {α : Type} [DecidableEq α] : ∀ (l t : List α), l.Nodup → (∀ x ∈ l, x ∈ t) → l.length ≤ t.length := by
  intro l
  induction l with
  | nil => intro t _ _; simp
  | cons x l ih =>
    intro t hn hs
    rw [List.nodup_cons] at hn
    have hx := hs x (by simp)
    have := ih (t.erase x) hn.2 fun y hy => (List.mem_erase_of_ne (fun e => hn.1 (by rw [← e]; exact hy))).2 (hs y (by simp [hy]))
    rw [List.length_erase_of_mem hx] at this
    have := List.length_pos_of_mem hx
    simp only [List.length_cons]
    omega
def putD (s : List ByteArray) (x : ByteArray) : List ByteArray := if x ∈ s then s else s ++ [x]
def distR (m : Image) (l : List Int) : List ByteArray := l.foldl (fun s id => putD s (rackOf m id)) []
theorem distR_snoc (m : Image) (l : List Int) (x : Int) : distR m (l ++ [x]) = putD (distR m l) (rackOf m x) := by simp [distR, List.foldl_append]
theorem snocInd {α : Type} {P : List α → Prop} (h0 : P []) (h1 : ∀ l x, P l → P (l ++ [x])) (l : List α) : P l := by
  have : ∀ n (l : List α), l.length = n → P l := by
    intro n
    induction n with
    | zero => intro l h; rw [List.eq_nil_of_length_eq_zero h]; exact h0
    | succ n ih =>
      intro l h
      have hne : l ≠ [] := by intro e; subst e; simp at h
      rw [← List.dropLast_concat_getLast hne]
      exact h1 _ _ (ih _ (by rw [List.length_dropLast]; omega))
  exact this _ l rfl
theorem distR_ok (m : Image) (l : List Int) : (distR m l).Nodup ∧ ∀ s, s ∈ distR m l ↔ ∃ id ∈ l, rackOf m id = s := by
  induction l using snocInd with
  | h0 => simp [distR]
  | h1 l x ih =>
    obtain ⟨h1, h2⟩ := ih
    rw [distR_snoc]
    unfold putD
    split
    · rename_i h
      refine ⟨h1, fun s => ?_⟩
      rw [h2]
      constructor
      · rintro ⟨id, hid, e⟩; exact ⟨id, by simp [hid], e⟩
      · rintro ⟨id, hid, e⟩
        rcases List.mem_append.1 hid with hid | hid
        · exact ⟨id, hid, e⟩
        · simp at hid; subst hid; rw [← e]; exact (h2 _).1 h
    · rename_i h
      refine ⟨?_, fun s => ?_⟩
      · rw [List.nodup_append]
        exact ⟨h1, by simp, fun a ha b hb e => h (by simp at hb; rw [← hb, ← e]; exact ha)⟩
      · rw [List.mem_append, h2]
        constructor
        · rintro (⟨id, hid, e⟩ | hs)
          · exact ⟨id, by simp [hid], e⟩
          · simp at hs; exact ⟨x, by simp, hs.symm⟩
        · rintro ⟨id, hid, e⟩
          rcases List.mem_append.1 hid with hid | hid
          · exact .inl ⟨id, hid, e⟩
          · simp at hid; subst hid; exact .inr (by simp [e])
theorem racksN_eq (m : Image) (l : List Int) : racksN m l = (distR m l).length := by
  induction l using snocInd with
  | h0 => rfl
  | h1 l x ih =>
    rw [distR_snoc]
    have e : racksN m (l ++ [x]) = racksN m l + (if (List.range l.length).all (fun k => !eqS (rackOf m x) (rackOf m (l.getD k 0))) then 1 else 0) := by
      unfold racksN
      rw [List.length_append, List.length_singleton, List.range_succ, List.countP_append, List.countP_singleton]
      congr 1
      · apply List.countP_congr
        intro i hi
        have hi := List.mem_range.1 hi
        have g : ∀ k, k < l.length → (l ++ [x]).getD k 0 = l.getD k 0 := by
          intro k hk
          simp only [List.getD_eq_getElem?_getD]
          rw [List.getElem?_append_left hk]
        rw [g i hi]
        simp only [List.all_eq_true, List.mem_range]
        constructor
        · intro h k hk; have := h k hk; rwa [g k (by omega)] at this
        · intro h k hk; rw [g k (by omega)]; exact h k hk
      · have g : ∀ k, k < l.length → (l ++ [x]).getD k 0 = l.getD k 0 := by
          intro k hk
          simp only [List.getD_eq_getElem?_getD]
          rw [List.getElem?_append_left hk]
        have gx : (l ++ [x]).getD l.length 0 = x := by simp [List.getD_eq_getElem?_getD]
        rw [gx]
        have : ((List.range l.length).all fun k => !eqS (rackOf m x) (rackOf m ((l ++ [x]).getD k 0))) = ((List.range l.length).all fun k => !eqS (rackOf m x) (rackOf m (l.getD k 0))) := by
          rw [Bool.eq_iff_iff]
          simp only [List.all_eq_true, List.mem_range]
          constructor
          · intro h k hk; have := h k hk; rwa [g k hk] at this
          · intro h k hk; rw [g k hk]; exact h k hk
        rw [this]
    rw [e, ih]
    have hm := (distR_ok m l).2 (rackOf m x)
    have hq : ((List.range l.length).all fun k => !eqS (rackOf m x) (rackOf m (l.getD k 0))) = true ↔ ¬ rackOf m x ∈ distR m l := by
      rw [hm]
      simp only [List.all_eq_true, List.mem_range, Bool.not_eq_true', not_exists, not_and]
      constructor
      · intro h id hid e
        obtain ⟨k, hk, rfl⟩ := List.getElem_of_mem hid
        have := h k hk
        rw [List.getD_eq_getElem?_getD, List.getElem?_eq_getElem hk] at this
        have e2 := (eqS_iff (rackOf m x) (rackOf m l[k])).2 e.symm
        simp only [Option.getD_some] at this
        rw [e2] at this; cases this
      · intro h k hk
        rw [List.getD_eq_getElem?_getD, List.getElem?_eq_getElem hk]
        simp only [Option.getD_some]
        cases hq : eqS (rackOf m x) (rackOf m l[k]) with
        | false => rfl
        | true => exact (h _ (List.getElem_mem hk) ((eqS_iff _ _).1 hq).symm).elim
    unfold putD
    by_cases hx : rackOf m x ∈ distR m l
    · rw [if_pos hx, if_neg (fun h => hq.1 h hx)]; omega
    · rw [if_neg hx, if_pos (hq.2 hx)]; simp
theorem racksN_sub {m : Image} {a b : List Int} (h : ∀ x ∈ a, x ∈ b) : racksN m a ≤ racksN m b := by
  rw [racksN_eq, racksN_eq]
  refine nodup_le2 _ _ (distR_ok m a).1 fun s hs => ?_
  rw [(distR_ok m _).2] at hs ⊢
  obtain ⟨id, h1, h2⟩ := hs
  exact ⟨id, h id h1, h2⟩
theorem racksN_perm {m : Image} {a b : List Int} (h : a.Perm b) : racksN m a = racksN m b :=
  Nat.le_antisymm (racksN_sub fun x hx => h.mem_iff.1 hx) (racksN_sub fun x hx => h.mem_iff.2 hx)
theorem foldB_min {m : Image} {order : List Int} {c : Ch} (hp : ∀ id ∈ order, 0 < id) (hne : order ≠ []) : ∀ (l : List Nat) (best : Int) (S : List Nat),
    ((best = -1 ∧ ∀ k ∈ S, c.taken.contains (nth order (c.at' + k)) = true) ∨ (0 < best ∧ ∀ k ∈ S, c.taken.contains (nth order (c.at' + k)) = false → getM c.met (rackOf m best) ≤ getM c.met (rackOf m (nth order (c.at' + k))))) →
    ((l.foldl (stepB m order c) best = -1 ∧ ∀ k ∈ S ++ l, c.taken.contains (nth order (c.at' + k)) = true) ∨ (0 < l.foldl (stepB m order c) best ∧ ∀ k ∈ S ++ l, c.taken.contains (nth order (c.at' + k)) = false → getM c.met (rackOf m (l.foldl (stepB m order c) best)) ≤ getM c.met (rackOf m (nth order (c.at' + k))))) := by
  intro l
  induction l with
  | nil => intro best S h; simpa using h
  | cons k l ih =>
    intro best S h
    rw [List.foldl_cons, show S ++ k :: l = (S ++ [k]) ++ l by simp]
    refine ih _ _ ?_
    have hn := hp _ (nth_mem hne (c.at' + k))
    unfold stepB
    simp only
    cases hk : c.taken.contains (nth order (c.at' + k)) with
    | true =>
      simp only [if_true]
      rcases h with ⟨h1, h2⟩ | ⟨h1, h2⟩
      · refine .inl ⟨h1, fun j hj => ?_⟩
        rcases List.mem_append.1 hj with hj | hj
        · exact h2 j hj
        · simp at hj; subst hj; exact hk
      · refine .inr ⟨h1, fun j hj hjt => ?_⟩
        rcases List.mem_append.1 hj with hj | hj
        · exact h2 j hj hjt
        · simp at hj; subst hj; rw [hk] at hjt; cases hjt
    | false =>
      simp only [Bool.false_eq_true, if_false]
      rcases h with ⟨h1, h2⟩ | ⟨h1, h2⟩
      · rw [if_pos (.inl (by omega))]
        refine .inr ⟨hn, fun j hj hjt => ?_⟩
        rcases List.mem_append.1 hj with hj | hj
        · rw [h2 j hj] at hjt; cases hjt
        · simp at hj; subst hj; exact Int.le_refl _
      · by_cases hlt : getM c.met (rackOf m (nth order (c.at' + k))) < getM c.met (rackOf m best)
        · rw [if_pos (.inr hlt)]
          refine .inr ⟨hn, fun j hj hjt => ?_⟩
          rcases List.mem_append.1 hj with hj | hj
          · have := h2 j hj hjt; omega
          · simp at hj; subst hj; exact Int.le_refl _
        · rw [if_neg (by omega)]
          refine .inr ⟨h1, fun j hj hjt => ?_⟩
          rcases List.mem_append.1 hj with hj | hj
          · exact h2 j hj hjt
          · simp at hj; subst hj; omega
theorem best_min {m : Image} {order : List Int} {c : Ch} (hp : ∀ id ∈ order, 0 < id) {id : Int} (hid : id ∈ order) (ht : id ∉ c.taken) : getM c.met (rackOf m (bestB m order c)) ≤ getM c.met (rackOf m id) := by
  have hne : order ≠ [] := List.ne_nil_of_mem hid
  obtain ⟨k, hk, e⟩ := nth_all c.at' hid
  have h := foldB_min (m := m) (c := c) hp hne (List.range order.length) (-1) [] (.inl ⟨rfl, by simp⟩)
  have htf : c.taken.contains (nth order (c.at' + k)) = false := by rw [e]; simpa using ht
  rcases h with ⟨_, h2⟩ | ⟨_, h2⟩
  · have := h2 k (by simpa using hk); rw [htf] at this; cases this
  · have := h2 k (by simpa using hk) htf
    rw [e] at this
    exact this
theorem racksN_snoc (m : Image) (l : List Int) (x : Int) : racksN m (l ++ [x]) = if rackOf m x ∈ distR m l then racksN m l else racksN m l + 1 := by
  rw [racksN_eq, racksN_eq, distR_snoc]
  unfold putD
  split <;> simp
theorem racks_next {m : Image} {order : List Int} {at' j : Nat} {c : Ch} (h : ChOk m order at' j c) (ho : order.Nodup) (hp : ∀ id ∈ order, 0 < id) (hl : j < order.length) (hr : racksN m c.taken = min j (racksN m order)) :
    racksN m (nextC m order c).taken = min (j + 1) (racksN m order) := by
  have hn := h.next ho hp hl
  have hle : racksN m (nextC m order c).taken ≤ racksN m order := racksN_sub hn.sub
  have et : (nextC m order c).taken = c.taken ++ [bestB m order c] := rfl
  rw [et, racksN_snoc] at hle ⊢
  by_cases hjR : j < racksN m order
  · have hx : ∃ s ∈ distR m order, s ∉ distR m c.taken := by
      apply Classical.byContradiction
      intro hno
      have : (distR m order).length ≤ (distR m c.taken).length := nodup_le2 _ _ (distR_ok m order).1 fun s hs => Classical.byContradiction fun hs2 => hno ⟨s, hs, hs2⟩
      rw [← racksN_eq, ← racksN_eq] at this
      omega
    obtain ⟨s, hs, hst⟩ := hx
    obtain ⟨id, hid, rfl⟩ := ((distR_ok m order).2 s).1 hs
    have hnt : id ∉ c.taken := fun h' => hst (((distR_ok m c.taken).2 _).2 ⟨id, h', rfl⟩)
    have hmin := best_min (m := m) hp hid hnt
    have h0 : getM c.met (rackOf m id) = 0 := by
      rw [h.met]
      have : c.taken.countP (fun x => rackOf m x == rackOf m id) = 0 := by
        rw [List.countP_eq_zero]
        intro x hx hxe
        exact hst (((distR_ok m c.taken).2 _).2 ⟨x, hx, bae.1 hxe⟩)
      omega
    have hb0 : c.taken.countP (fun x => rackOf m x == rackOf m (bestB m order c)) = 0 := by
      have := h.met (rackOf m (bestB m order c))
      omega
    have hnew : rackOf m (bestB m order c) ∉ distR m c.taken := by
      intro hin
      obtain ⟨x, hx, e⟩ := ((distR_ok m c.taken).2 _).1 hin
      rw [List.countP_eq_zero] at hb0
      exact hb0 x hx (bae.2 e)
    rw [if_neg hnew]
    omega
  · split
    · omega
    · rename_i hnew
      rw [if_neg hnew] at hle
      omega
theorem racks_iter {m : Image} {order : List Int} {at' : Nat} (ho : order.Nodup) (hp : ∀ id ∈ order, 0 < id) : ∀ (n j : Nat) (c : Ch), ChOk m order at' j c → racksN m c.taken = min j (racksN m order) → j + n ≤ order.length → racksN m (iterC m order n c).taken = min (j + n) (racksN m order) := by
  intro n
  induction n with
  | zero => intro j c _ h _; exact h
  | succ n ih =>
    intro j c h hr hl
    have := ih (j + 1) _ (h.next ho hp (by omega)) (racks_next h ho hp (by omega) hr) (by omega)
    rw [show j + (n + 1) = j + 1 + n by omega]
    exact this
theorem racks_one {m : Image} {order : List Int} (at' r : Nat) (ho : order.Nodup) (hp : ∀ id ∈ order, 0 < id) (hl : r ≤ order.length) : racksN m (oneP m order at' r) = min r (racksN m order) := by
  have := racks_iter (m := m) (at' := at') ho hp r 0 _ (ChOk.zero m order at') (by simp [racksN]) (by omega)
  simpa [oneP] using this
end
end Go.Am
end
section
namespace Go.Am
open Go
noncomputable section
structure Image.Few (m : Image) : Prop where
  len : m.brokers.length ≤ 100
  pos : ∀ b ∈ m.brokers, 0 < b.id
  nd : (m.brokers.map Broker.id).Nodup
theorem Image.Few.order_mem {m : Image} (h : m.Few) {id : Int} (hid : id ∈ m.order) : ∃ b ∈ m.brokers, b.id = id ∧ readyB b = true := by
  have hp := order_perm m (by have := h.len; omega)
  have := hp.mem_iff.1 hid
  simp only [List.mem_map, List.mem_filter] at this
  obtain ⟨b, ⟨h1, h2⟩, h3⟩ := this
  exact ⟨b, h1, h3, h2⟩
theorem Image.Few.hor {m : Image} (h : m.Few) : ∀ id ∈ m.order, 0 < id ∧ (m.broker id).isSome = true := by
  intro id hid
  obtain ⟨b, h1, rfl, _⟩ := h.order_mem hid
  refine ⟨h.pos b h1, ?_⟩
  rw [Image.broker, List.find?_isSome]
  exact ⟨b, h1, by simp⟩
theorem Image.Few.hnd {m : Image} (h : m.Few) : m.order.Nodup := by
  have hp := order_perm m (by have := h.len; omega)
  rw [hp.nodup_iff]
  exact h.nd.sublist (List.filter_sublist.map _)
theorem Image.Few.olen {m : Image} (h : m.Few) : m.order.length ≤ 100 := by
  have hp := (order_perm m (by have := h.len; omega)).length_eq
  rw [hp, List.length_map]
  have := List.length_filter_le readyB m.brokers
  have := h.len
  omega
theorem Image.Few.refp {m : Image} (h : m.Few) : m.order.Perm (refOrder m) := (order_perm m (by have := h.len; omega)).trans (refOrder_perm m).symm
theorem oneP_ok {m : Image} (h : m.Few) (at' r : Nat) (hr : r ≤ m.order.length) : ChOk m m.order at' r (iterC m m.order r ⟨at', [], []⟩) := by
  have := ChOk.iter (m := m) (at' := at') h.hnd (fun id hid => (h.hor id hid).1) r 0 _ (ChOk.zero m m.order at') (by omega)
  simpa using this
theorem ckP_none {order ids : List Int} (h1 : 1 ≤ ids.length) (h7 : ids.length ≤ 7) (hs : ∀ id ∈ ids, id ∈ order) (hn : ids.Nodup) : ckP order ids = none := by
  unfold ckP
  rw [if_neg (by omega)]
  have : (List.range ids.length).find? (ckBad order ids) = none := by
    rw [List.find?_eq_none]
    intro i hi
    have hi := List.mem_range.1 hi
    unfold ckBad
    have hg : ids.getD i 0 = ids[i] := by rw [List.getD_eq_getElem?_getD, List.getElem?_eq_getElem hi]; rfl
    rw [hg]
    have h2 := hs _ (List.getElem_mem hi)
    have h3 : ids[i] ∉ ids.take i := by
      intro hin
      obtain ⟨j, hj, e⟩ := List.getElem_of_mem hin
      rw [List.length_take] at hj
      rw [List.getElem_take] at e
      have := (List.pairwise_iff_getElem.1 hn) j i (by omega) hi (by omega)
      exact this e
    simp [h2, h3]
  rw [this]; rfl
theorem divmod {L q r : Nat} (h : r < L) : (L * q + r) / L = q ∧ (L * q + r) % L = r := by
  refine ⟨?_, ?_⟩
  · rw [Nat.mul_add_div (by omega), Nat.div_eq_of_lt h, Nat.add_zero]
  · rw [Nat.mul_add_mod, Nat.mod_eq_of_lt h]
def fCn (L j n : Nat) : Nat := n / L + if j < n % L then 1 else 0
theorem fCn_succ {L j n : Nat} (hj : j < L) : fCn L j (n + 1) = fCn L j n + if n % L = j then 1 else 0 := by
  have hm := Nat.mod_lt n (show 0 < L by omega)
  have hd := Nat.div_add_mod n L
  generalize n / L = q at *
  generalize n % L = r at *
  subst hd
  unfold fCn
  obtain ⟨e1, e2⟩ := divmod (L := L) (q := q) hm
  rw [e1, e2]
  by_cases h : r + 1 < L
  · obtain ⟨e3, e4⟩ := divmod (L := L) (q := q) h
    rw [Nat.add_assoc, e3, e4]
    split <;> split <;> split <;> omega
  · have : L * q + r + 1 = L * (q + 1) + 0 := by rw [Nat.mul_add]; omega
    obtain ⟨e3, e4⟩ := divmod (L := L) (q := q + 1) (r := 0) (by omega)
    rw [this, e3, e4]
    split <;> split <;> split <;> omega
theorem fCn_count {L j : Nat} (hj : j < L) (s : Nat) : ∀ P, (List.range P).countP (fun p => (s + p) % L == j) + fCn L j s = fCn L j (s + P) := by
  intro P
  induction P with
  | zero => simp
  | succ P ih =>
    rw [List.range_succ, List.countP_append, List.countP_singleton, show s + (P + 1) = s + P + 1 by omega, fCn_succ hj, ← ih]
    simp only [beq_iff_eq]
    omega
theorem fCn_bound {L j : Nat} (hj : j < L) (s P : Nat) : P / L + fCn L j s ≤ fCn L j (s + P) ∧ fCn L j (s + P) ≤ P / L + 1 + fCn L j s := by
  have hm := Nat.mod_lt s (show 0 < L by omega)
  have hd := Nat.div_add_mod s L
  have hm2 := Nat.mod_lt P (show 0 < L by omega)
  have hd2 := Nat.div_add_mod P L
  generalize s / L = a at *
  generalize s % L = r at *
  generalize P % L = t at *
  have e0 : P / L = P / L := rfl
  generalize hb : P / L = b at *
  subst hd hd2
  unfold fCn
  obtain ⟨e1, e2⟩ := divmod (L := L) (q := a) hm
  rw [e1, e2]
  by_cases h : r + t < L
  · obtain ⟨e3, e4⟩ := divmod (L := L) (q := a + b) h
    have : L * a + r + (L * b + t) = L * (a + b) + (r + t) := by rw [Nat.mul_add]; omega
    rw [this, e3, e4]
    split <;> split <;> omega
  · obtain ⟨e3, e4⟩ := divmod (L := L) (q := a + b + 1) (r := r + t - L) (by omega)
    have : L * a + r + (L * b + t) = L * (a + b + 1) + (r + t - L) := by rw [Nat.mul_add, Nat.mul_add]; omega
    rw [this, e3, e4]
    split <;> split <;> omega
theorem best_zero {m : Image} {order : List Int} (at' : Nat) (hp : ∀ id ∈ order, 0 < id) (hne : order ≠ []) : bestB m order ⟨at', [], []⟩ = nth order at' := by
  have hl : 0 < order.length := List.length_pos_iff.2 hne
  unfold bestB
  obtain ⟨n, hn⟩ : ∃ n, order.length = n + 1 := ⟨order.length - 1, by omega⟩
  rw [hn, List.range_succ_eq_map, List.foldl_cons]
  have h0 : stepB m order ⟨at', [], []⟩ (-1) 0 = nth order at' := by
    unfold stepB
    simp
  rw [h0]
  have hpos := hp _ (nth_mem hne at')
  have key : ∀ (l : List Nat), l.foldl (stepB m order ⟨at', [], []⟩) (nth order at') = nth order at' := by
    intro l
    induction l with
    | nil => rfl
    | cons k l ih =>
      rw [List.foldl_cons]
      have : stepB m order ⟨at', [], []⟩ (nth order at') k = nth order at' := by
        show (if ([] : List Int).contains (nth order (at' + k)) then nth order at' else if nth order at' < 0 ∨ (0 : Int) < 0 then nth order (at' + k) else nth order at') = nth order at'
        rw [if_neg (by simp), if_neg (by omega)]
      rw [this, ih]
  exact key _
theorem iterC_head (m : Image) (order : List Int) : ∀ (n : Nat) (c : Ch) (x : Int) (t : List Int), c.taken = x :: t → (iterC m order n c).taken.getD 0 0 = x := by
  intro n
  induction n with
  | zero => intro c x t h; simp [iterC, h]
  | succ n ih => intro c x t h; exact ih _ x (t ++ [bestB m order c]) (by simp [nextC, h])
theorem oneP_head {m : Image} {order : List Int} (at' r : Nat) (hr : 1 ≤ r) (hp : ∀ id ∈ order, 0 < id) (hne : order ≠ []) : (oneP m order at' r).getD 0 0 = nth order at' := by
  obtain ⟨n, rfl⟩ : ∃ n, r = n + 1 := ⟨r - 1, by omega⟩
  unfold oneP
  rw [iterC]
  refine iterC_head m order n _ _ [] ?_
  simp [nextC, best_zero at' hp hne]
theorem spread {m : Image} {order : List Int} (s r P : Nat) (hr : 1 ≤ r) (hp : ∀ id ∈ order, 0 < id) (hn : order.Nodup) {id : Int} (hid : id ∈ order) :
    P / order.length ≤ (rowsP m order s r P).countP (fun row => row.getD 0 0 == id) ∧ (rowsP m order s r P).countP (fun row => row.getD 0 0 == id) ≤ P / order.length + 1 := by
  have hne : order ≠ [] := List.ne_nil_of_mem hid
  obtain ⟨j, hj, rfl⟩ := List.getElem_of_mem hid
  have e : (rowsP m order s r P).countP (fun row => row.getD 0 0 == order[j]) = (List.range P).countP (fun p => (s + p) % order.length == j) := by
    unfold rowsP
    rw [List.countP_map]
    apply List.countP_congr
    intro p _
    simp only [Function.comp_apply, oneP_head (m := m) (s + p) r hr hp hne, beq_iff_eq]
    have hm := Nat.mod_lt (s + p) (show 0 < order.length by omega)
    have : nth order (s + p) = order[(s + p) % order.length] := by
      unfold nth
      rw [List.getD_eq_getElem?_getD, List.getElem?_eq_getElem hm]; rfl
    rw [this]
    constructor
    · intro h
      rcases Nat.lt_trichotomy ((s + p) % order.length) j with h1 | h1 | h1
      · exact ((List.pairwise_iff_getElem.1 hn) _ _ hm hj h1 h).elim
      · exact h1
      · exact ((List.pairwise_iff_getElem.1 hn) _ _ hj hm h1 h.symm).elim
    · intro h
      simp only [h]
  have h1 := fCn_count hj s P
  have h2 := fCn_bound hj s P
  rw [e]
  omega
theorem assign_none {m : Image} {parts r start : Int} {rows : List (List Int)} (h : m.assign parts r start = (rows, none)) :
    rows = rowsP m m.order start.toNat r.toNat parts.toNat ∧ 1 ≤ parts ∧ parts ≤ 256 ∧ 1 ≤ r ∧ r ≤ 7 ∧ r ≤ m.order.length ∧ 0 ≤ start := by
  unfold Image.assign at h
  split at h
  · simp at h
  · split at h
    · simp at h
    · split at h
      · simp at h
      · simp only [Prod.mk.injEq, and_true] at h
        refine ⟨h.symm, ?_⟩
        omega
theorem rowsP_len (m : Image) (order : List Int) (s r P : Nat) : (rowsP m order s r P).length = P := by simp [rowsP]
theorem rowsP_mem {m : Image} (h : m.Few) {s r P : Nat} (hr : r ≤ m.order.length) {row : List Int} (hrow : row ∈ rowsP m m.order s r P) :
    row.length = r ∧ row.Nodup ∧ (∀ id ∈ row, id ∈ m.order) ∧ racksN m row = min r (racksN m (refOrder m)) := by
  unfold rowsP at hrow
  rw [List.mem_map] at hrow
  obtain ⟨p, _, rfl⟩ := hrow
  have := oneP_ok h (s + p) r hr
  refine ⟨this.len, this.nd, this.sub, ?_⟩
  rw [racks_one (s + p) r h.hnd (fun id hid => (h.hor id hid).1) hr, racksN_perm h.refp]
end
end Go.Am
end
section
namespace Go.Am
open Go
section
theorem perm_sorted {α : Type} (R : α → α → Prop) (ha : ∀ a b, R a b → ¬ R b a) : ∀ l t : List α, l.Perm t → l.Pairwise R → t.Pairwise R → l = t := by
  intro l
  induction l with
  | nil => intro t h _ _; exact (List.nil_perm.1 h).symm
  | cons a l ih =>
    intro t h hl ht
    cases t with
    | nil => exact absurd h.symm (by simp)
    | cons b t =>
      rw [List.pairwise_cons] at hl ht
      have hab : a = b := by
        have h1 : a ∈ b :: t := h.mem_iff.1 (by simp)
        have h2 : b ∈ a :: l := h.mem_iff.2 (by simp)
        rcases List.mem_cons.1 h1 with h1 | h1
        · exact h1
        · rcases List.mem_cons.1 h2 with h2 | h2
          · exact h2.symm
          · exact absurd (ht.1 a h1) (ha _ _ (hl.1 b h2))
      subst hab
      rw [ih t (List.perm_cons a |>.1 h) hl.2 ht.2]
theorem lessS_irr (a : ByteArray) : lessS a a = false := bl_irrefl _
theorem lessS_tr {a b c : ByteArray} (h : lessS a b = true) (k : lessS b c = true) : lessS a c = true := bl_trans _ _ _ h k
theorem lessS_tri {a b : ByteArray} (h : lessS a b = false) (k : lessS b a = false) : a = b := (eqS_iff a b).1 (by simp [eqS, bl_tri _ _ h k])
def ltE (e f : Ent) : Prop := befE f.rank f.name e = true
theorem ltE_iff (e f : Ent) : ltE e f ↔ e.rank < f.rank ∨ (e.rank = f.rank ∧ lessS e.name f.name = true) := by
  simp [ltE, befE]
theorem ltE_tr {a b c : Ent} (h : ltE a b) (k : ltE b c) : ltE a c := by
  rw [ltE_iff] at *
  rcases h with h | ⟨h1, h2⟩ <;> rcases k with k | ⟨k1, k2⟩
  · exact .inl (by omega)
  · exact .inl (by omega)
  · exact .inl (by omega)
  · exact .inr ⟨by omega, lessS_tr h2 k2⟩
theorem insE_sorted {l : List Ent} {e : Ent} (h : l.Pairwise ltE) (ht : ∀ f ∈ l, ltE f e ∨ ltE e f) : (insE l e).Pairwise ltE := by
  have e1 : insE l e = l.takeWhile (befE e.rank e.name) ++ [e] ++ l.dropWhile (befE e.rank e.name) := by
    unfold insE insL posE
    have := List.takeWhile_append_dropWhile (p := befE e.rank e.name) (l := l)
    generalize l.takeWhile (befE e.rank e.name) = A at *
    generalize l.dropWhile (befE e.rank e.name) = B at *
    subst this
    rw [List.take_left, List.drop_left]
  have hl : (l.takeWhile (befE e.rank e.name) ++ l.dropWhile (befE e.rank e.name)).Pairwise ltE := by rw [List.takeWhile_append_dropWhile]; exact h
  rw [List.pairwise_append] at hl
  obtain ⟨h1, h2, h3⟩ := hl
  have hA : ∀ x ∈ l.takeWhile (befE e.rank e.name), ltE x e := fun x hx => (List.all_eq_true.1 List.all_takeWhile) x hx
  have hB : ∀ y ∈ l.dropWhile (befE e.rank e.name), ltE e y := by
    cases hd : l.dropWhile (befE e.rank e.name) with
    | nil => simp
    | cons z zs =>
      have hz : ¬ befE e.rank e.name z = true := by
        have hne : l.dropWhile (befE e.rank e.name) ≠ [] := by rw [hd]; simp
        have := List.head_dropWhile_not (befE e.rank e.name) hne
        simp only [hd, List.head_cons] at this
        simp [this]
      have hze : ltE e z := by
        have hm : z ∈ l := (List.dropWhile_sublist _).subset (by rw [hd]; simp)
        rcases ht z hm with h | h
        · exact absurd h hz
        · exact h
      intro y hy
      rcases List.mem_cons.1 hy with rfl | hy
      · exact hze
      · rw [hd, List.pairwise_cons] at h2
        exact ltE_tr hze (h2.1 y hy)
  rw [e1, List.pairwise_append, List.pairwise_append]
  refine ⟨⟨h1, List.pairwise_singleton _ _, fun x hx y hy => by rw [List.mem_singleton] at hy; subst hy; exact hA x hx⟩, h2, fun x hx y hy => ?_⟩
  rcases List.mem_append.1 hx with hx | hx
  · exact h3 x hx y hy
  · rw [List.mem_singleton] at hx; subst hx; exact hB y hy
theorem rank_lt {m : Image} {b c : Broker} (hb : b ∈ m.brokers) (hr : readyB b = true) (he : b.rack = c.rack) (hlt : b.id < c.id) : rankR m b < rankR m c := by
  unfold rankR
  obtain ⟨A, C, hs⟩ := List.append_of_mem hb
  rw [hs, List.countP_append, List.countP_append, List.countP_cons, List.countP_cons]
  have mono : ∀ l : List Broker, l.countP (fun x => readyB x && eqS x.rack b.rack && decide (x.id < b.id)) ≤ l.countP (fun x => readyB x && eqS x.rack c.rack && decide (x.id < c.id)) := by
    intro l
    refine List.countP_mono_left fun x _ hx => ?_
    simp only [Bool.and_eq_true, decide_eq_true_eq] at hx ⊢
    rw [← he]
    exact ⟨hx.1, by omega⟩
  have hself : eqS b.rack c.rack = true := by rw [eqS_iff]; exact he
  have := mono A
  have := mono C
  simp [hr, hself, hlt]
  omega
theorem refEnts_sorted (m : Image) (hnd : (m.brokers.map Broker.id).Nodup) : ∀ (done rest : List Broker) (l : List Ent), m.brokers = done ++ rest → l.Pairwise ltE → (∀ e ∈ l, ∃ b ∈ done, readyB b = true ∧ e = ⟨b.id, rankR m b, b.rack⟩) →
    (rest.foldl (ordStep m) l).Pairwise ltE ∧ ∀ e ∈ rest.foldl (ordStep m) l, ∃ b ∈ m.brokers, readyB b = true ∧ e = ⟨b.id, rankR m b, b.rack⟩ := by
  intro done rest
  induction rest generalizing done with
  | nil => intro l hs hl he; refine ⟨hl, fun e h => ?_⟩; obtain ⟨b, h1, h2⟩ := he e h; exact ⟨b, by rw [hs]; simp [h1], h2⟩
  | cons b rest ih =>
    intro l hs hl he
    rw [List.foldl_cons]
    refine ih (done ++ [b]) _ (by simp [hs]) ?_ ?_
    · unfold ordStep
      split
      · rename_i hr
        refine insE_sorted hl fun f hf => ?_
        obtain ⟨c, hc, hcr, rfl⟩ := he f hf
        have hcm : c ∈ m.brokers := by rw [hs]; simp [hc]
        have hbm : b ∈ m.brokers := by rw [hs]; simp
        have hne : c.id ≠ b.id := by
          rw [hs, List.map_append, List.map_cons, List.nodup_append] at hnd
          exact hnd.2.2 c.id (List.mem_map_of_mem hc) b.id (by simp)
        rw [ltE_iff, ltE_iff]
        by_cases hR : rankR m c = rankR m b
        · cases hl1 : lessS c.rack b.rack with
          | true => exact .inl (.inr ⟨by simp [hR], rfl⟩)
          | false =>
            cases hl2 : lessS b.rack c.rack with
            | true => exact .inr (.inr ⟨by simp [hR], rfl⟩)
            | false =>
              have hq := lessS_tri hl1 hl2
              rcases Int.lt_or_gt_of_ne hne with h | h
              · have := rank_lt hcm hcr hq h; omega
              · have := rank_lt hbm hr hq.symm h; omega
        · rcases Nat.lt_or_gt_of_ne hR with h | h
          · exact .inl (.inl (by simpa using h))
          · exact .inr (.inl (by simpa using h))
      · exact hl
    · intro e hm
      unfold ordStep at hm
      split at hm
      · rename_i hr
        have := (insL_perm l (posE _ _ l) _).mem_iff.1 hm
        rcases List.mem_append.1 this with h | h
        · obtain ⟨c, hc, h2⟩ := he e h; exact ⟨c, by simp [hc], h2⟩
        · rw [List.mem_singleton] at h; exact ⟨b, by simp, hr, h⟩
      · obtain ⟨c, hc, h2⟩ := he e hm; exact ⟨c, by simp [hc], h2⟩
theorem rpos_eq {l : List Rack} {s : ByteArray} (h : srtK l) {i : Nat} (hi : i < l.length) (hn : l[i].name = s) : rpos l s = i := by
  have h1 : ¬ i < rpos l s := by
    rw [rpos_iff s h i hi, hn]; have := lessS_irr s; unfold lessS at this ⊢; rw [this]; simp
  have h2 : ∀ j (hj : j < i), j < rpos l s := fun j hj => by
    rw [rpos_iff s h j (by omega)]
    have := (List.pairwise_iff_getElem.1 h) j i (by omega) hi hj
    rw [hn] at this; exact this
  rcases Nat.lt_or_ge (rpos l s) i with h' | h'
  · have := h2 _ h'; omega
  · omega
theorem rthere_of {l : List Rack} {s : ByteArray} (h : srtK l) {r : Rack} (hr : r ∈ l) (hn : r.name = s) : rthere l s = true := by
  obtain ⟨i, hi, rfl⟩ := List.getElem_of_mem hr
  unfold rthere
  rw [rpos_eq h hi hn, List.getElem?_eq_getElem hi]
  simp only
  rw [eqS_iff]; exact hn
theorem rput_name {l : List Rack} {s : ByteArray} : ∀ (h : rpos l s < (rput l s).length), (rput l s)[rpos l s].name = s := by
  intro h
  have hp := rpos_le l s
  by_cases ht : rthere l s = true
  · have e : rput l s = l := by unfold rput; rw [if_pos ht]
    simp only [e] at h ⊢
    unfold rthere at ht
    rw [List.getElem?_eq_getElem h] at ht
    simp only at ht
    exact (eqS_iff _ _).1 ht
  · have e : rput l s = l.take (rpos l s) ++ ⟨s, []⟩ :: l.drop (rpos l s) := by unfold rput; rw [if_neg ht]
    have : (rput l s)[rpos l s]? = some ⟨s, []⟩ := by
      rw [e, List.getElem?_append_right (by simp; omega)]
      simp [Nat.min_eq_left hp]
    rw [List.getElem?_eq_getElem h] at this
    rw [Option.some.inj this]
theorem rput_mem {l : List Rack} {s : ByteArray} {r : Rack} (h : r ∈ rput l s) : r ∈ l ∨ (rthere l s = false ∧ r = ⟨s, []⟩) := by
  unfold rput at h
  split at h
  · exact .inl h
  · rename_i ht
    rcases List.mem_append.1 h with h | h
    · exact .inl (List.mem_of_mem_take h)
    · rcases List.mem_cons.1 h with rfl | h
      · exact .inr ⟨by simpa using ht, rfl⟩
      · exact .inl (List.mem_of_mem_drop h)
theorem rput_old {l : List Rack} {s : ByteArray} {r : Rack} (h : r ∈ l) : r ∈ rput l s := by
  unfold rput
  split
  · exact h
  · rw [← List.take_append_drop (rpos l s) l] at h
    rcases List.mem_append.1 h with h | h
    · exact List.mem_append_left _ h
    · exact List.mem_append_right _ (List.mem_cons_of_mem _ h)
abbrev inRack (s : ByteArray) (b : Broker) : Bool := readyB b && eqS b.rack s
structure RackInv (bs : List Broker) (l : List Rack) : Prop where
  srt : srtK l
  ids : ∀ r ∈ l, r.ids = (bs.filter (inRack r.name)).map Broker.id
  all : ∀ b ∈ bs, readyB b = true → ∃ r ∈ l, r.name = b.rack
theorem RackInv.step {bs : List Broker} {l : List Rack} (h : RackInv bs l) (b : Broker) : RackInv (bs ++ [b]) (rackStep l b) := by
  unfold rackStep
  split
  rotate_left
  · rename_i hr
    have hr' : readyB b = false := by simpa using hr
    refine ⟨h.srt, fun r hm => ?_, fun c hc hcr => ?_⟩
    · rw [h.ids r hm, List.filter_append]; simp [inRack, hr']
    · rcases List.mem_append.1 hc with hc | hc
      · exact h.all c hc hcr
      · rw [List.mem_singleton] at hc; subst hc; rw [hr'] at hcr; cases hcr
  · rename_i hr
    have hk := rput_at l b.rack
    have hkn := rput_name (l := l) (s := b.rack) hk
    have hs2 := rput_srt b.rack h.srt
    have hids : ∀ r ∈ rput l b.rack, r.ids = (bs.filter (inRack r.name)).map Broker.id := by
      intro r hm
      rcases rput_mem hm with hm | ⟨ht, rfl⟩
      · exact h.ids r hm
      · symm
        rw [List.map_eq_nil_iff, List.filter_eq_nil_iff]
        intro c hc hq
        simp only [inRack, Bool.and_eq_true, eqS_iff] at hq
        obtain ⟨r', hr', hn'⟩ := h.all c hc hq.1
        rw [rthere_of h.srt hr' (hn'.trans hq.2)] at ht; cases ht
    have hat : ∀ j (hj : j < (radd (rput l b.rack) (rpos l b.rack) b.id).length), ∃ hj' : j < (rput l b.rack).length, (radd (rput l b.rack) (rpos l b.rack) b.id)[j] = if rpos l b.rack = j then { (rput l b.rack)[j] with ids := (rput l b.rack)[j].ids ++ [b.id] } else (rput l b.rack)[j] := by
      intro j hj
      unfold radd at hj ⊢
      rw [List.length_modify] at hj
      refine ⟨hj, ?_⟩
      rw [List.getElem_modify]
    refine ⟨radd_srt _ _ hs2, fun r hm => ?_, fun c hc hcr => ?_⟩
    · obtain ⟨j, hj, rfl⟩ := List.getElem_of_mem hm
      obtain ⟨hj', e⟩ := hat j hj
      rw [e]
      have hm' := List.getElem_mem hj'
      split
      · rename_i hq
        subst hq
        simp only
        rw [hids _ hm', List.filter_append, List.map_append]
        have : inRack (rput l b.rack)[rpos l b.rack].name b = true := by simp only [inRack, hr, Bool.true_and, eqS_iff]; exact hkn.symm
        simp [this]
      · rename_i hq
        rw [hids _ hm', List.filter_append]
        have : inRack (rput l b.rack)[j].name b = false := by
          simp only [inRack, hr, Bool.true_and]
          rw [Bool.eq_false_iff]
          intro he
          rw [eqS_iff] at he
          have hp := List.pairwise_iff_getElem.1 hs2
          rcases Nat.lt_or_gt_of_ne hq with h' | h'
          · have := hp _ _ hk hj' h'
            rw [hkn, ← he, lessS_irr] at this; cases this
          · have := hp _ _ hj' hk h'
            rw [hkn, ← he, lessS_irr] at this; cases this
        simp [this]
    · have key : ∀ r ∈ rput l b.rack, ∃ r' ∈ radd (rput l b.rack) (rpos l b.rack) b.id, r'.name = r.name := by
        intro r hm
        obtain ⟨j, hj, rfl⟩ := List.getElem_of_mem hm
        have hj2 : j < (radd (rput l b.rack) (rpos l b.rack) b.id).length := by unfold radd; rw [List.length_modify]; exact hj
        obtain ⟨_, e⟩ := hat j hj2
        refine ⟨_, List.getElem_mem hj2, ?_⟩
        rw [e]; split <;> rfl
      rcases List.mem_append.1 hc with hc | hc
      · obtain ⟨r, hr1, hr2⟩ := h.all c hc hcr
        obtain ⟨r', h1, h2⟩ := key r (rput_old hr1)
        exact ⟨r', h1, h2.trans hr2⟩
      · rw [List.mem_singleton] at hc; subst hc
        obtain ⟨r', h1, h2⟩ := key _ (List.getElem_mem hk)
        exact ⟨r', h1, h2.trans hkn⟩
theorem racksOf_inv (l : List Broker) : RackInv l (racksOf l) := by
  have key : ∀ (rest done : List Broker) (s : List Rack), RackInv done s → RackInv (done ++ rest) (rest.foldl rackStep s) := by
    intro rest
    induction rest with
    | nil => intro done s h; simpa using h
    | cons b rest ih =>
      intro done s h
      have := ih (done ++ [b]) _ (h.step b)
      simpa using this
  have := key l [] [] ⟨List.Pairwise.nil, by simp, by simp⟩
  simpa [racksOf] using this
theorem below_count : ∀ (l : List Broker), l.Pairwise (fun a b => a.id < b.id) → ∀ i (hi : i < l.length), l.countP (fun x => decide (x.id < l[i].id)) = i := by
  intro l
  induction l with
  | nil => intro _ i hi; simp at hi
  | cons a l ih =>
    intro h i hi
    rw [List.pairwise_cons] at h
    cases i with
    | zero =>
      rw [List.countP_eq_zero]
      intro x hx
      rcases List.mem_cons.1 hx with rfl | hx
      · simp
      · have := h.1 x hx; simp; omega
    | succ i =>
      simp only [List.length_cons] at hi
      have := h.1 l[i] (List.getElem_mem _)
      simp only [List.getElem_cons_succ, List.countP_cons]
      rw [ih h.2 i (by omega)]
      simp [this]
def keyR (m : Image) (x y : Int) : Prop := rankR m ((m.broker x).getD zB) < rankR m ((m.broker y).getD zB) ∨ (rankR m ((m.broker x).getD zB) = rankR m ((m.broker y).getD zB) ∧ lessS (rackOf m x) (rackOf m y) = true)
theorem broker_of {m : Image} (h : m.Few) {b : Broker} (hb : b ∈ m.brokers) : m.broker b.id = some b := by
  have hs : (m.broker b.id).isSome = true := by rw [Image.broker, List.find?_isSome]; exact ⟨b, hb, by simp⟩
  obtain ⟨c, hc⟩ := Option.isSome_iff_exists.1 hs
  rw [hc]
  have hcm := List.mem_of_find?_eq_some hc
  have hci : c.id = b.id := by have := List.find?_some hc; simpa using this
  congr 1
  have hn := h.nd
  obtain ⟨i, hi, rfl⟩ := List.getElem_of_mem hcm
  obtain ⟨j, hj, rfl⟩ := List.getElem_of_mem hb
  have := (List.nodup_iff_pairwise_ne.1 hn)
  rw [List.pairwise_map, List.pairwise_iff_getElem] at this
  rcases Nat.lt_trichotomy i j with h' | h' | h'
  · exact absurd hci (this i j hi hj h')
  · subst h'; rfl
  · exact absurd hci.symm (this j i hj hi h')
theorem order_eq {m : Image} (h : m.Few) (hasc : m.brokers.Pairwise fun a b => a.id < b.id) : m.order = refOrder m := by
  have inv := racksOf_inv m.brokers
  have hat : ∀ r ∈ racksOf m.brokers, ∀ i id, r.ids[i]? = some id → rankR m ((m.broker id).getD zB) = i ∧ rackOf m id = r.name := by
    intro r hr i id hid
    rw [inv.ids r hr, List.getElem?_map, Option.map_eq_some_iff] at hid
    obtain ⟨b, hb, rfl⟩ := hid
    obtain ⟨hi, hbi⟩ := List.getElem?_eq_some_iff.1 hb
    have hbm : b ∈ m.brokers.filter (inRack r.name) := by rw [← hbi]; exact List.getElem_mem hi
    rw [List.mem_filter] at hbm
    simp only [inRack, Bool.and_eq_true, eqS_iff] at hbm
    have hbr := broker_of h hbm.1
    refine ⟨?_, by unfold rackOf; rw [hbr]; exact hbm.2.2⟩
    rw [hbr]
    simp only [Option.getD_some]
    have hc := below_count _ (hasc.sublist (List.filter_sublist (p := inRack r.name))) i hi
    rw [hbi, List.countP_filter] at hc
    unfold rankR
    rw [← hc]
    refine List.countP_congr fun x _ => ?_
    rw [hbm.2.2]
    simp only [inRack, Bool.and_eq_true, decide_eq_true_eq]
    constructor
    · rintro ⟨a, b⟩; exact ⟨b, a⟩
    · rintro ⟨a, b⟩; exact ⟨b, a⟩
  have hsym : ∀ a b, keyR m a b → ¬ keyR m b a := by
    rintro a b (h1 | ⟨h1, h2⟩) (k1 | ⟨k1, k2⟩)
    · omega
    · omega
    · omega
    · have := lessS_tr h2 k2; rw [lessS_irr] at this; cases this
  refine perm_sorted (keyR m) hsym _ _ h.refp ?_ ?_
  · unfold Image.order orderOf
    rw [List.pairwise_flatMap]
    refine ⟨fun i _ => ?_, ?_⟩
    · unfold roundK
      rw [List.pairwise_flatMap]
      refine ⟨fun r _ => by cases r.ids[i]? <;> simp, ?_⟩
      have hp := inv.srt
      refine List.Pairwise.imp_of_mem ?_ hp
      intro r1 r2 m1 m2 hlt x hx y hy
      simp only [Option.mem_toList] at hx hy
      obtain ⟨a1, a2⟩ := hat r1 m1 i x hx
      obtain ⟨b1, b2⟩ := hat r2 m2 i y hy
      exact .inr ⟨by rw [a1, b1], by rw [a2, b2]; exact hlt⟩
    · refine List.Pairwise.imp_of_mem ?_ List.pairwise_lt_range
      intro i j _ _ hij x hx y hy
      unfold roundK at hx hy
      simp only [List.mem_flatMap, Option.mem_toList] at hx hy
      obtain ⟨r1, m1, hx⟩ := hx
      obtain ⟨r2, m2, hy⟩ := hy
      obtain ⟨a1, _⟩ := hat r1 m1 i x hx
      obtain ⟨b1, _⟩ := hat r2 m2 j y hy
      exact .inl (by rw [a1, b1]; exact hij)
  · obtain ⟨h1, h2⟩ := refEnts_sorted m h.nd [] m.brokers [] rfl List.Pairwise.nil (by simp)
    unfold refOrder refEnts
    rw [List.pairwise_map]
    refine List.Pairwise.imp_of_mem ?_ h1
    intro e f he hf hlt
    obtain ⟨b, hb, _, rfl⟩ := h2 e he
    obtain ⟨c, hc, _, rfl⟩ := h2 f hf
    rw [ltE_iff] at hlt
    unfold keyR rackOf
    rw [broker_of h hb, broker_of h hc]
    simp only [Option.getD_some]
    rcases hlt with hlt | ⟨k1, k2⟩
    · exact .inl (by simpa using hlt)
    · exact .inr ⟨by simp only at k1; omega, k2⟩
def codeO : Option Bad' → Int
  | none => 0
  | some b => b.2.2
def refBad (m : Image) (ids : List Int) (i : Nat) : Bool := !(m.broker (ids.getD i 0)).isSome || !readyB ((m.broker (ids.getD i 0)).getD zB) || (ids.take i).contains (ids.getD i 0)
def refCk (m : Image) (ids : List Int) : Int := if ids.length < 1 ∨ 7 < ids.length then 18 else if (List.range ids.length).any (refBad m ids) then 18 else 0
theorem order_contains {m : Image} (h : m.Few) (id : Int) : m.order.contains id = ((m.broker id).isSome && readyB ((m.broker id).getD zB)) := by
  rw [Bool.eq_iff_iff, List.contains_iff_mem, Bool.and_eq_true]
  constructor
  · intro hm
    obtain ⟨b, hb, rfl, hr⟩ := h.order_mem hm
    rw [broker_of h hb]; exact ⟨rfl, hr⟩
  · rintro ⟨h1, h2⟩
    obtain ⟨b, hb⟩ := Option.isSome_iff_exists.1 h1
    rw [hb] at h2
    have hbm := List.mem_of_find?_eq_some hb
    have hbi : b.id = id := by have := List.find?_some hb; simpa using this
    rw [(order_perm m (by have := h.len; omega)).mem_iff, List.mem_map]
    exact ⟨b, List.mem_filter.2 ⟨hbm, h2⟩, hbi⟩
theorem ck_code {m : Image} (h : m.Few) (ids : List Int) : codeO (ckP m.order ids) = refCk m ids := by
  have e : ckBad m.order ids = refBad m ids := by
    funext i
    unfold ckBad refBad
    rw [order_contains h]
    cases (m.broker (ids.getD i 0)).isSome <;> simp
  unfold ckP refCk
  rw [e]
  split
  · rfl
  · cases hf : (List.range ids.length).find? (refBad m ids) with
    | none =>
      have : (List.range ids.length).any (refBad m ids) = false := by
        rw [List.any_eq_false]; intro x hx; have := List.find?_eq_none.1 hf x hx; simpa using this
      rw [this]; rfl
    | some i =>
      have : (List.range ids.length).any (refBad m ids) = true := by
        rw [List.any_eq_true]; exact ⟨i, List.mem_of_find?_eq_some hf, List.find?_some hf⟩
      rw [this]; rfl
def metR (m : Image) (l : List Int) (id : Int) : Nat := l.countP fun x => eqS (rackOf m x) (rackOf m id)
def stepR (m : Image) (order : List Int) (at' : Nat) (out : List Int) (best : Int) (k : Nat) : Int :=
  let id := nth order (at' + k)
  if out.contains id then best else if best = 0 ∨ metR m out id < metR m out best then id else best
def bestR (m : Image) (order : List Int) (at' : Nat) (out : List Int) : Int := (List.range order.length).foldl (stepR m order at' out) 0
def iterR (m : Image) (order : List Int) (at' : Nat) : Nat → List Int → List Int
  | 0, out => out
  | n + 1, out => iterR m order at' n (out ++ [bestR m order at' out])
def oneR (m : Image) (order : List Int) (at' r : Nat) : List Int := iterR m order at' r []
def rowsR (m : Image) (order : List Int) (start r parts : Nat) : List (List Int) := (List.range parts).map fun p => oneR m order (start + p) r
def refAssign (m : Image) (order : List Int) (parts r start : Int) : List (List Int) × Int :=
  if parts < 1 ∨ 256 < parts then ([], 2)
  else if r < 1 ∨ 7 < r ∨ (order.length : Int) < r then ([], 18)
  else if start < 0 ∨ 1073741824 < start then ([], 2)
  else (rowsR m order start.toNat r.toNat parts.toNat, 0)
theorem metR_eq {m : Image} {order : List Int} {at' j : Nat} {c : Ch} (h : ChOk m order at' j c) (id : Int) : getM c.met (rackOf m id) = metR m c.taken id := by
  rw [h.met]; unfold metR
  congr 1
  refine List.countP_congr fun x _ => ?_
  rw [eqS_iff, bae]
theorem best_eq {m : Image} {order : List Int} {at' j : Nat} {c : Ch} (h : ChOk m order at' j c) (hp : ∀ id ∈ order, 0 < id) (hx : ∃ id ∈ order, id ∉ c.taken) : bestR m order at' c.taken = bestB m order c := by
  have hne : order ≠ [] := by obtain ⟨id, h, _⟩ := hx; exact List.ne_nil_of_mem h
  have key : ∀ (l : List Nat) (b : Int), (b = -1 ∨ 0 < b) → l.foldl (stepR m order at' c.taken) (if b = -1 then 0 else b) = (let r := l.foldl (stepB m order c) b; if r = -1 then 0 else r) := by
    intro l
    induction l with
    | nil => intro b _; rfl
    | cons k l ih =>
      intro b hb
      rw [List.foldl_cons, List.foldl_cons]
      have hid := hp _ (nth_mem hne (at' + k))
      have e : stepR m order at' c.taken (if b = -1 then 0 else b) k = (if stepB m order c b k = -1 then 0 else stepB m order c b k) ∧ (stepB m order c b k = -1 ∨ 0 < stepB m order c b k) := by
        unfold stepR stepB
        rw [h.at']
        simp only [metR_eq h]
        generalize nth order (at' + k) = id at *
        rcases hb with rfl | hb
        · cases hc : c.taken.contains id with
          | true => simp
          | false => simp; omega
        · cases hc : c.taken.contains id with
          | true => simp; omega
          | false =>
            have h1 : ¬ b = -1 := by omega
            have h2 : ¬ b = 0 := by omega
            have h3 : ¬ b < 0 := by omega
            have h4 : ¬ id = -1 := by omega
            simp only [h1, h2, h3, if_false, false_or, Bool.false_eq_true, Int.ofNat_lt]
            by_cases hlt : metR m c.taken id < metR m c.taken b
            · simp only [hlt, if_true, h4, if_false]
              exact ⟨trivial, .inr hid⟩
            · simp only [hlt, if_false, h1]
              exact ⟨trivial, .inr hb⟩
      rw [e.1]
      exact ih _ e.2
  have := key (List.range order.length) (-1) (.inl rfl)
  simp only [if_true] at this
  obtain ⟨h1, _⟩ := bestB_ok (m := m) (c := c) hp hx
  unfold bestR
  rw [this]
  unfold bestB at h1 ⊢
  rw [if_neg (by omega)]
theorem one_eq {m : Image} {order : List Int} (at' r : Nat) (ho : order.Nodup) (hp : ∀ id ∈ order, 0 < id) (hl : r ≤ order.length) : oneR m order at' r = oneP m order at' r := by
  have key : ∀ (n j : Nat) (c : Ch), ChOk m order at' j c → j + n ≤ order.length → iterR m order at' n c.taken = (iterC m order n c).taken := by
    intro n
    induction n with
    | zero => intro j c _ _; rfl
    | succ n ih =>
      intro j c h hjl
      rw [iterR, iterC]
      have hx := exists_free ho h.sub (by rw [h.len]; omega)
      rw [best_eq h hp hx]
      exact ih (j + 1) _ (h.next ho hp (by omega)) (by omega)
  exact key r 0 _ (ChOk.zero m order at') (by omega)
theorem rows_eq {m : Image} {order : List Int} (start r parts : Nat) (ho : order.Nodup) (hp : ∀ id ∈ order, 0 < id) (hl : r ≤ order.length) : rowsR m order start r parts = rowsP m order start r parts := by
  unfold rowsR rowsP
  exact List.map_congr_left fun p _ => one_eq _ _ ho hp hl
theorem refAssign_eq {m : Image} (h : m.Few) (hasc : m.brokers.Pairwise fun a b => a.id < b.id) (parts r start : Int) : refAssign m (refOrder m) parts r start = ((m.assign parts r start).1, codeO (m.assign parts r start).2) := by
  rw [← order_eq h hasc]
  unfold refAssign Image.assign
  split
  · rfl
  · split
    · rfl
    · split
      · rfl
      · rw [rows_eq _ _ _ h.hnd (fun id hid => (h.hor id hid).1) (by omega)]
        rfl
end
end Go.Am
end
