/- Part of the proof of a law of moving. -/
import Derived.Test.YtmnheledelnbfaaGreatQPU
import Derived.KernelRfl
set_option linter.all false
section
namespace Go.Am
open Go
noncomputable section
def zR : Record := ⟨0, 0, 0, 0, 0, 0, 0, 0, 0, false, ⟨#[]⟩, ⟨#[]⟩, ⟨#[]⟩, ⟨#[]⟩, [], [], [], []⟩
def firstL : List Record :=
  [{ zR with kind := 2, broker := 1, epoch := 1, rack := bs [97] }, { zR with kind := 4, broker := 1, epoch := 1 },
   { zR with kind := 2, broker := 2, epoch := 1, rack := bs [98] }, { zR with kind := 4, broker := 2, epoch := 1 },
   { zR with kind := 7, topic := 1, name := bs [116] }, { zR with kind := 8, topic := 1, ids := [1, 2], isr := [1, 2], leader := 1 }]
def fp : Part := ⟨[1, 2], [1, 2], 1, 0, [], []⟩
def fq : Part := ⟨[1, 2], [2], 2, 1, [], []⟩
def fs : Part := ⟨[1, 2], [1], 1, 0, [], []⟩
end
end Go.Am
end
section
namespace Go.Am
open Go
noncomputable section
structure Image.Next (m : Image) (p q : Part) : Prop where
  right : m.Right q
  rows : q.Rows 1000000
  ep : q.epoch = p.epoch ∧ q.leader = p.leader ∨ q.epoch = p.epoch + 1
theorem change_chk {t : Int} {k : Nat} {q : Part} (ht : 1 ≤ t ∧ t ≤ 1073741824) (hk : k ≤ 255) (hq : q.Rows 1000000) : (change t k q).Chk := by
  have e := hq.ep
  have l := hq.le
  have e1 : (change t k q).kind = 9 := rfl
  refine ⟨by rw [e1]; omega, ?_, ?_, ?_, ?_, ?_⟩
  · rw [e1]
    have hn : ∀ (n lo hi : Int) (a : Bool), a = true → lo ≤ n → n ≤ hi → numB n a lo hi = true := by
      rintro n lo hi _ rfl h1 h2
      simp only [numB, if_true, Bool.and_eq_true, decide_eq_true_eq]
      exact ⟨h1, h2⟩
    exact ⟨by kernel_rfl, hn q.epoch _ _ _ (by kernel_rfl) (by omega) (by omega), hn t _ _ _ (by kernel_rfl) (by show (1 : Int) ≤ t; omega) (by omega), hn (k : Int) _ _ _ (by kernel_rfl) (by omega) (by omega), hn q.leader _ _ _ (by kernel_rfl) (by omega) (by omega), by kernel_rfl, by kernel_rfl, by kernel_rfl⟩
  · rw [e1]; intro h; simp [change] at h
  · rw [e1]; exact ⟨by kernel_rfl, by kernel_rfl, by kernel_rfl⟩
  · exact ⟨by show ((0 : Nat) : Int) ≤ 256; omega, .inl (by kernel_rfl)⟩
  · rw [e1]; simp only [rwB, hasB, abouts, change]; simp; exact ⟨by simpa using hq.ids, by simpa using hq.isr, by simpa using hq.add, by simpa using hq.drop⟩
theorem topic_mid {s : Image} {A B : List Topic} {t : Topic} (hs : s.topics = A ++ t :: B) (hp : s.topics.Pairwise fun a b => a.id < b.id) : s.topic t.id = some t ∧ ∀ u ∈ s.topics, u.id = t.id → u = t := by
  have hm : t ∈ s.topics := by rw [hs]; simp
  have hf : s.topic t.id = some t := by
    unfold Image.topic
    cases h : s.topics.find? (fun u => u.id == t.id) with
    | none =>
      rw [List.find?_eq_none] at h
      have := h t hm; simp at this
    | some u =>
      have h1 := List.mem_of_find?_eq_some h
      have h2 : u.id = t.id := by simpa using List.find?_some h
      have e := topic_unique (m := s) hp (id := t.id) (t := u) h hm rfl
      rw [e]
  exact ⟨hf, fun u hu e => topic_unique hp hf hu e⟩
theorem setAt_mid {α : Type} (X : List α) (p q : α) (Y : List α) : setAt (X ++ p :: Y) X.length q = X ++ q :: Y := by
  simp [setAt]
theorem apply_change {s : Image} {A B : List Topic} {t : Topic} {X Y : List Part} {p q : Part} (hs : s.topics = A ++ t :: B) (hp : s.topics.Pairwise fun a b => a.id < b.id) (ht : t.parts = X ++ p :: Y) (hid : 1 ≤ t.id ∧ t.id ≤ 1073741824) (hk : X.length ≤ 255)
    (hn : s.Next p q) (hne : p.same q = false) : s.apply (change t.id X.length q) = ({ s with topics := A ++ { t with parts := X ++ q :: Y } :: B }, 0) := by
  have hc := change_chk hid hk hn.rows
  obtain ⟨h1, h2⟩ := topic_mid hs hp
  have e0 : (checkW (change t.id X.length q)).code = 0 := (check_iff _).2 hc
  have ek : (change t.id X.length q).kind = 9 := rfl
  unfold Image.apply
  rw [if_neg (by simp [e0]), ek]
  simp only [show ¬ (9 : Int) = 2 by decide, show ¬ ((9 : Int) = 3 ∨ (9 : Int) = 4 ∨ (9 : Int) = 5 ∨ (9 : Int) = 6) by decide, show ((9 : Int) = 8 ∨ (9 : Int) = 9) by decide, if_false, if_true]
  unfold Image.partRec
  have et : s.topic (change t.id X.length q).topic = some t := h1
  have ep : (change t.id X.length q).toPart = q := rfl
  have en : (change t.id X.length q).part = (X.length : Int) := rfl
  have eg : t.parts[X.length]?.getD zP = p := by rw [ht]; simp
  have hlt : X.length < t.parts.length := by rw [ht]; simp
  rw [et]
  have hne2 := hn.ep
  have c1 : (s.right q ≠ 0) = False := by simp [right_iff.2 hn.right]
  have c2 : ((9 : Int) = 8) = False := by decide
  have c3 : ((t.parts.length : Int) ≤ (X.length : Int)) = False := by simp; omega
  have c4 : ((change t.id X.length q).epoch < p.epoch ∨ p.epoch + 1 < (change t.id X.length q).epoch ∨ (change t.id X.length q).epoch = p.epoch ∧ (change t.id X.length q).leader ≠ p.leader) = False := by
    have e1 : (change t.id X.length q).epoch = q.epoch := rfl
    have e2 : (change t.id X.length q).leader = q.leader := rfl
    rw [e1, e2, eq_iff_iff, iff_false]
    rintro (h | h | ⟨h, h'⟩)
    · omega
    · omega
    · rcases hne2 with ⟨_, h3⟩ | h3
      · exact h' h3
      · omega
  have c5 : (p.same q = true) = False := by simp [hne]
  simp only [ep, en, Int.toNat_natCast, eg, ek, c1, c2, c3, c4, c5, if_false]
  simp only [Image.putPart, Prod.mk.injEq, and_true, Image.mk.injEq, true_and]
  have hx : ∀ u ∈ s.topics, (if u.id = (change t.id X.length q).topic then ({ u with parts := setAt u.parts X.length q } : Topic) else u) = if u.id = t.id then { t with parts := X ++ q :: Y } else u := by
    intro u hu
    by_cases e : u.id = t.id
    · rw [if_pos e, if_pos (show u.id = (change t.id X.length q).topic from e), h2 u hu e, ht, setAt_mid]
    · rw [if_neg e, if_neg (show ¬ u.id = (change t.id X.length q).topic from e)]
  rw [List.map_congr_left hx, hs]
  rw [hs, List.pairwise_append, List.pairwise_cons] at hp
  have hA : ∀ u ∈ A, (if u.id = t.id then ({ t with parts := X ++ q :: Y } : Topic) else u) = u := fun u hu => by
    rw [if_neg]; have := hp.2.2 u hu t (by simp); omega
  have hB : ∀ u ∈ B, (if u.id = t.id then ({ t with parts := X ++ q :: Y } : Topic) else u) = u := fun u hu => by
    rw [if_neg]; have := hp.2.1.1 u hu; omega
  rw [List.map_append, List.map_cons, List.map_congr_left hA, List.map_congr_left hB]
  simp
end
end Go.Am
end
section
namespace Go.Am
open Go
noncomputable section
theorem same_eq {p q : Part} (h : p.same q = true) : p = q := by
  simp only [Part.same, Bool.and_eq_true, beq_iff_eq] at h
  obtain ⟨⟨⟨⟨⟨h1, h2⟩, h3⟩, h4⟩, h5⟩, h6⟩ := h
  cases p; cases q; simp_all
theorem Image.Next.brokers {m m' : Image} {p q : Part} (h : m.Next p q) (e : m'.brokers = m.brokers) : m'.Next p q :=
  ⟨h.right.mono (fun n _ hs => by unfold Image.broker at hs ⊢; rw [e]; exact hs) (fun _ ha => by unfold Image.alive Image.broker at ha ⊢; rw [e]; exact ha), h.rows, h.ep⟩
theorem go_parts (m0 : Image) (f : Part → Part) (rest : List Record) : ∀ (Y X : List Part) (s : Image) (A B : List Topic) (t : Topic), s.topics = A ++ t :: B → t.parts = X ++ Y → (s.topics.Pairwise fun a b => a.id < b.id) → (1 ≤ t.id ∧ t.id ≤ 1073741824) → X.length + Y.length ≤ 256 →
    (∀ p ∈ Y, p.same (f p) = false → s.Next p (f p)) → m0.allFrom s (changesT f t.id Y X.length ++ rest) = m0.allFrom { s with topics := A ++ { t with parts := X ++ Y.map f } :: B } rest := by
  intro Y
  induction Y with
  | nil =>
    intro X s A B t hs ht _ _ _ _
    simp only [changesT, List.nil_append, List.map_nil, List.append_nil]
    have : ({ t with parts := X } : Topic) = t := by cases t; simp at ht; simp [ht]
    rw [this, ← hs]
  | cons p Y ih =>
    intro X s A B t hs ht hp hid hl hn
    simp only [List.length_cons] at hl
    simp only [changesT, List.map_cons]
    by_cases hsm : p.same (f p) = true
    · rw [if_pos hsm]
      have e := same_eq hsm
      have := ih (X ++ [p]) s A B t hs (by simp [ht]) hp hid (by simp; omega) (fun q hq => hn q (by simp [hq]))
      simp only [List.length_append, List.length_singleton, List.append_assoc, List.cons_append, List.nil_append] at this
      rw [this, ← e]
    · have hsm : p.same (f p) = false := by simpa using hsm
      rw [if_neg (by simp [hsm])]
      have ha := apply_change hs hp ht hid (by omega) (hn p (by simp) hsm) hsm
      simp only [List.cons_append, Image.allFrom, ha, ne_eq, not_true_eq_false, if_false]
      have hp' : (A ++ ({ t with parts := X ++ f p :: Y } : Topic) :: B).Pairwise fun a b => a.id < b.id := by
        rw [hs, List.pairwise_append, List.pairwise_cons] at hp
        rw [List.pairwise_append, List.pairwise_cons]
        refine ⟨hp.1, hp.2.1, fun a ha b hb => ?_⟩
        rcases List.mem_cons.1 hb with rfl | hb
        · exact hp.2.2 a ha t (by simp)
        · exact hp.2.2 a ha b (by simp [hb])
      have := ih (X ++ [f p]) { s with topics := A ++ { t with parts := X ++ f p :: Y } :: B } A B { t with parts := X ++ f p :: Y } rfl (by simp) hp' hid (by simp; omega) (fun q hq hq2 => (hn q (by simp [hq]) hq2).brokers rfl)
      simp only [List.length_append, List.length_singleton, List.append_assoc, List.cons_append, List.nil_append] at this
      exact this
theorem go_topics (m0 : Image) (f : Part → Part) (rest : List Record) : ∀ (B A : List Topic) (s : Image), s.topics = A ++ B → (s.topics.Pairwise fun a b => a.id < b.id) → (∀ t ∈ B, (1 ≤ t.id ∧ t.id ≤ 1073741824) ∧ t.parts.length ≤ 256) →
    (∀ t ∈ B, ∀ p ∈ t.parts, p.same (f p) = false → s.Next p (f p)) →
    m0.allFrom s (B.flatMap (fun t => changesT f t.id t.parts 0) ++ rest) = m0.allFrom { s with topics := A ++ B.map fun t => { t with parts := t.parts.map f } } rest := by
  intro B
  induction B with
  | nil => intro A s hs _ _ _; simp at hs; simp [← hs]
  | cons t B ih =>
    intro A s hs hp hb hn
    have h1 := go_parts m0 f (B.flatMap (fun t => changesT f t.id t.parts 0) ++ rest) t.parts [] s A B t hs (by simp) hp (hb t (by simp)).1 (by have := (hb t (by simp)).2; simp; omega) (fun p hp' => hn t (by simp) p hp')
    simp only [List.flatMap_cons, List.append_assoc]
    simp only [List.length_nil, List.nil_append] at h1
    rw [h1]
    have hp' : (A ++ ({ t with parts := t.parts.map f } : Topic) :: B).Pairwise fun a b => a.id < b.id := by
      rw [hs, List.pairwise_append, List.pairwise_cons] at hp
      rw [List.pairwise_append, List.pairwise_cons]
      refine ⟨hp.1, hp.2.1, fun a ha b hb => ?_⟩
      rcases List.mem_cons.1 hb with rfl | hb
      · exact hp.2.2 a ha t (by simp)
      · exact hp.2.2 a ha b (by simp [hb])
    have := ih (A ++ [{ t with parts := t.parts.map f }]) { s with topics := A ++ { t with parts := t.parts.map f } :: B } (by simp) hp' (fun u hu => hb u (by simp [hu])) (fun u hu p hp hq => (hn u (by simp [hu]) p hp hq).brokers rfl)
    simp only [List.append_assoc, List.cons_append, List.nil_append] at this
    rw [this]
    simp
def Image.mapParts (m : Image) (f : Part → Part) : Image := { m with topics := m.topics.map fun t => { t with parts := t.parts.map f } }
theorem all_changes {m : Image} {n : Nat} (h : m.Inv n) (hn : n ≤ 256) (f : Part → Part) (hf : ∀ t ∈ m.topics, ∀ p ∈ t.parts, p.same (f p) = false → m.Next p (f p)) : m.all (m.changes f) = (m.mapParts f, 0) := by
  have := go_topics m f [] m.topics [] m rfl h.ti (fun t ht => ⟨by have := h.tr t ht; have := h.la; omega, by have := h.pl t ht; omega⟩) hf
  simp only [List.append_nil, List.nil_append] at this
  unfold Image.all Image.changes
  rw [this]
  rfl
end
end Go.Am
end
section
namespace Go.Am
open Go
noncomputable section
theorem fit_alive {m : Image} {id : Int} {st : Bool} (h : m.fit id st = true) : m.alive id = true := by
  unfold Image.fit at h; unfold Image.alive
  cases hb : m.broker id with
  | none => rw [hb] at h; simp at h
  | some b => rw [hb] at h; simp at h; simp [h.1]
theorem chooseP_spec (m : Image) (p : Part) (but : Int) : m.chooseP p but = 0 ∨ (m.chooseP p but ∈ p.ids ∧ m.chooseP p but ≠ but ∧ m.chooseP p but ∈ p.isr ∧ m.alive (m.chooseP p but) = true) := by
  have key : ∀ st x, p.ids.find? (m.mayLead p but st) = some x → x ∈ p.ids ∧ x ≠ but ∧ x ∈ p.isr ∧ m.alive x = true := by
    intro st x hx
    have h1 := List.mem_of_find?_eq_some hx
    have h2 := List.find?_some hx
    simp only [Image.mayLead, Bool.and_eq_true, bne_iff_ne, ne_eq, List.contains_iff_mem] at h2
    exact ⟨h1, h2.1.1, h2.1.2, fit_alive h2.2⟩
  unfold Image.chooseP
  split
  · rename_i x hx; exact .inr (key _ _ hx)
  · split
    · rename_i x hx; exact .inr (key _ _ hx)
    · exact .inl rfl
theorem brokersB_sub {l l' : List Int} (h : brokersB l = true) (hs : l'.Sublist l) : brokersB l' = true := by
  simp only [brokersB, decide_eq_true_eq] at h ⊢
  exact ⟨by have := hs.length_le; omega, fun n hn => h.2.1 n (hs.subset hn), h.2.2.sublist hs⟩
end
end Go.Am
end
section
namespace Go.Am
open Go
noncomputable section
end
end Go.Am
end
section
namespace Go.Am
open Go
noncomputable section
theorem Image.Pre.change {s : Image} (h : s.Pre) {r : Record} (hk : r.kind = 9) (he : 0 ≤ r.epoch ∧ r.epoch ≤ 1000000) : (s.apply r).1.Pre := by
  unfold Image.apply
  split
  · exact h
  rename_i hc
  have hc : (checkW r).code = 0 := by simpa using hc
  have hp := (check_part hc (.inr hk)).1
  rw [if_neg (show ¬ r.kind = 2 by omega), if_neg (show ¬ (r.kind = 3 ∨ r.kind = 4 ∨ r.kind = 5 ∨ r.kind = 6) by omega), if_pos (show r.kind = 8 ∨ r.kind = 9 by omega)]
  unfold Image.partRec
  split
  · exact h
  rename_i t ht
  split
  · exact h
  rw [if_neg (show ¬ r.kind = 8 by omega)]
  split
  · exact h
  rename_i hlt
  split
  · exact h
  split
  · exact h
  have hu : ∀ u ∈ s.topics, u.id = r.topic → u = t := fun u hu e => topic_unique h.ti ht hu e
  refine ⟨h.bl, by have := h.tl; simpa [Image.putPart] using this, h.cl, h.dl, ?_, ?_, ?_⟩
  · intro t' ht'
    simp only [Image.putPart, List.mem_map] at ht'
    obtain ⟨u, hum, rfl⟩ := ht'
    have hul := h.pl u hum
    split
    · rename_i e
      have hut := hu u hum e
      subst hut
      simp only [setAt, List.length_append, List.length_take, List.length_cons, List.length_drop]
      omega
    · exact hul
  · simp only [Image.putPart, List.pairwise_map]
    refine h.ti.imp ?_
    intro a b hab; split <;> split <;> exact hab
  · intro t' ht' p hp'
    simp only [Image.putPart, List.mem_map] at ht'
    obtain ⟨u, hum, rfl⟩ := ht'
    split at hp'
    · rcases setAt_mem hp' with rfl | hp'
      · exact he
      · exact h.ep u hum p hp'
    · exact h.ep u hum p hp'
end
end Go.Am
end
section
namespace Go.Am
open Go
noncomputable section
end
end Go.Am
end
section
namespace Go.Am
open Go
noncomputable section
theorem changesT_mem (f : Part → Part) (id : Int) : ∀ (l : List Part) (k : Nat) (r : Record), r ∈ changesT f id l k → ∃ p ∈ l, ∃ j, r = change id j (f p) := by
  intro l
  induction l with
  | nil => intro k r h; simp [changesT] at h
  | cons p l ih =>
    intro k r h
    simp only [changesT] at h
    split at h
    · obtain ⟨q, hq, j, e⟩ := ih _ r h; exact ⟨q, by simp [hq], j, e⟩
    · rcases List.mem_cons.1 h with rfl | h
      · exact ⟨p, by simp, k, rfl⟩
      · obtain ⟨q, hq, j, e⟩ := ih _ r h; exact ⟨q, by simp [hq], j, e⟩
theorem changesT_le (f : Part → Part) (id : Int) : ∀ (l : List Part) (k : Nat), (changesT f id l k).length ≤ l.length := by
  intro l
  induction l with
  | nil => intro k; simp [changesT]
  | cons p l ih => intro k; simp only [changesT]; split <;> simp <;> have := ih (k + 1) <;> omega
theorem changes_mem {m : Image} {f : Part → Part} {r : Record} (h : r ∈ m.changes f) : ∃ t ∈ m.topics, ∃ p ∈ t.parts, ∃ j, r = change t.id j (f p) := by
  simp only [Image.changes, List.mem_flatMap] at h
  obtain ⟨t, ht, h⟩ := h
  obtain ⟨p, hp, j, e⟩ := changesT_mem f t.id t.parts 0 r h
  exact ⟨t, ht, p, hp, j, e⟩
theorem flat_le {α β : Type} (g : α → List β) (N : Nat) : ∀ (l : List α), (∀ x ∈ l, (g x).length ≤ N) → (l.flatMap g).length ≤ l.length * N := by
  intro l
  induction l with
  | nil => intro _; simp
  | cons x l ih =>
    intro h
    have h1 := h x (by simp)
    have h2 := ih fun y hy => h y (by simp [hy])
    simp only [List.flatMap_cons, List.length_append, List.length_cons, Nat.add_mul]
    omega
theorem changes_len {m : Image} {n : Nat} (h : m.Inv n) (hn : n ≤ 1000) (f : Part → Part) : (m.changes f).length ≤ 1000000 := by
  have h1 := flat_le (fun t => changesT f t.id t.parts 0) 1000 m.topics (fun t ht => by have := changesT_le f t.id t.parts 0; have := h.pl t ht; omega)
  have h2 := h.tl
  have : m.topics.length * 1000 ≤ 1000 * 1000 := Nat.mul_le_mul_right _ (by omega)
  unfold Image.changes
  omega
theorem changes_pre {m : Image} {f : Part → Part} (hf : ∀ t ∈ m.topics, ∀ p ∈ t.parts, 0 ≤ (f p).epoch ∧ (f p).epoch ≤ 1000000) (s : Image) (r : Record) (hr : r ∈ m.changes f) (hs : s.Pre) : (s.apply r).1.Pre := by
  obtain ⟨t, ht, p, hp, j, rfl⟩ := changes_mem hr
  exact hs.change rfl (hf t ht p hp)
end
end Go.Am
end
