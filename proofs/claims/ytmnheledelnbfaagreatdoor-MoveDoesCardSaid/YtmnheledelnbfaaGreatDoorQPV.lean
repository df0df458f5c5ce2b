/- Part of the proof of a law of moving. -/
import Derived.Test.YtmnheledelnbfaaGreatDoorQPU
import Derived.KernelRfl
set_option linter.all false
section
namespace Go.Am
open Go
noncomputable section
def zR : Record := ⟨0, 0, 0, 0, 0, 0, 0, 0, 0, false, ⟨#[]⟩, ⟨#[]⟩, ⟨#[]⟩, ⟨#[]⟩, [], [], [], []⟩
def firstL : List Record :=
  [{ zR with kind := 2, broker := 1, epoch := 1, rack := bs [97] }, { zR with kind := 4, broker := 1, epoch := 1 },
   { zR with kind := 2, broker := 2, epoch := 1, rack := bs [98] }, { zR with kind := 4, broker := 2, epoch := 1 },
   { zR with kind := 7, topic := 1, name := bs [116] }, { zR with kind := 8, topic := 1, ids := [1, 2], isr := [1, 2], leader := 1 }]
def fp : Part := ⟨[1, 2], [1, 2], 1, 0, [], []⟩
def fq : Part := ⟨[1, 2], [2], 2, 1, [], []⟩
def fs : Part := ⟨[1, 2], [1], 1, 0, [], []⟩
end
end Go.Am
end
section
namespace Go.Am
open Go
noncomputable section
structure Image.Next (m : Image) (p q : Part) : Prop where
  right : m.Right q
  rows : q.Rows 1000000
  ep : q.epoch = p.epoch ∧ q.leader = p.leader ∨ q.epoch = p.epoch + 1
end
end Go.Am
end
section
namespace Go.Am
open Go
noncomputable section
theorem same_eq {p q : Part} (h : p.same q = true) : p = q := by
  simp only [Part.same, Bool.and_eq_true, beq_iff_eq] at h
  obtain ⟨⟨⟨⟨⟨h1, h2⟩, h3⟩, h4⟩, h5⟩, h6⟩ := h
  cases p; cases q; simp_all
theorem Image.Next.brokers {m m' : Image} {p q : Part} (h : m.Next p q) (e : m'.brokers = m.brokers) : m'.Next p q :=
  ⟨h.right.mono (fun n _ hs => by unfold Image.broker at hs ⊢; rw [e]; exact hs) (fun _ ha => by unfold Image.alive Image.broker at ha ⊢; rw [e]; exact ha), h.rows, h.ep⟩
end
end Go.Am
end
section
namespace Go.Am
open Go
noncomputable section
theorem fit_alive {m : Image} {id : Int} {st : Bool} (h : m.fit id st = true) : m.alive id = true := by
  unfold Image.fit at h; unfold Image.alive
  cases hb : m.broker id with
  | none => rw [hb] at h; simp at h
  | some b => rw [hb] at h; simp at h; simp [h.1]
theorem chooseP_spec (m : Image) (p : Part) (but : Int) : m.chooseP p but = 0 ∨ (m.chooseP p but ∈ p.ids ∧ m.chooseP p but ≠ but ∧ m.chooseP p but ∈ p.isr ∧ m.alive (m.chooseP p but) = true) := by
  have key : ∀ st x, p.ids.find? (m.mayLead p but st) = some x → x ∈ p.ids ∧ x ≠ but ∧ x ∈ p.isr ∧ m.alive x = true := by
    intro st x hx
    have h1 := List.mem_of_find?_eq_some hx
    have h2 := List.find?_some hx
    simp only [Image.mayLead, Bool.and_eq_true, bne_iff_ne, ne_eq, List.contains_iff_mem] at h2
    exact ⟨h1, h2.1.1, h2.1.2, fit_alive h2.2⟩
  unfold Image.chooseP
  split
  · rename_i x hx; exact .inr (key _ _ hx)
  · split
    · rename_i x hx; exact .inr (key _ _ hx)
    · exact .inl rfl
theorem brokersB_sub {l l' : List Int} (h : brokersB l = true) (hs : l'.Sublist l) : brokersB l' = true := by
  simp only [brokersB, decide_eq_true_eq] at h ⊢
  exact ⟨by have := hs.length_le; omega, fun n hn => h.2.1 n (hs.subset hn), h.2.2.sublist hs⟩
end
end Go.Am
end
section
namespace Go.Am
open Go
noncomputable section
end
end Go.Am
end
section
namespace Go.Am
open Go
noncomputable section
end
end Go.Am
end
section
namespace Go.Am
open Go
noncomputable section
theorem broker_id {m : Image} {n : Int} {b : Broker} (h : m.broker n = some b) : b.id = n := by
  have := List.find?_some h; simpa using this
theorem chooseFrom_eq (m : Image) (p : Part) (but : Int) : ∀ (l : List Int) (s : Int), (∀ n ∈ l, n ≠ 0) → m.chooseFrom p but l s =
    match l.find? (m.mayLead p but true) with
    | some x => x
    | none => if s ≠ 0 then s else match l.find? (m.mayLead p but false) with
      | some x => x
      | none => 0 := by
  intro l
  induction l with
  | nil => intro s _; simp [Image.chooseFrom]
  | cons n l ih =>
    intro s hl
    have hn := hl n (by simp)
    have ih := fun s => ih s fun x hx => hl x (by simp [hx])
    simp only [Image.chooseFrom, List.find?_cons]
    cases hb : m.broker n with
    | none =>
      have e1 : ∀ st, m.mayLead p but st n = false := fun st => by simp [Image.mayLead, Image.fit, hb]
      simp only [e1, ih]
    | some b =>
      have hid := broker_id hb
      have hb' : m.broker b.id = some b := by rw [hid]; exact hb
      simp only
      by_cases hx : b.fenced = true ∨ b.id = but ∨ p.isr.contains b.id = false
      · rw [if_pos hx]
        have e1 : ∀ st, m.mayLead p but st n = false := fun st => by
          simp only [Image.mayLead, Image.fit, hb]
          rcases hx with hx | hx | hx
          · simp [hx]
          · rw [← hid]; simp [hx]
          · rw [← hid, hx]; simp
        simp only [e1, ih]
      · rw [if_neg hx]
        simp only [not_or, Bool.not_eq_true, Bool.not_eq_false] at hx
        have e2 : m.mayLead p but false n = true := by
          simp only [Image.mayLead, Image.fit, ← hid, hb']
          simp [hx.1, hx.2.1]
          simpa using hx.2.2
        by_cases hlv : b.leaving = false
        · rw [if_pos hlv]
          have e1 : m.mayLead p but true n = true := by
            simp only [Image.mayLead, Image.fit, ← hid, hb']
            simp [hx.1, hx.2.1, hlv]
            simpa using hx.2.2
          simp only [e1, hid]
        · rw [if_neg hlv]
          have e1 : m.mayLead p but true n = false := by
            simp only [Image.mayLead, Image.fit, hb]
            simp at hlv
            simp [hlv]
          simp only [e1, e2, ih, hid]
          by_cases hs : s = 0
          · subst hs; simp [hn]
          · simp [hs]
theorem chooseR_eq (m : Image) (p : Part) (but : Int) (h : ∀ n ∈ p.ids, n ≠ 0) : m.chooseR p but = m.chooseP p but := by
  unfold Image.chooseR Image.chooseP
  rw [chooseFrom_eq m p but _ _ h]
  cases h1 : p.ids.find? (m.mayLead p but true) <;> cases h2 : p.ids.find? (m.mayLead p but false) <;> simp
end
end Go.Am
end
section
namespace Go.Am
open Go
noncomputable section
theorem changesT_le (f : Part → Part) (id : Int) : ∀ (l : List Part) (k : Nat), (changesT f id l k).length ≤ l.length := by
  intro l
  induction l with
  | nil => intro k; simp [changesT]
  | cons p l ih => intro k; simp only [changesT]; split <;> simp <;> have := ih (k + 1) <;> omega
theorem flat_le {α β : Type} (g : α → List β) (N : Nat) : ∀ (l : List α), (∀ x ∈ l, (g x).length ≤ N) → (l.flatMap g).length ≤ l.length * N := by
  intro l
  induction l with
  | nil => intro _; simp
  | cons x l ih =>
    intro h
    have h1 := h x (by simp)
    have h2 := ih fun y hy => h y (by simp [hy])
    simp only [List.flatMap_cons, List.length_append, List.length_cons, Nat.add_mul]
    omega
theorem changes_len {m : Image} {n : Nat} (h : m.Inv n) (hn : n ≤ 1000) (f : Part → Part) : (m.changes f).length ≤ 1000000 := by
  have h1 := flat_le (fun t => changesT f t.id t.parts 0) 1000 m.topics (fun t ht => by have := changesT_le f t.id t.parts 0; have := h.pl t ht; omega)
  have h2 := h.tl
  have : m.topics.length * 1000 ≤ 1000 * 1000 := Nat.mul_le_mul_right _ (by omega)
  unfold Image.changes
  omega
end
end Go.Am
end
