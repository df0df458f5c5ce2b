/- Part of the proof of ElectLeaves. -/
import Derived.Test.YteijffflinnccaaZPU
set_option linter.all false
namespace Go.Am
open Go
noncomputable section
def cnt : List Topic → Nat
  | [] => 0
  | t :: l => t.parts.length + cnt l
theorem cnt_le : ∀ (l : List Topic), (∀ t ∈ l, t.parts.length ≤ 1000) → cnt l ≤ l.length * 1000 := by
  intro l
  induction l with
  | nil => simp [cnt]
  | cons t l ih =>
    intro h
    have h1 := h t (by simp)
    have h2 := ih fun u hu => h u (by simp [hu])
    simp only [cnt, List.length_cons]; omega
def pickT : List Topic → Nat → Option (Int × Nat × Part)
  | [], _ => none
  | t :: l, a => if a < t.parts.length then some (t.id, a, t.parts[a]?.getD zP) else pickT l (a - t.parts.length)
def Image.sel (m : Image) (n : Int) : Option (Int × Nat × Part) :=
  if cnt m.topics = 0 then none else pickT m.topics (IntKind.i64.wrap ((IntKind.u64.wrap n).tmod (cnt m.topics : Int))).toNat
theorem pickT_spec : ∀ (l : List Topic) (a : Nat) (r : Int × Nat × Part), pickT l a = some r → ∃ t ∈ l, r.1 = t.id ∧ t.parts[r.2.1]? = some r.2.2 := by
  intro l
  induction l with
  | nil => intro a r h; simp [pickT] at h
  | cons t l ih =>
    intro a r h
    simp only [pickT] at h
    split at h
    · rename_i ha
      cases h
      exact ⟨t, by simp, rfl, by simp [ha]⟩
    · obtain ⟨u, hu, h1⟩ := ih _ _ h
      exact ⟨u, by simp [hu], h1⟩
theorem sel_spec {m : Image} {n : Int} {id : Int} {k : Nat} {p : Part} (h : m.sel n = some (id, k, p)) : ∃ t ∈ m.topics, id = t.id ∧ t.parts[k]? = some p := by
  unfold Image.sel at h
  split at h
  · cases h
  · exact pickT_spec _ _ _ h
theorem syncFrom_none {m : Image} {p : Part} {isr : List Int} : ∀ (l : List Int) (i : Nat), isr.drop i = l → m.syncFrom p isr l i = none → (∀ n ∈ l, n ∈ p.ids ∧ (n ∈ p.isr ∨ m.fit n true = true)) ∧ l.Nodup ∧ ∀ n ∈ l, n ∉ isr.take i := by
  intro l
  induction l with
  | nil => intro i _ _; simp
  | cons n l ih =>
    intro i hd h
    simp only [Image.syncFrom] at h
    split at h
    · cases h
    · rename_i h1
      split at h
      · cases h
      · rename_i h2
        have hi : i < isr.length := by
          rcases Nat.lt_or_ge i isr.length with h | h
          · exact h
          · rw [List.drop_eq_nil_of_le h] at hd; cases hd
        rw [List.drop_eq_getElem_cons hi] at hd
        simp only [List.cons.injEq] at hd
        obtain ⟨hn, hd⟩ := hd
        obtain ⟨a, b, c⟩ := ih (i + 1) hd h
        simp only [not_or, Bool.not_eq_false, Bool.not_eq_true] at h1
        have h1a : n ∈ p.ids := by simpa using h1.1
        have h1b : n ∉ isr.take i := by simpa using h1.2
        have htk : isr.take (i + 1) = isr.take i ++ [n] := by rw [List.take_add_one, List.getElem?_eq_getElem hi, hn]; rfl
        have hnl : n ∉ l := fun hm => c n hm (by rw [htk]; simp)
        refine ⟨?_, List.nodup_cons.2 ⟨hnl, b⟩, ?_⟩
        · intro x hx
          rcases List.mem_cons.1 hx with rfl | hx
          · refine ⟨h1a, ?_⟩
            by_cases hi : x ∈ p.isr
            · exact .inl hi
            · refine .inr ?_
              simpa [hi] using h2
          · exact a x hx
        · intro x hx
          rcases List.mem_cons.1 hx with rfl | hx
          · exact h1b
          · intro hm
            exact c x hx (by rw [htk]; simp [hm])
theorem sync_err {m : Image} {p : Part} {id ep : Int} {isr : List Int} {e : Bad} (h : (m.sync p id ep isr).2 = some e) : (m.sync p id ep isr).1 = p := by
  unfold Image.sync at h ⊢
  split
  · rfl
  · split
    · rfl
    · split
      · rfl
      · split
        · rfl
        · split
          · rfl
          · rename_i h1 h2 h3 _ h4 h5
            rw [if_neg h1, if_neg h2, if_neg h3] at h
            simp [h4, h5] at h
theorem sync_none {m : Image} {p : Part} {id ep : Int} {isr : List Int} (h : (m.sync p id ep isr).2 = none) :
    (m.sync p id ep isr).1 = { p with isr := isr } ∧ p.leader = id ∧ id ≠ 0 ∧ p.epoch = ep ∧ id ∈ isr ∧ isr.length ≤ p.ids.length ∧ isr.Nodup ∧ (∀ n ∈ isr, n ∈ p.ids ∧ (n ∈ p.isr ∨ m.fit n true = true)) ∧ ({ p with isr := isr } : Part).same p = false := by
  unfold Image.sync at h ⊢
  split at h
  · cases h
  · rename_i h1
    split at h
    · cases h
    · rename_i h2
      split at h
      · cases h
      · rename_i h3
        split at h
        · cases h
        · rename_i h4
          split at h
          · cases h
          · rename_i h5
            rw [if_neg h1, if_neg h2, if_neg h3]
            rw [if_neg h5]
            obtain ⟨a, b, _⟩ := syncFrom_none isr 0 rfl h4
            simp only [not_or, ne_eq, Decidable.not_not, Bool.not_eq_false, Bool.not_eq_true] at h1 h2 h3 h5
            exact ⟨rfl, h1.1, h1.2, h2, by simpa using h3.1, by omega, b, a, h5⟩
theorem same_symm (p q : Part) : p.same q = q.same p := by
  unfold Part.same
  simp only [Bool.beq_comm]
theorem sync_next {m : Image} {n : Nat} (hn : n ≤ 1000) {p : Part} (hr : m.Right p) (hw : p.Rows n) {id ep : Int} {isr : List Int} (h : (m.sync p id ep isr).2 = none) : m.Next p (m.sync p id ep isr).1 := by
  obtain ⟨e, h1, h2, h3, h4, h5, h6, h7, h8⟩ := sync_none h
  rw [e]
  have hids := hw.ids
  simp only [brokersB, decide_eq_true_eq] at hids
  refine ⟨⟨hr.ids, hr.reg, ?_, fun x hx => (h7 x hx).1, ?_, hr.add, hr.drop⟩, ⟨hw.ids, ?_, hw.add, hw.drop, ?_, hw.le⟩, .inl ⟨rfl, rfl⟩⟩
  · intro e2; simp only at e2; rw [e2] at h4; cases h4
  · intro hl; simp only at hl ⊢; exact ⟨h1 ▸ h4, (hr.lead hl).2⟩
  · simp only [brokersB, decide_eq_true_eq]
    exact ⟨by omega, fun x hx => hids.2.1 x (h7 x hx).1, h6⟩
  · have := hw.ep; simp only; omega
theorem sync_apply {m : Image} {n : Nat} (h : m.Inv n) (hn : n ≤ 256) {t : Topic} {k : Nat} {p : Part} (ht : t ∈ m.topics) (hk : t.parts[k]? = some p) {id ep : Int} {isr : List Int} (he : (m.sync p id ep isr).2 = none) : (m.apply (change t.id k (m.sync p id ep isr).1)).2 = 0 := by
  obtain ⟨A, B, hs⟩ := List.append_of_mem ht
  have hkl : k < t.parts.length := by
    rcases Nat.lt_or_ge k t.parts.length with h | h
    · exact h
    · rw [List.getElem?_eq_none h] at hk; cases hk
  have hkp : t.parts[k] = p := by rw [List.getElem?_eq_getElem hkl] at hk; simpa using hk
  have hp : t.parts = t.parts.take k ++ p :: t.parts.drop (k + 1) := by
    rw [← hkp, ← List.drop_eq_getElem_cons hkl, List.take_append_drop]
  have hlen : (t.parts.take k).length = k := by rw [List.length_take]; omega
  have hpm : p ∈ t.parts := hkp ▸ List.getElem_mem hkl
  have hpl := h.pl t ht
  have htr := h.tr t ht
  have hla := h.la
  have hpr := h.pr t ht p hpm
  have := apply_change (q := (m.sync p id ep isr).1) hs h.ti hp ⟨htr.1, by omega⟩ (by omega) (sync_next (by omega) hpr.1 hpr.2 he) (by
    rw [same_symm]
    obtain ⟨e, _, _, _, _, _, _, _, h8⟩ := sync_none he
    rw [e]; exact h8)
  rw [hlen] at this
  rw [this]
end
end Go.Am
