/- Part of the proof of ElectLeaves. -/
import Derived.Test.YteijffflinnccaaZPU
set_option linter.all false
namespace Go.Am
open Go
noncomputable section
def openR (b : Broker) : Record := { zR with kind := 4, broker := b.id, epoch := b.epoch }
theorem openB_put {l : List Broker} {b : Broker} (h : srtB l) (hb : b ∈ l) : putB l { b with fenced := false, leaving := false } = l.map (openB b.id) := by
  obtain ⟨A, C, rfl⟩ := List.append_of_mem hb
  rw [putB_eq _ h]
  rw [srtB, List.pairwise_append] at h
  obtain ⟨h1, h2, h3⟩ := h
  have hA : ∀ x ∈ A, x.id < b.id := fun x hx => h3 x hx b (by simp)
  have hC : ∀ x ∈ C, b.id < x.id := (List.pairwise_cons.1 h2).1
  have a1 : A.filter (fun x => decide (x.id < b.id)) = A := List.filter_eq_self.2 fun x hx => by simpa using hA x hx
  have a2 : A.filter (fun x => decide (b.id < x.id)) = [] := List.filter_eq_nil_iff.2 fun x hx => by have := hA x hx; simp; omega
  have c1 : C.filter (fun x => decide (x.id < b.id)) = [] := List.filter_eq_nil_iff.2 fun x hx => by have := hC x hx; simp; omega
  have c2 : C.filter (fun x => decide (b.id < x.id)) = C := List.filter_eq_self.2 fun x hx => by simpa using hC x hx
  have mA : A.map (openB b.id) = A := by
    conv => rhs; rw [← List.map_id A]
    exact List.map_congr_left fun x hx => by have := hA x hx; simp [openB]; intro e; omega
  have mC : C.map (openB b.id) = C := by
    conv => rhs; rw [← List.map_id C]
    exact List.map_congr_left fun x hx => by have := hC x hx; simp [openB]; intro e; omega
  simp only [List.filter_append, List.filter_cons, List.map_append, List.map_cons, a1, a2, c1, c2, mA, mC]
  simp [openB]
theorem open_ok {s : Image} {b : Broker} (hsr : srtB s.brokers) (hb : b ∈ s.brokers) (h1 : 1 ≤ b.id ∧ b.id ≤ 64 ∧ 0 ≤ b.epoch ∧ b.epoch ≤ 1073741824) (hf : b.fenced = true) : s.apply (openR b) = (s.opened b.id, 0) := by
  have ek : (openR b).kind = 4 := rfl
  have hc : (openR b).Chk := by
    have hn : ∀ (n lo hi : Int) (a : Bool), a = true → lo ≤ n → n ≤ hi → numB n a lo hi = true := by
      rintro n lo hi _ rfl h1 h2
      simp only [numB, if_true, Bool.and_eq_true, decide_eq_true_eq]
      exact ⟨h1, h2⟩
    refine ⟨by rw [ek]; omega, ?_, ?_, ?_, ?_, ?_⟩
    · rw [ek]
      exact ⟨hn b.id _ _ _ (by kernel_rfl) (by omega) (by omega), hn b.epoch _ _ _ (by kernel_rfl) (by omega) (by omega), by kernel_rfl, by kernel_rfl, by kernel_rfl, by kernel_rfl, by kernel_rfl, by kernel_rfl⟩
    · intro h; simp [openR, zR] at h
    · rw [ek]; exact ⟨by kernel_rfl, by kernel_rfl, by kernel_rfl⟩
    · exact ⟨by show ((0 : Nat) : Int) ≤ 256; omega, .inl (by kernel_rfl)⟩
    · rw [ek]; exact ⟨by kernel_rfl, by kernel_rfl, by kernel_rfl, by kernel_rfl⟩
  have e0 : (checkW (openR b)).code = 0 := (check_iff _).2 hc
  unfold Image.apply
  rw [if_neg (by simp [e0]), if_neg (show ¬ (openR b).kind = 2 by rw [ek]; decide), if_pos (show (openR b).kind = 3 ∨ _ from .inr (.inl ek))]
  unfold Image.brokerRec
  have e1 : s.broker (openR b).broker = some b := (find_srt hsr).2 ⟨hb, rfl⟩
  rw [e1]
  have e2 : (openR b).epoch = b.epoch := rfl
  simp [e2, ek, hf, openB_put hsr hb, Image.opened]
theorem opened_broker {s : Image} {b : Broker} (hsr : srtB s.brokers) (hb : b ∈ s.brokers) : (s.opened b.id).broker b.id = some { b with fenced := false, leaving := false } := by
  have e := openB_put hsr hb
  unfold Image.opened Image.broker
  simp only [← e]
  rw [broker_put hsr]; simp
theorem gain_leader (m : Image) (p : Part) : (m.gain p).leader = if p.leader = 0 then m.chooseP p 0 else p.leader := by
  unfold Image.gain; split
  · exact with_leader _ _
  · rfl
theorem gain_epoch (m : Image) (p : Part) : p.epoch ≤ (m.gain p).epoch := by
  have := with_ep p (m.chooseP p 0)
  unfold Image.gain
  split <;> omega
theorem gain_come {m : Image} {p : Part} {b : Broker} (hb : m.broker b.id = some { b with fenced := false, leaving := false }) (h0 : b.id ≠ 0) (hr : m.Right p) (hne : ∀ x ∈ p.ids, x ≠ 0) (hl : p.leader = 0) (hi : p.isr.contains b.id = true) : ¬ (m.gain p).leader = 0 := by
  rw [gain_leader, if_pos hl]
  have hi' : b.id ∈ p.isr := by simpa using hi
  have hm := hr.sub b.id hi'
  have hml : m.mayLead p 0 true b.id = true := by
    simp only [Image.mayLead, Image.fit, hb, Bool.and_eq_true, hi, bne_iff_ne]
    simp [h0]
  unfold Image.chooseP
  split
  · rename_i x hx; exact hne x (List.mem_of_find?_eq_some hx)
  · rename_i hx
    rw [List.find?_eq_none] at hx
    exact absurd hml (hx b.id hm)
end
end Go.Am
