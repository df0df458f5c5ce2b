/- Part of the proof of a law of moving. -/
import Derived.Test.YtmnheledelnbfaaGreatQV11a
set_option linter.all false
set_option maxRecDepth 100000
set_option maxHeartbeats 0
namespace Go.Am
open Go
noncomputable section
theorem named_of {m : Image} (h : m.topics.Pairwise fun a b => a.name.toList ≠ b.name.toList) {t : Topic} (ht : t ∈ m.topics) : m.named t.name = some t := by
  unfold Image.named
  revert h ht
  generalize m.topics = l
  intro h ht
  induction l with
  | nil => cases ht
  | cons u l ih =>
    rw [List.pairwise_cons] at h
    rw [List.find?_cons]
    rcases List.mem_cons.1 ht with rfl | hm
    · simp
    · have := h.1 t hm
      have hne : (u.name.toList == t.name.toList) = false := by simpa using this
      rw [hne]
      exact ih h.2 hm
def mvReq (t : Topic) (k : Nat) (g : List Int) : Req := ⟨0, 0, 5, t.name, ⟨#[]⟩, ⟨#[]⟩, false, 0, 0, k, g, 0, 0, ⟨#[]⟩, 0, 0, 0, false, false⟩
theorem at_of {m : Image} {n : Nat} (h : m.Inv n) {t : Topic} (ht : t ∈ m.topics) {k : Nat} {p : Part} (hk : t.parts[k]? = some p) (g : List Int) : m.at (mvReq t k g) = some (t, k, p) := by
  obtain ⟨hkl, _, _, _⟩ := parts_mid hk
  unfold Image.at
  rw [show (mvReq t k g).name = t.name from rfl, named_of h.tn ht]
  have hg : t.parts.getD k zP = p := by rw [List.getD_eq_getElem?_getD, hk]; rfl
  show (if 0 ≤ (mvReq t k g).part ∧ (mvReq t k g).part < t.parts.length then some (t, (mvReq t k g).part.toNat, t.parts.getD (mvReq t k g).part.toNat zP) else none) = _
  rw [if_pos (by show 0 ≤ (k : Int) ∧ (k : Int) < t.parts.length; omega)]
  show some (t, (k : Int).toNat, t.parts.getD (k : Int).toNat zP) = _
  rw [Int.toNat_natCast, hg]
structure Sent (m : Image) (n : Nat) (t : Topic) (k : Nat) (q : Part) (next : Image) : Prop where
  all : m.all [change t.id k q] = (next, 0)
  inv : next.Inv (n + 1)
  br : next.brokers = m.brokers
  part : next.part t.id k = some q
theorem sent_ok {m : Image} {n : Nat} (h : m.Inv n) (hn : n ≤ 256) {t : Topic} {k : Nat} {p q : Part} (ht : t ∈ m.topics) (hk : t.parts[k]? = some p) (hx : m.Next p q) (hne : p.same q = false) : ∃ next, Sent m n t k q next := by
  obtain ⟨A, B, hs, ha⟩ := apply_at h hn ht hk hx hne
  obtain ⟨hkl, hpm, _, hlen⟩ := parts_mid hk
  have hi := h.apply (by omega) (change t.id k q)
  rw [ha] at hi
  refine ⟨_, all_one ha, hi, rfl, ?_⟩
  have htm := topic_mid (s := { m with topics := A ++ t.with k q :: B }) (A := A) (B := B) (t := t.with k q) rfl hi.ti
  unfold Image.part
  rw [show t.id = (t.with k q).id from rfl, htm.1]
  simp only
  rw [if_neg (by omega), Int.toNat_natCast]
  show (t.parts.take k ++ q :: t.parts.drop (k + 1))[k]? = some q
  rw [List.getElem?_append_right (by omega), hlen, Nat.sub_self]
  rfl
theorem alive_br {m m' : Image} (e : m'.brokers = m.brokers) (x : Int) : m'.alive x = m.alive x := by unfold Image.alive Image.broker; rw [e]
theorem joinL_len : ∀ (l s : List Int), (joinL s l).length ≤ s.length + l.length := by
  intro l
  induction l with
  | nil => intro s; simp [joinL]
  | cons x l ih =>
    intro s
    simp only [joinL]
    have := ih (if s.contains x then s else s ++ [x])
    have h2 : (if s.contains x then s else s ++ [x]).length ≤ s.length + 1 := by split <;> simp
    simp only [List.length_cons]
    omega
end
end Go.Am
