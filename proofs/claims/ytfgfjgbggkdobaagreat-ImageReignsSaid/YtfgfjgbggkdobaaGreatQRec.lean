/- Part of the proof of a law of the image. -/
import Derived.Test.YtfgfjgbggkdobaaGreatQData
import Derived.Test.YtfgfjgbggkdobaaGreatQPE
set_option linter.all false
namespace Go.Am
open Go
noncomputable section
abbrev lI : Lf := .int .i64
abbrev lL : Lf := .sl false [.int .i64]
abbrev lfR : List Lf := [lI, lI, lI, lI, lI, lI, lI, lI, lI, .bool, .str, .str, .str, .str, lL, lL, lL, lL]
def wfI (n : Int) : Prop := -9223372036854775808 ≤ n ∧ n ≤ 9223372036854775807
structure WfR (r : Record) : Prop where
  kind : wfI r.kind
  broker : wfI r.broker
  epoch : wfI r.epoch
  topic : wfI r.topic
  part : wfI r.part
  leader : wfI r.leader
  client : wfI r.client
  serial : wfI r.serial
  code : wfI r.code
  ids : ∀ n ∈ r.ids, wfI n
  isr : ∀ n ∈ r.isr, wfI n
  add : ∀ n ∈ r.add, wfI n
  drop : ∀ n ∈ r.drop, wfI n
theorem wfI_of {n : Int} (h : (Lit.int .i64 n).wf = true) : wfI n := by
  simp only [Lit.wf, Bool.and_eq_true, decide_eq_true_eq] at h
  exact h
theorem fit_int {x : V} (h : Fit lI x) : ∃ n, x = I n ∧ wfI n := by
  simp only [Fit] at h
  obtain ⟨n, rfl, h⟩ := h
  refine ⟨n, rfl, ?_⟩
  exact wfI_of h
theorem fit_bool {x : V} (h : Fit .bool x) : ∃ b, x = B b := h
theorem fit_str {x : V} (h : Fit .str x) : ∃ s, x = St s := by
  simp only [Fit] at h
  obtain ⟨n, rfl, h⟩ := h
  exact ⟨n, rfl⟩
theorem fit_ints {x : V} (h : Fit lL x) : ∃ l : List Int, x = Li l ∧ ∀ n ∈ l, wfI n := by
  simp only [Fit, FitL] at h
  obtain ⟨rows, rfl, h⟩ := h
  induction rows with
  | nil => exact ⟨[], rfl, by simp⟩
  | cons y ys ih =>
    obtain ⟨l, e, hl⟩ := ih fun z hz => h z (by simp [hz])
    obtain ⟨_, _, e1, ⟨n, rfl, hn⟩, _⟩ := h y (by simp)
    cases e1
    refine ⟨n :: l, by simp at e ⊢; exact e, ?_⟩
    intro m hm
    rcases List.mem_cons.1 hm with rfl | hm
    · exact wfI_of hn
    · exact hl m hm
theorem rec_of {xs : List V} (h : FitL lfR xs) : ∃ r : Record, V.agg xs = encR r ∧ WfR r := by
  simp only [FitL] at h
  obtain ⟨x1, _, rfl, h1, x2, _, rfl, h2, x3, _, rfl, h3, x4, _, rfl, h4, x5, _, rfl, h5, x6, _, rfl, h6, x7, _, rfl, h7, x8, _, rfl, h8, x9, _, rfl, h9, x10, _, rfl, h10, x11, _, rfl, h11, x12, _, rfl, h12, x13, _, rfl, h13, x14, _, rfl, h14, x15, _, rfl, h15, x16, _, rfl, h16, x17, _, rfl, h17, x18, _, rfl, h18, rfl⟩ := h
  obtain ⟨n1, rfl, w1⟩ := fit_int h1
  obtain ⟨n2, rfl, w2⟩ := fit_int h2
  obtain ⟨n3, rfl, w3⟩ := fit_int h3
  obtain ⟨n4, rfl, w4⟩ := fit_int h4
  obtain ⟨n5, rfl, w5⟩ := fit_int h5
  obtain ⟨n6, rfl, w6⟩ := fit_int h6
  obtain ⟨n7, rfl, w7⟩ := fit_int h7
  obtain ⟨n8, rfl, w8⟩ := fit_int h8
  obtain ⟨n9, rfl, w9⟩ := fit_int h9
  obtain ⟨b, rfl⟩ := fit_bool h10
  obtain ⟨s1, rfl⟩ := fit_str h11
  obtain ⟨s2, rfl⟩ := fit_str h12
  obtain ⟨s3, rfl⟩ := fit_str h13
  obtain ⟨s4, rfl⟩ := fit_str h14
  obtain ⟨l1, rfl, v1⟩ := fit_ints h15
  obtain ⟨l2, rfl, v2⟩ := fit_ints h16
  obtain ⟨l3, rfl, v3⟩ := fit_ints h17
  obtain ⟨l4, rfl, v4⟩ := fit_ints h18
  exact ⟨⟨n1, n2, n3, n4, n5, n6, n7, n8, n9, b, s1, s2, s3, s4, l1, l2, l3, l4⟩, rfl, ⟨w1, w2, w3, w4, w5, w6, w7, w8, w9, v1, v2, v3, v4⟩⟩
theorem recs_of {x : V} (h : Fit (.sl true lfR) x) : ∃ l : List Record, x = .sl (l.map encR) ∧ ∀ r ∈ l, WfR r := by
  simp only [Fit] at h
  obtain ⟨rows, rfl, h⟩ := h
  induction rows with
  | nil => exact ⟨[], rfl, by simp⟩
  | cons y ys ih =>
    obtain ⟨l, e, hl⟩ := ih fun z hz => h z (by simp [hz])
    obtain ⟨cs, rfl, hcs⟩ := h y (by simp)
    obtain ⟨r, e1, hr⟩ := rec_of hcs
    refine ⟨r :: l, by simp only [V.sl.injEq] at e; rw [List.map_cons, ← e1, ← e], ?_⟩
    intro m hm
    rcases List.mem_cons.1 hm with rfl | hm
    · exact hr
    · exact hl m hm
end
end Go.Am
