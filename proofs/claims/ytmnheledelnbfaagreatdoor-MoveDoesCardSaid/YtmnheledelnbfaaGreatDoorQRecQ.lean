/- Part of the proof of a law of moving. -/
import Derived.Test.YtmnheledelnbfaaGreatDoorQRec
import Derived.Test.YtmnheledelnbfaaGreatDoorQV6
set_option linter.all false
namespace Go.Am
open Go
noncomputable section
abbrev lfQ : List Lf := [lI, lI, lI, .str, .str, .str, .bool, lI, lI, lI, lL, lI, lI, .str, lI, lI, lI, .bool, .bool]
theorem req_of {xs : List V} (h : FitL lfQ xs) : ∃ q : Req, V.agg xs = encQ q := by
  simp only [FitL] at h
  obtain ⟨x1, _, rfl, h1, x2, _, rfl, h2, x3, _, rfl, h3, x4, _, rfl, h4, x5, _, rfl, h5, x6, _, rfl, h6, x7, _, rfl, h7, x8, _, rfl, h8, x9, _, rfl, h9, x10, _, rfl, h10, x11, _, rfl, h11, x12, _, rfl, h12, x13, _, rfl, h13, x14, _, rfl, h14, x15, _, rfl, h15, x16, _, rfl, h16, x17, _, rfl, h17, x18, _, rfl, h18, x19, _, rfl, h19, rfl⟩ := h
  obtain ⟨n1, rfl, w1⟩ := fit_int h1
  obtain ⟨n2, rfl, w2⟩ := fit_int h2
  obtain ⟨n3, rfl, w3⟩ := fit_int h3
  obtain ⟨s4, rfl⟩ := fit_str h4
  obtain ⟨s5, rfl⟩ := fit_str h5
  obtain ⟨s6, rfl⟩ := fit_str h6
  obtain ⟨b7, rfl⟩ := fit_bool h7
  obtain ⟨n8, rfl, w8⟩ := fit_int h8
  obtain ⟨n9, rfl, w9⟩ := fit_int h9
  obtain ⟨n10, rfl, w10⟩ := fit_int h10
  obtain ⟨l11, rfl, w11⟩ := fit_ints h11
  obtain ⟨n12, rfl, w12⟩ := fit_int h12
  obtain ⟨n13, rfl, w13⟩ := fit_int h13
  obtain ⟨s14, rfl⟩ := fit_str h14
  obtain ⟨n15, rfl, w15⟩ := fit_int h15
  obtain ⟨n16, rfl, w16⟩ := fit_int h16
  obtain ⟨n17, rfl, w17⟩ := fit_int h17
  obtain ⟨b18, rfl⟩ := fit_bool h18
  obtain ⟨b19, rfl⟩ := fit_bool h19
  exact ⟨⟨n1, n2, n3, s4, s5, s6, b7, n8, n9, n10, l11, n12, n13, s14, n15, n16, n17, b18, b19⟩, rfl⟩
end
end Go.Am
