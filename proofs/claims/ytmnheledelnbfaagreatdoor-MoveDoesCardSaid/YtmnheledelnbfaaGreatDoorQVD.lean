/- Part of the proof of a law of moving. -/
import Derived.Test.YtmnheledelnbfaaGreatDoorQAF
import Derived.Test.YtmnheledelnbfaaGreatDoorQPV
import Derived.Test.YtmnheledelnbfaaGreatDoorQV10
import Derived.Test.YtmnheledelnbfaaGreatDoorQVB
import Derived.Test.YtmnheledelnbfaaGreatDoorQVC
set_option linter.all false
section
set_option maxRecDepth 100000
set_option maxHeartbeats 0
namespace Go.Am
open Go
noncomputable section
def c4 : SC := (.seq (.reg [oZ 2 false] [0]) (.seq (.reg [oM 3 0,oN 4 3 22,oK 5 .leq 3 4 80 3,oG 2 5] [2,5]) .ret))
theorem s4 : TextK Proofs.Tryz.prog 0 4 6 [ResultVar.tmp 2] c4 := .mk' Proofs.Tryz.f4 _ (by kernel_rfl) rfl rfl rfl (by kernel_rfl) rfl (by kernel_rfl)
theorem mlight_ok (l : List Record) : ACall pg 4 [.sl (l.map encR)] (B (decide (l.length ≤ 80))) := by
  refine s4.call mo (by simp) fun hxs => ?_
  clear hxs
  unfold c4; dsimp only [oG, oK, oM, oN, oZ]
  repeat' first | (with_reducible first | refine awRet ?_) | ((with_reducible refine awReg fun K hok hK => ?_); clear hok; (try simp (maxSteps := 10000000) (disch := first | omega | simp) []); (repeat' first | (with_reducible refine hK _ (by simp) ?_)) <;> clear hK K) | ((with_reducible refine awCond fun A B hA hB => ?_); simp (maxSteps := 10000000) (disch := first | omega | simp) []; (first | refine ⟨fun h => hA ?_, fun h => hB ?_⟩ | refine hA ?_ | refine hB ?_) <;> (clear hA hB A B; (try (exfalso; omega))))
  (refine aEnR (aRes [] fun K hK => ?_); simp (maxSteps := 10000000) (disch := first | omega | simp) []; refine hK _ ?_ (by simp); clear hK; first | done | (simp (maxSteps := 10000000) (disch := first | omega | simp) [*]; done) | (simp (maxSteps := 10000000) (disch := first | omega | simp) [*]; omega) | (simp_all []; done) | (simp_all []; omega))
theorem small_of {p : Part} {n : Nat} (h : p.Rows n) : p.Small := by
  have hb : ∀ l, brokersB l = true → l.length ≤ 1000000 := fun l h => by simp only [brokersB, decide_eq_true_eq] at h; omega
  exact ⟨hb _ h.ids, hb _ h.isr, hb _ h.add, hb _ h.drop⟩
theorem big_of {p : Part} {n : Nat} (h : p.Rows n) : ∀ x ∈ p.ids, big62 x := fun x hx => by
  have := h.ids; simp only [brokersB, decide_eq_true_eq] at this; have := this.2.1 x hx; unfold big62; omega
structure MadeOk (m : Image) (n : Nat) : Prop where
  inv : m.Inv n
  pre : m.Pre
  brk : m.Brk
  sml : m.Sml
theorem madeOk {m : Image} {n : Nat} (h : m.Inv n) (hn : n ≤ 90) : MadeOk m n := by
  have hpre := h.pre (by omega)
  exact ⟨h, hpre, ⟨h.bs, fun b hb => by have := h.br b hb; omega, by have := h.bl; omega⟩, ⟨hpre.tl, hpre.pl, fun t ht p hp => small_of (h.pr t ht p hp).2⟩⟩
theorem start_at {m : Image} {n : Nat} (h : MadeOk m n) (hn : n ≤ 90) {p : Part} (hw : p.Rows n) (t : List Int) (ht : t.length ≤ 1000) : ACall pg 17 [encM m, encP p, Li t] (.tup [encP (m.startP p t), errE (m.startE p t)]) :=
  start_walk m p t (by have := h.inv.bl; omega) (small_of hw) ht (by have := brokersB_get hw.ids; omega)
theorem cancel_at {m : Image} {n : Nat} (h : MadeOk m n) {p : Part} (hw : p.Rows 1000000) : ACall pg 21 [encM m, encP p] (.tup [encP (m.cancelP p), errO (m.cancelE p)]) :=
  cancel_ok m p h.brk (small_of hw) (big_of hw) (by have := hw.ep; omega)
theorem finish_at {m : Image} {n : Nat} (h : MadeOk m n) {p : Part} (hw : p.Rows 1000000) : ACall pg 19 [encM m, encP p] (.tup [encP (m.finish p).1, B (m.finish p).2]) :=
  finish_ok m p h.brk (small_of hw) (big_of hw) (by have := hw.ep; omega)
end
end Go.Am
end
section
set_option maxRecDepth 100000
set_option maxHeartbeats 0
namespace Go.Am
open Go
noncomputable section
end
end Go.Am
end
section
set_option maxRecDepth 100000
set_option maxHeartbeats 0
namespace Go.Am
open Go
noncomputable section
theorem at_get {m : Image} {q : Req} (h : m.atE q = none) : ∃ t k p, m.at q = some (t, k, p) ∧ t ∈ m.topics ∧ t.parts[k]? = some p ∧ q.part = (k : Nat) := by
  unfold Image.atE at h
  split at h
  · cases h
  · rename_i h1
    split at h
    · cases h
    · rename_i h2
      obtain ⟨⟨t, k, p⟩, hx⟩ := Option.isSome_iff_exists.1 (show (m.at q).isSome = true by cases hy : (m.at q).isSome with | true => rfl | false => exact absurd hy h2)
      refine ⟨t, k, p, hx, ?_⟩
      unfold Image.at at hx
      split at hx
      · cases hx
      · rename_i u hu
        split at hx
        · rename_i h3
          cases hx
          have hkl : q.part.toNat < t.parts.length := by omega
          refine ⟨List.mem_of_find?_eq_some hu, ?_, by omega⟩
          rw [List.getD_eq_getElem?_getD, List.getElem?_eq_getElem hkl]; rfl
        · cases hx
end
end Go.Am
end
