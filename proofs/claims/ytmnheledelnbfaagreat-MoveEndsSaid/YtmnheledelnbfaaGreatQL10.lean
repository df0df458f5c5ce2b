/- Proved: whatever partition is told to have others, once all that come are in sync, and are alive, it has just these, in this order, nothing comes or goes, and, if somebody led, one of them leads; no epoch falls. No condition. -/
import Derived.Test.YtmnheledelnbfaaGreatQRec
import Derived.Test.YtmnheledelnbfaaGreatQV12
import Derived.Test.YtmnheledelnbfaaGreatRows
import Derived.WalkKit
import Derived.ProofKit
import Derived.OpenShut
import Derived.ChangeOld
import Derived.SizedLaws
set_option linter.all false
namespace Go.Proofs.YtmnheledelnbfaaGreat
namespace MoveEndsRow
open Go.ChangeShapes Go.WideShapes Go.ChangeAt Go.RowKit Go.Am
theorem own : ownKnob Tryz.prog.godebug = none := by kernel_rfl
theorem laidOut : laidOutB Tryz.prog = true := by kernel_rfl
theorem hd22 : desc Tryz.prog 40 22 = some (false, [.sl true lfR]) := by kernel_rfl
theorem hd23 : desc Tryz.prog 40 23 = some (false, [lL]) := by kernel_rfl
theorem walk (l0 : List Record) (l1 : Int) (l2 : List Int) : ACall Tryz.prog 4 [.sl (l0.map encR), I l1, Li l2] (B true) := ends_walk l0 l1 l2
set_option maxRecDepth 100000 in
theorem lifted (os : Os) (started : os.Started) (H : Type) (enc : TypeId × Value → H) :
    ReturnsInHanded {} Tryz.checked os 4 .any (Rows.moveEndsSpec.pre6 enc Tryz.prog Tryz.f4 Rows.moveEndsRow.domain false) (Rows.moveEndsSpec.post enc Tryz.prog Tryz.f4 false true false false) := by
  refine returnsInHanded_of_change (C := Tryz.checked) own started (by kernel_rfl) Tryz.func4
    (ChangeSpec.witness6 (enc := enc) (C := Tryz.checked) false ⟨#[], #[.slice none 0 0, .int .i64 0, .slice none 0 0], []⟩ 8 (by kernel_rfl) (by kernel_rfl) (by kernel_rfl) (by kernel_rfl)) ?_
  intro W base args ds gs before hval0 hW hcnd _
  have hval : ∀ (j : Nat) t v, Tryz.f4.params[j]? = some t → args[j]? = some v → Value.okWide Tryz.prog W .any base t v := hval0
  have hW' := hW
  obtain ⟨p, q, hA0, hV, rfl, hfz, hnd⟩ := hW
  have hA : DataW.TrodAll enc Tryz.prog W 0 (fun _ => true) true Tryz.f4.params.toList args.toList ds p := hA0
  rw [Tryz.params4] at hA hval
  obtain ⟨v0, vs0, d0, ds0, p0, q0, hargs, rfl, rfl, h0, r0⟩ := trodAll_cons hA
  obtain ⟨v1, vs1, d1, ds1, p1, q1, rfl, rfl, rfl, h1, r1⟩ := trodAll_cons r0
  obtain ⟨v2, vs2, d2, ds2, p2, q2, rfl, rfl, rfl, h2, r2⟩ := trodAll_cons r1
  obtain ⟨rfl, rfl, rfl⟩ := trodAll_nil r2
  obtain rfl : args = #[v0, v1, v2] := by cases args; simp_all
  obtain ⟨rfl, rfl⟩ := trodVars_none hV
  obtain ⟨a0, len0, cap0, rfl⟩ := okWide_slice Tryz.underlying22 (hval 0 22 v0 rfl rfl)
  have lt0 : ∀ x ∈ p0, x.block < W.heap.size := by obtain ⟨m, hm⟩ := h0; exact DataW.trod_lt m _ _ _ hm
  obtain ⟨l1, rfl, rfl, rfl, w1⟩ := open_int Tryz.underlying3 (hval 1 3 v1 rfl rfl) h1
  obtain ⟨a2, len2, cap2, rfl⟩ := okWide_slice Tryz.underlying23 (hval 2 23 v2 rfl rfl)
  have lt2 : ∀ x ∈ p2, x.block < W.heap.size := by obtain ⟨m, hm⟩ := h2; exact DataW.trod_lt m _ _ _ hm
  obtain ⟨x0, f0, R0⟩ := open_arg h0 rfl hd22
  obtain ⟨l0, rfl, hl0⟩ := recs_of f0
  obtain ⟨x2, f2, R2⟩ := open_arg h2 rfl hd23
  obtain ⟨l2, rfl, hl2⟩ := fit_ints f2
  refine ((walk l0 l1 l2).2 (Old W) W [.slice a0 len0 cap0, .int .i64 l1, .slice a2 len2 cap2] (R.cons (f1 := []) (f2 := []) R0 (.c (R.cons (f1 := []) (f2 := []) R2 .nil))) (fun b o h => h) (Glo.none _ _ rfl)).mono ?_
  rintro e W' ⟨v, S', fp, rfl, hR, _, _, _, _, _, _, hF⟩
  have hv : v = .bool true := by
    cases hR; rfl
  subst hv
  have bel := hF.below
  exact ⟨_, rfl, _, _, _, [], _, [], hW', trodAll_mk1 (shut_bool Tryz.underlying4 _), (trodAll_cons_mk (Below.trod laidOut (by kernel_rfl) (of_decide_eq_true (by kernel_rfl)) h0 bel lt0) (trodAll_cons_mk (shut_int Tryz.underlying3 w1) (trodAll_cons_mk (Below.trod laidOut (by kernel_rfl) (of_decide_eq_true (by kernel_rfl)) h2 bel lt2) trodAll_mk0))), rfl, bel.frame _, fun h => by cases h⟩
theorem over : Rows.moveEndsRow.holds Tryz.pinned (OpenSpec.ofChange Rows.moveEndsSpec) :=
  OpenClaim.holds_of_wide 4 Tryz.f4 rfl rfl rfl rfl rfl rfl rfl ⟨rfl, rfl, rfl, rfl, rfl⟩ rfl rfl rfl rfl rfl (by kernel_rfl) Tryz.func4 (by kernel_rfl)
    (of_decide_eq_true (by kernel_rfl)) (by unfold Func.isWrapper; first | (rw [if_pos (by decide +kernel)]; kernel_rfl) | (rw [if_neg (by decide +kernel)]; exact ⟨rfl, rfl⟩))
    (fun os started H enc _ => lifted os started H enc)
theorem proved : Rows.MoveEndsSaid := over
end MoveEndsRow
theorem moveEnds_holds : Rows.MoveEndsSaid := MoveEndsRow.proved
#print axioms moveEnds_holds
end Go.Proofs.YtmnheledelnbfaaGreat
