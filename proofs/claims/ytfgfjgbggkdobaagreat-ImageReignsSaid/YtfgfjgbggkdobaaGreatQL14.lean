/- Proved: whichever records come, no partition's epoch ever falls, each change of who leads raises it, and in each epoch there is one leader at most, also where topics are dropped and made anew. No condition. -/
import Derived.Test.YtfgfjgbggkdobaaGreatQJ28
import Derived.Test.YtfgfjgbggkdobaaGreatQRec
import Derived.Test.YtfgfjgbggkdobaaGreatRows
import Derived.WalkKit
import Derived.ProofKit
import Derived.OpenShut
import Derived.ChangeOld
import Derived.SizedLaws
set_option linter.all false
namespace Go.Proofs.YtfgfjgbggkdobaaGreat
namespace ImageReignsRow
open Go.ChangeShapes Go.WideShapes Go.ChangeAt Go.RowKit Go.Am
theorem own : ownKnob Tryz.prog.godebug = none := by kernel_rfl
theorem laidOut : laidOutB Tryz.prog = true := by kernel_rfl
theorem hd22 : desc Tryz.prog 40 22 = some (false, [.sl true lfR]) := by kernel_rfl
theorem walk (l0 : List Record) : ACall Tryz.prog 4 [.sl (l0.map encR)] (B true) := imageReigns_ok l0
set_option maxRecDepth 100000 in
theorem lifted (os : Os) (started : os.Started) (H : Type) (enc : TypeId × Value → H) :
    ReturnsInHanded {} Tryz.checked os 4 .any (Rows.imageReignsSpec.pre6 enc Tryz.prog Tryz.f4 Rows.imageReignsRow.domain false) (Rows.imageReignsSpec.post enc Tryz.prog Tryz.f4 false true false false) := by
  refine returnsInHanded_of_change (C := Tryz.checked) own started (by kernel_rfl) Tryz.func4
    (ChangeSpec.witness6 (enc := enc) (C := Tryz.checked) false ⟨#[], #[.slice none 0 0], []⟩ 8 (by kernel_rfl) (by kernel_rfl) (by kernel_rfl) (by kernel_rfl)) ?_
  intro W base args ds gs before hval0 hW hcnd _
  have hval : ∀ (j : Nat) t v, Tryz.f4.params[j]? = some t → args[j]? = some v → Value.okWide Tryz.prog W .any base t v := hval0
  have hW' := hW
  obtain ⟨p, q, hA0, hV, rfl, hfz, hnd⟩ := hW
  have hA : DataW.TrodAll enc Tryz.prog W 0 (fun _ => true) true Tryz.f4.params.toList args.toList ds p := hA0
  rw [Tryz.params4] at hA hval
  obtain ⟨v0, vs0, d0, ds0, p0, q0, hargs, rfl, rfl, h0, r0⟩ := trodAll_cons hA
  obtain ⟨rfl, rfl, rfl⟩ := trodAll_nil r0
  obtain rfl : args = #[v0] := by cases args; simp_all
  obtain ⟨rfl, rfl⟩ := trodVars_none hV
  obtain ⟨a0, len0, cap0, rfl⟩ := okWide_slice Tryz.underlying22 (hval 0 22 v0 rfl rfl)
  have lt0 : ∀ x ∈ p0, x.block < W.heap.size := by obtain ⟨m, hm⟩ := h0; exact DataW.trod_lt m _ _ _ hm
  obtain ⟨x0, f0, R0⟩ := open_arg h0 rfl hd22
  obtain ⟨l0, rfl, hl0⟩ := recs_of f0
  refine ((walk l0).2 (Old W) W [.slice a0 len0 cap0] (R.cons (f1 := []) (f2 := []) R0 .nil) (fun b o h => h) (Glo.none _ _ rfl)).mono ?_
  rintro e W' ⟨v, S', fp, rfl, hR, _, _, _, _, _, _, hF⟩
  have hv : v = .bool true := by
    cases hR; rfl
  subst hv
  have bel := hF.below
  exact ⟨_, rfl, _, _, _, [], _, [], hW', trodAll_mk1 (shut_bool Tryz.underlying4 _), (trodAll_cons_mk (Below.trod laidOut (by kernel_rfl) (of_decide_eq_true (by kernel_rfl)) h0 bel lt0) trodAll_mk0), rfl, bel.frame _, fun h => by cases h⟩
theorem over : Rows.imageReignsRow.holds Tryz.pinned (OpenSpec.ofChange Rows.imageReignsSpec) :=
  OpenClaim.holds_of_wide 4 Tryz.f4 rfl rfl rfl rfl rfl rfl rfl ⟨rfl, rfl, rfl, rfl, rfl⟩ rfl rfl rfl rfl rfl (by kernel_rfl) Tryz.func4 (by kernel_rfl)
    (of_decide_eq_true (by kernel_rfl)) (by unfold Func.isWrapper; first | (rw [if_pos (by decide +kernel)]; kernel_rfl) | (rw [if_neg (by decide +kernel)]; exact ⟨rfl, rfl⟩))
    (fun os started H enc _ => lifted os started H enc)
theorem proved : Rows.ImageReignsSaid := over
end ImageReignsRow
theorem imageReigns_holds : Rows.ImageReignsSaid := ImageReignsRow.proved
#print axioms imageReigns_holds
end Go.Proofs.YtfgfjgbggkdobaaGreat
