/- Proved: all that a request about a move comes to, and all that ends moves, are legal steps. No condition. -/
import Derived.Test.YtmnheledelnbfaaGreatQRec
import Derived.Test.YtmnheledelnbfaaGreatQRecQ
import Derived.Test.YtmnheledelnbfaaGreatQV13
import Derived.Test.YtmnheledelnbfaaGreatRows
import Derived.WalkKit
import Derived.ProofKit
import Derived.OpenShut
import Derived.ChangeOld
import Derived.SizedLaws
set_option linter.all false
namespace Go.Proofs.YtmnheledelnbfaaGreat
namespace MoveLegalRow
open Go.ChangeShapes Go.WideShapes Go.ChangeAt Go.RowKit Go.Am
theorem own : ownKnob Tryz.prog.godebug = none := by kernel_rfl
theorem laidOut : laidOutB Tryz.prog = true := by kernel_rfl
theorem hd22 : desc Tryz.prog 40 22 = some (false, [.sl true lfR]) := by kernel_rfl
theorem hd27 : desc Tryz.prog 40 27 = some (true, lfQ) := by kernel_rfl
theorem walk (l0 : List Record) (l1 : Req) : ACall Tryz.prog 3 [.sl (l0.map encR), encQ l1] (B true) := legal_walk l0 l1
set_option maxRecDepth 100000 in
theorem lifted (os : Os) (started : os.Started) (H : Type) (enc : TypeId × Value → H) :
    ReturnsInHanded {} Tryz.checked os 3 .any (Rows.moveLegalSpec.pre6 enc Tryz.prog Tryz.f3 Rows.moveLegalRow.domain false) (Rows.moveLegalSpec.post enc Tryz.prog Tryz.f3 false true false false) := by
  refine returnsInHanded_of_change (C := Tryz.checked) own started (by kernel_rfl) Tryz.func3
    (ChangeSpec.witness6 (enc := enc) (C := Tryz.checked) false ⟨#[], #[.slice none 0 0, .agg #[.int .i64 0, .int .i64 0, .int .i64 0, .string ⟨#[]⟩, .string ⟨#[]⟩, .string ⟨#[]⟩, .bool false, .int .i64 0, .int .i64 0, .int .i64 0, .slice none 0 0, .int .i64 0, .int .i64 0, .string ⟨#[]⟩, .int .i64 0, .int .i64 0, .int .i64 0, .bool false, .bool false]], []⟩ 8 (by kernel_rfl) (by kernel_rfl) (by kernel_rfl) (by kernel_rfl)) ?_
  intro W base args ds gs before hval0 hW hcnd _
  have hval : ∀ (j : Nat) t v, Tryz.f3.params[j]? = some t → args[j]? = some v → Value.okWide Tryz.prog W .any base t v := hval0
  have hW' := hW
  obtain ⟨p, q, hA0, hV, rfl, hfz, hnd⟩ := hW
  have hA : DataW.TrodAll enc Tryz.prog W 0 (fun _ => true) true Tryz.f3.params.toList args.toList ds p := hA0
  rw [Tryz.params3] at hA hval
  obtain ⟨v0, vs0, d0, ds0, p0, q0, hargs, rfl, rfl, h0, r0⟩ := trodAll_cons hA
  obtain ⟨v1, vs1, d1, ds1, p1, q1, rfl, rfl, rfl, h1, r1⟩ := trodAll_cons r0
  obtain ⟨rfl, rfl, rfl⟩ := trodAll_nil r1
  obtain rfl : args = #[v0, v1] := by cases args; simp_all
  obtain ⟨rfl, rfl⟩ := trodVars_none hV
  obtain ⟨a0, len0, cap0, rfl⟩ := okWide_slice Tryz.underlying22 (hval 0 22 v0 rfl rfl)
  have lt0 : ∀ x ∈ p0, x.block < W.heap.size := by obtain ⟨m, hm⟩ := h0; exact DataW.trod_lt m _ _ _ hm
  obtain ⟨cs1, rfl, _⟩ := okWide_struct Tryz.underlying27 (hval 1 27 v1 rfl rfl)
  have lt1 : ∀ x ∈ p1, x.block < W.heap.size := by obtain ⟨m, hm⟩ := h1; exact DataW.trod_lt m _ _ _ hm
  obtain ⟨x0, f0, R0⟩ := open_arg h0 rfl hd22
  obtain ⟨l0, rfl, hl0⟩ := recs_of f0
  obtain ⟨x1, f1, R1⟩ := open_argS h1 hd27
  obtain ⟨l1, e1⟩ := req_of f1
  rw [e1] at R1
  refine ((walk l0 l1).2 (Old W) W [.slice a0 len0 cap0, .agg cs1] (R.cons (f1 := []) (f2 := []) R0 (R.cons (f1 := []) (f2 := []) R1 .nil)) (fun b o h => h) (Glo.none _ _ rfl)).mono ?_
  rintro e W' ⟨v, S', fp, rfl, hR, _, _, _, _, _, _, hF⟩
  have hv : v = .bool true := by
    cases hR; rfl
  subst hv
  have bel := hF.below
  exact ⟨_, rfl, _, _, _, [], _, [], hW', trodAll_mk1 (shut_bool Tryz.underlying4 _), (trodAll_cons_mk (Below.trod laidOut (by kernel_rfl) (of_decide_eq_true (by kernel_rfl)) h0 bel lt0) (trodAll_cons_mk (Below.trod laidOut (by kernel_rfl) (of_decide_eq_true (by kernel_rfl)) h1 bel lt1) trodAll_mk0)), rfl, bel.frame _, fun h => by cases h⟩
theorem over : Rows.moveLegalRow.holds Tryz.pinned (OpenSpec.ofChange Rows.moveLegalSpec) :=
  OpenClaim.holds_of_wide 3 Tryz.f3 rfl rfl rfl rfl rfl rfl rfl ⟨rfl, rfl, rfl, rfl, rfl⟩ rfl rfl rfl rfl rfl (by kernel_rfl) Tryz.func3 (by kernel_rfl)
    (of_decide_eq_true (by kernel_rfl)) (by unfold Func.isWrapper; first | (rw [if_pos (by decide +kernel)]; kernel_rfl) | (rw [if_neg (by decide +kernel)]; exact ⟨rfl, rfl⟩))
    (fun os started H enc _ => lifted os started H enc)
theorem proved : Rows.MoveLegalSaid := over
end MoveLegalRow
theorem moveLegal_holds : Rows.MoveLegalSaid := MoveLegalRow.proved
#print axioms moveLegal_holds
end Go.Proofs.YtmnheledelnbfaaGreat
