/- PlaceRacks: the replicas of each partition stand in as many racks as there can be. The law of the placing chapter answers true at each list of bytes and all numbers, whatever they are. -/
import Derived.Test.YteijffflinnccaaQP14
import Derived.Test.YteijffflinnccaaQRecU
import Derived.Test.YteijffflinnccaaRows
import Derived.WalkKit
import Derived.ProofKit
import Derived.OpenShut
import Derived.ChangeOld
import Derived.SizedLaws
set_option linter.all false
namespace Go.Proofs.Yteijffflinnccaa
namespace PlaceRacksRow
open Go.ChangeShapes Go.WideShapes Go.ChangeAt Go.RowKit Go.Am
theorem own : ownKnob Try.prog.godebug = none := by kernel_rfl
theorem laidOut : laidOutB Try.prog = true := by kernel_rfl
theorem hd61 : desc Try.prog 40 61 = some (false, [lU]) := by kernel_rfl
theorem walk (l0 : List Int) (l1 : Int) (l2 : Int) (l3 : Int) (h1 : 0 ≤ l1 ∧ l1 ≤ 255) (h2 : 0 ≤ l2 ∧ l2 ≤ 255) (h3 : 0 ≤ l3 ∧ l3 ≤ 65535) : ACall Try.prog 7 [.sl (l0.map fun n => .c (.int .u8 n)), .c (.int .u8 l1), .c (.int .u8 l2), .c (.int .u16 l3)] (B true) := racks_walk l0 l1 l2 l3 h1 h2 h3
set_option maxRecDepth 100000 in
theorem lifted (os : Os) (started : os.Started) (H : Type) (enc : TypeId × Value → H) :
    ReturnsInHanded {} Try.checked os 7 .any (Rows.placeRacksSpec.pre6 enc Try.prog Try.f7 Rows.placeRacksRow.domain false) (Rows.placeRacksSpec.post enc Try.prog Try.f7 false true false false) := by
  refine returnsInHanded_of_change (C := Try.checked) own started (by kernel_rfl) Try.func7
    (ChangeSpec.witness6 (enc := enc) (C := Try.checked) false ⟨#[], #[.slice none 0 0, .int .u8 0, .int .u8 0, .int .u16 0], []⟩ 8 (by kernel_rfl) (by kernel_rfl) (by kernel_rfl) (by kernel_rfl)) ?_
  intro W base args ds gs before hval0 hW hcnd _
  have hval : ∀ (j : Nat) t v, Try.f7.params[j]? = some t → args[j]? = some v → Value.okWide Try.prog W .any base t v := hval0
  have hW' := hW
  obtain ⟨p, q, hA0, hV, rfl, hfz, hnd⟩ := hW
  have hA : DataW.TrodAll enc Try.prog W 0 (fun _ => true) true Try.f7.params.toList args.toList ds p := hA0
  rw [Try.params7] at hA hval
  obtain ⟨v0, vs0, d0, ds0, p0, q0, hargs, rfl, rfl, h0, r0⟩ := trodAll_cons hA
  obtain ⟨v1, vs1, d1, ds1, p1, q1, rfl, rfl, rfl, h1, r1⟩ := trodAll_cons r0
  obtain ⟨v2, vs2, d2, ds2, p2, q2, rfl, rfl, rfl, h2, r2⟩ := trodAll_cons r1
  obtain ⟨v3, vs3, d3, ds3, p3, q3, rfl, rfl, rfl, h3, r3⟩ := trodAll_cons r2
  obtain ⟨rfl, rfl, rfl⟩ := trodAll_nil r3
  obtain rfl : args = #[v0, v1, v2, v3] := by cases args; simp_all
  obtain ⟨rfl, rfl⟩ := trodVars_none hV
  obtain ⟨a0, len0, cap0, rfl⟩ := okWide_slice Try.underlying61 (hval 0 61 v0 rfl rfl)
  have lt0 : ∀ x ∈ p0, x.block < W.heap.size := by obtain ⟨m, hm⟩ := h0; exact DataW.trod_lt m _ _ _ hm
  obtain ⟨l1, rfl, rfl, rfl, w1⟩ := open_int Try.underlying5 (hval 1 5 v1 rfl rfl) h1
  obtain ⟨l2, rfl, rfl, rfl, w2⟩ := open_int Try.underlying5 (hval 2 5 v2 rfl rfl) h2
  obtain ⟨l3, rfl, rfl, rfl, w3⟩ := open_int Try.underlying62 (hval 3 62 v3 rfl rfl) h3
  obtain ⟨x0, f0, R0⟩ := open_arg h0 rfl hd61
  obtain ⟨l0, rfl⟩ := fit_bytes f0
  refine ((walk l0 l1 l2 l3 (u8_of w1) (u8_of w2) (u16_of w3)).2 (Old W) W [.slice a0 len0 cap0, .int .u8 l1, .int .u8 l2, .int .u16 l3] (R.cons (f1 := []) (f2 := []) R0 (.c (.c (.c .nil)))) (fun b o h => h) (Glo.none _ _ rfl)).mono ?_
  rintro e W' ⟨v, S', fp, rfl, hR, _, _, _, _, _, _, hF⟩
  have hv : v = .bool true := by
    cases hR; rfl
  subst hv
  have bel := hF.below
  exact ⟨_, rfl, _, _, _, [], _, [], hW', trodAll_mk1 (shut_bool Try.underlying4 _), (trodAll_cons_mk (Below.trod laidOut (by kernel_rfl) (of_decide_eq_true (by kernel_rfl)) h0 bel lt0) (trodAll_cons_mk (shut_int Try.underlying5 w1) (trodAll_cons_mk (shut_int Try.underlying5 w2) (trodAll_cons_mk (shut_int Try.underlying62 w3) trodAll_mk0)))), rfl, bel.frame _, fun h => by cases h⟩
theorem over : Rows.placeRacksRow.holds Try.pinned (OpenSpec.ofChange Rows.placeRacksSpec) :=
  OpenClaim.holds_of_wide 7 Try.f7 rfl rfl rfl rfl rfl rfl rfl ⟨rfl, rfl, rfl, rfl, rfl⟩ rfl rfl rfl rfl rfl (by kernel_rfl) Try.func7 (by kernel_rfl)
    (of_decide_eq_true (by kernel_rfl)) (by unfold Func.isWrapper; first | (rw [if_pos (by decide +kernel)]; kernel_rfl) | (rw [if_neg (by decide +kernel)]; exact ⟨rfl, rfl⟩))
    (fun os started H enc _ => lifted os started H enc)
theorem proved : Rows.PlaceRacksSaid := over
end PlaceRacksRow
theorem placeRacks_holds : Rows.PlaceRacksSaid := PlaceRacksRow.proved
#print axioms placeRacks_holds
end Go.Proofs.Yteijffflinnccaa
