/- Part of the proof of a law of moving. -/
import Derived.Test.YtmnheledelnbfaaGreatDoorQV4
import Derived.Test.YtmnheledelnbfaaGreatDoorQV5
import Derived.Test.YtmnheledelnbfaaGreatDoorQVB
set_option linter.all false
section
set_option maxRecDepth 100000
set_option maxHeartbeats 0
namespace Go.Am
open Go
noncomputable section
def c17 : SC := (.seq (.reg [oO 3 36 0,oO 4 53 1,oA 6 53,oD 7 (.assign (.const .nilIface))] [2,3,4,6,9,31,33,37,45,54,85]) (.seq (.reg [oU (oL 11 36 3) [12,13,14,15],oU (oM 12 2) [11,13,14],oU (oF 13 53 4 0) [11,12],oU (oL 14 23 13) [11,12],oU (oC 15 43 #[.tmp 12,.tmp 14] #[23,23]) [11],oC 16 42 #[.tmp 11,.tmp 15] #[36,23],oG 8 16] [2,4,6,8,9,16,31,33,37,45,54,85]) (.seq (.reg [oM 17 8,oD 18 (.binOp .neq 39 (.tmp 17) (.const .nilIface) 39),oM 19 18,oW 19 true (oM 20 2),oW 19 true (oF 21 53 4 0),oW 19 true (oL 22 23 21),oW 19 true (oC 23 43 #[.tmp 20,.tmp 22] #[23,23]),oW 19 true (oN 24 23 23),oW 19 true (oK 25 .gtr 3 24 0 3),oQ 26 19 25 false] [2,4,6,8,9,16,18,19,25,26,31,33,37,45,54,85]) (.seq (.cond (.tmp 26) (.seq (.reg [oU (oL 27 53 4) [28,29,30,31],oU (oM 28 2) [27,30],oU (oN 29 28 23) [27,30],oU (oM 30 8) [27,28,29],oU (oD 31 (.call { callee := .value (.func 44),args := #[.const (.string ⟨#[116,97,114,103,101,116]⟩),.tmp 29,.tmp 30],argTypes := #[9,3,39] })) [27],oS 53 6 27,oG 7 31] [6,7,9,31,33,37,45,54,85]) .ret) .skip) (.seq (.reg [oM 32 2,oC 33 45 #[.tmp 32] #[23],oG 9 33] [2,4,6,9,31,33,37,45,54,85]) (.seq (.reg [oM 34 9,oD 35 (.binOp .neq 39 (.tmp 34) (.const .nilIface) 39)] [2,4,6,9,31,33,35,37,45,54,85]) (.seq (.cond (.tmp 35) (.seq (.reg [oL 36 53 4,oM 37 9,oS 53 6 36,oG 7 37] [6,7,9,31,33,37,45,54,85]) .ret) .skip) (.seq (.block 0 (.seq (.reg [oL 39 53 4,oC 40 24 #[.tmp 39] #[53],oG 38 40] [2,4,6,9,31,33,37,38,40,45,54,85]) (.seq (.cond (.tmp 38) (.seq (.reg [oU (oL 41 53 4) [42,43,44,45],oU (oF 42 53 4 4) [41],oU (oL 43 23 42) [41],oU (oN 44 43 23) [41],oU (oD 45 (.call { callee := .value (.func 33),args := #[.const (.string ⟨#[109,111,118,101]⟩),.tmp 44,.const (.int .i64 10)],argTypes := #[9,3,42] })) [41],oS 53 6 41,oG 7 45] [6,7,9,31,33,37,45,54,85]) .ret) (.seq (.reg [oF 47 53 4 0,oL 48 23 47,oM 49 2,oC 50 46 #[.tmp 48,.tmp 49] #[23,23],oG 46 50] [2,4,6,9,31,33,37,45,46,50,54,85]) (.seq (.cond (.tmp 46) (.seq (.reg [oU (oL 51 53 4) [52,53,54],oU (oM 52 2) [51],oU (oN 53 52 23) [51],oU (oD 54 (.call { callee := .value (.func 33),args := #[.const (.string ⟨#[116,97,114,103,101,116]⟩),.tmp 53,.const (.int .i64 9)],argTypes := #[9,3,42] })) [51],oS 53 6 51,oG 7 54] [6,7,9,31,33,37,45,54,85]) .ret) .skip) .skip))) .skip))) (.seq (.reg [oL 55 53 4,oC 56 47 #[.tmp 55] #[53],oA 10 53,oS 53 10 56] [2,4,6,9,10,31,33,37,45,54,85]) (.seq (.reg [oU (oM 57 2) [58,59,61,62,63],oU (oF 58 53 4 0) [57,61,62,63],oU (oL 59 23 58) [57,61,62,63],oU (oC 60 43 #[.tmp 57,.tmp 59] #[23,23]) [61,62,63],oU (oF 61 53 4 0) [57,58,59,60,63,65],oU (oL 62 23 61) [57,58,59,60,63,65],oU (oM 63 2) [57,58,59,60,61,62,65],oU (oC 64 43 #[.tmp 62,.tmp 63] #[23,23]) [65],oU (oF 65 53 10 4) [61,62,63,64],oS 23 65 60,oF 66 53 10 5,oS 23 66 64] [2,4,6,9,10,31,33,37,45,54,85]) (.seq (.reg [oU (oM 67 2) [68,69,70,71,73,74],oU (oM 68 2) [67,70,71,73,74],oU (oN 69 68 23) [67,70,71,73,74],oU (oM 70 2) [67,68,69,73,74],oU (oN 71 70 23) [67,68,69,73,74],oU (oD 72 (.slice 23 (.tmp 67) none (some (.tmp 69)) (some (.tmp 71)))) [73,74],oU (oF 73 53 10 5) [67,68,69,70,71,72],oU (oL 74 23 73) [67,68,69,70,71,72],oP 75 #[.tmp 72,.tmp 74] #[23,23],oF 76 53 10 0,oS 23 76 75] [4,6,9,10,31,33,37,45,54,85]) (.seq (.reg [oF 77 53 10 0,oL 78 23 77,oN 79 78 23,oK 80 .gtr 3 79 7 3] [4,6,9,10,31,33,37,45,54,80,85]) (.seq (.cond (.tmp 80) (.seq (.reg [oU (oL 81 53 4) [82,83,84,85],oU (oF 82 53 10 0) [81],oU (oL 83 23 82) [81],oU (oN 84 83 23) [81],oU (oD 85 (.call { callee := .value (.func 33),args := #[.const (.string ⟨#[116,97,114,103,101,116]⟩),.tmp 84,.const (.int .i64 6)],argTypes := #[9,3,42] })) [81],oS 53 6 81,oG 7 85] [6,7,9,31,33,37,45,54,85]) .ret) .skip) (.seq (.reg [oL 86 53 10,oC 87 47 #[.tmp 86] #[53],oS 53 6 87,oD 7 (.assign (.const .nilIface))] [6,7,9,31,33,37,45,54,85]) .ret))))))))))))))
theorem s17 : TextK Proofs.Tryz.prog 0 17 88 [ResultVar.cell 6 53, ResultVar.tmp 7] c17 := .mk' Proofs.Tryz.f17 _ (by kernel_rfl) rfl rfl rfl (by kernel_rfl) rfl (by kernel_rfl)
@[simp] theorem pureL_ints (l : List Int) : pureL (l.map I) = true := by rw [pureL_eq, List.all_eq_true]; intro x hx; obtain ⟨n, _, rfl⟩ := List.mem_map.1 hx; rfl
theorem ck_or {m : Image} {p : Part} {t : List Int} (h1 : ¬ ((ckP m.order (minus t p.ids)).isSome = true ∧ 0 < (minus t p.ids).length)) : ckP m.order (minus t p.ids) = none ∨ ∃ b, ckP m.order (minus t p.ids) = some b ∧ ¬ 0 < (minus t p.ids).length := by
  cases hx : ckP m.order (minus t p.ids) with
  | none => exact .inl rfl
  | some b => exact .inr ⟨b, rfl, fun h => h1 ⟨by rw [hx]; rfl, h⟩⟩
theorem startP_no {m : Image} {p : Part} {t : List Int} {e : Er} (h : m.startE p t = some e) : m.startP p t = p := by unfold Image.startP; rw [h]; rfl
end
end Go.Am
end
section
set_option maxRecDepth 100000
set_option maxHeartbeats 0
namespace Go.Am
open Go
noncomputable section
theorem start_a (m : Image) (p : Part) (t : List Int) (hb : m.brokers.length ≤ 100) (hp : p.Small) (ht : t.length ≤ 1000) (hpi : p.ids.length ≤ 1000) (h1 : (ckP m.order (minus t p.ids)).isSome = true ∧ 0 < (minus t p.ids).length) : ACall pg 17 [encM m, encP p, Li t] (.tup [encP (m.startP p t), errE (m.startE p t)]) := by
  refine s17.call mo (by simp) fun hxs => ?_
  clear hxs
  have hw1 := without_ok t p.ids (by omega) (by omega)
  have hw2 := without_ok p.ids t (by omega) (by omega)
  have hl1 := minus_len t p.ids
  have hl2 := minus_len p.ids t
  have hck := check_ok m (minus t p.ids) hb (by omega)
  have hds := distinct_ok t (by omega)
  have hu := under_ok p
  have heq := equal_ok p.ids t (by omega) (by omega)
  unfold c17; dsimp only [oA, oC, oD, oF, oG, oK, oL, oM, oN, oO, oP, oQ, oS, oU, oW]
  have e : m.startE p t = (erO (ckP m.order (minus t p.ids))).map (.fault tgt t.length) := by unfold Image.startE; rw [if_pos h1]
  have e2 : m.startP p t = p := by unfold Image.startP; rw [e]; obtain ⟨x, hx⟩ := Option.isSome_iff_exists.1 h1.1; rw [hx]; rfl
  rw [e, e2]
  obtain ⟨⟨op, a, c⟩, hx⟩ := Option.isSome_iff_exists.1 h1.1
  have hwr := wrap_ok tgt t.length (some (Er.fault op a (.code c)))
  have hf : errE (some (Er.fault op a (.code c))) = errF op a c := (errO_E (some (op, a, c))).symm
  rw [hf] at hwr
  obtain ⟨ty, v, he⟩ := encE_if (.fault tgt t.length (Er.fault op a (.code c)))
  simp only [Option.map_some, errE_some, he] at hwr
  rw [hx] at hck ⊢
  simp only [erO, Option.map_some, errE_some, he]
  have h2 := h1.2
  clear h1 e e2 hf
  repeat' first | (with_reducible first | refine fR ?_ | refine fQ ?_ | refine fT ?_ | refine awRet ?_) | ((with_reducible refine awReg fun K hok hK => ?_); clear hok; (try simp (maxSteps := 10000000) (disch := first | omega | simp) [h2, isConst]); (repeat' first | (with_reducible refine hK _ (by simp) ?_) | ((first | ((with_reducible refine callS' fun K2 hK2 => ?_); (try simp (maxSteps := 10000000) (disch := first | omega | simp) [h2, isConst]); (first | refine hK2 _ _ hw1 rfl fun hk9 => ?_ | refine hK2 _ _ hck rfl fun hk9 => ?_ | refine hK2 _ _ hwr rfl fun hk9 => ?_); clear hk9; clear hK2 K2) | ((with_reducible refine callF' fun K2 hK2 => ?_); (try simp (maxSteps := 10000000) (disch := first | omega | simp) [h2, isConst]); (first | refine hK2 _ _ _ hw1 fun _ => ?_ | refine hK2 _ _ _ hck fun _ => ?_ | refine hK2 _ _ _ hwr fun _ => ?_); clear hK2 K2) | ((with_reducible refine sideS' fun K2 hK2 => ?_); (try simp (maxSteps := 10000000) (disch := first | omega | simp) [h2, isConst]); (first | refine hK2 _ _ (hw1) rfl ?_ | refine hK2 _ _ (hck) rfl ?_ | refine hK2 _ _ (hwr) rfl ?_); clear hK2 K2) | ((with_reducible refine sideF' fun K2 hK2 => ?_); (try simp (maxSteps := 10000000) (disch := first | omega | simp) [h2, isConst]); (first | refine hK2 _ _ _ hw1 (by simp) ?_ | refine hK2 _ _ _ hck (by simp) ?_ | refine hK2 _ _ _ hwr (by simp) ?_); clear hK2 K2) | ((with_reducible refine sideQ' ?_ ?_ fun K2 hK2 => ?_); exact rfl; exact rfl; (try simp (maxSteps := 10000000) (disch := first | omega | simp) [h2, isConst]); with_reducible refine hK2 _ _ ?_; clear hK2 K2)); (try simp (maxSteps := 10000000) (disch := first | omega | simp) [h2, isConst]))) <;> clear hK K) | ((with_reducible refine awCond fun A B hA hB => ?_); simp (maxSteps := 10000000) (disch := first | omega | simp) [h2, isConst]; (first | refine ⟨fun h => hA ?_, fun h => hB ?_⟩ | refine hA ?_ | refine hB ?_) <;> (clear hA hB A B; (try (exfalso; omega))))
  all_goals (refine aEnR (aRes [true] fun K hK => ?_); simp (maxSteps := 10000000) (disch := first | omega | simp) []; refine hK _ ?_ (by simp); clear hK; first | done | (simp (maxSteps := 10000000) (disch := first | omega | simp) [*]; done) | (simp (maxSteps := 10000000) (disch := first | omega | simp) [*]; omega) | (simp_all []; done) | (simp_all []; omega))
end
end Go.Am
end
section
set_option maxRecDepth 100000
set_option maxHeartbeats 0
namespace Go.Am
open Go
noncomputable section
theorem start_b (m : Image) (p : Part) (t : List Int) (hb : m.brokers.length ≤ 100) (hp : p.Small) (ht : t.length ≤ 1000) (hpi : p.ids.length ≤ 1000) (h1 : ckP m.order (minus t p.ids) = none ∨ ∃ b, ckP m.order (minus t p.ids) = some b ∧ ¬ 0 < (minus t p.ids).length) (h2 : (dsP t).isSome = true) (h1' : m.startE p t = erO (dsP t)) : ACall pg 17 [encM m, encP p, Li t] (.tup [encP (m.startP p t), errE (m.startE p t)]) := by
  refine s17.call mo (by simp) fun hxs => ?_
  clear hxs
  have hw1 := without_ok t p.ids (by omega) (by omega)
  have hw2 := without_ok p.ids t (by omega) (by omega)
  have hl1 := minus_len t p.ids
  have hl2 := minus_len p.ids t
  have hck := check_ok m (minus t p.ids) hb (by omega)
  have hds := distinct_ok t (by omega)
  have hu := under_ok p
  have heq := equal_ok p.ids t (by omega) (by omega)
  unfold c17; dsimp only [oA, oC, oD, oF, oG, oK, oL, oM, oN, oO, oP, oQ, oS, oU, oW]
  have e2 : m.startP p t = p := by unfold Image.startP; rw [h1']; obtain ⟨x, hx⟩ := Option.isSome_iff_exists.1 h2; rw [hx]; rfl
  rw [h1', e2, ← errO_E]
  obtain ⟨⟨op, a, c⟩, hx⟩ := Option.isSome_iff_exists.1 h2
  rw [hx] at hds ⊢
  rcases h1 with h1 | ⟨b, h1, h3⟩
  · rw [h1] at hck
    repeat' first | (with_reducible first | refine fS ?_ | refine fR ?_ | refine fQ ?_ | refine fT ?_ | refine awRet ?_) | ((with_reducible refine awReg fun K hok hK => ?_); clear hok; (try simp (maxSteps := 10000000) (disch := first | omega | simp) [isConst]); (repeat' first | (with_reducible refine hK _ (by simp) ?_) | ((first | ((with_reducible refine callS' fun K2 hK2 => ?_); (try simp (maxSteps := 10000000) (disch := first | omega | simp) [isConst]); (first | refine hK2 _ _ hw1 rfl fun hk9 => ?_ | refine hK2 _ _ hck rfl fun hk9 => ?_ | refine hK2 _ _ hds rfl fun hk9 => ?_); clear hk9; clear hK2 K2) | ((with_reducible refine callF' fun K2 hK2 => ?_); (try simp (maxSteps := 10000000) (disch := first | omega | simp) [isConst]); (first | refine hK2 _ _ _ hw1 fun _ => ?_ | refine hK2 _ _ _ hck fun _ => ?_ | refine hK2 _ _ _ hds fun _ => ?_); clear hK2 K2) | ((with_reducible refine sideF' fun K2 hK2 => ?_); (try simp (maxSteps := 10000000) (disch := first | omega | simp) [isConst]); (first | refine hK2 _ _ _ hw1 (by simp) ?_ | refine hK2 _ _ _ hck (by simp) ?_ | refine hK2 _ _ _ hds (by simp) ?_); clear hK2 K2) | ((with_reducible refine sideQ' ?_ ?_ fun K2 hK2 => ?_); exact rfl; exact rfl; (try simp (maxSteps := 10000000) (disch := first | omega | simp) [isConst]); with_reducible refine hK2 _ _ ?_; clear hK2 K2)); (try simp (maxSteps := 10000000) (disch := first | omega | simp) [isConst]))) <;> clear hK K) | ((with_reducible refine awCond fun A B hA hB => ?_); simp (maxSteps := 10000000) (disch := first | omega | simp) [isConst]; (first | refine ⟨fun h => hA ?_, fun h => hB ?_⟩ | refine hA ?_ | refine hB ?_) <;> (clear hA hB A B; (try (exfalso; omega))))
    all_goals (refine aEnR (aRes [true] fun K hK => ?_); simp (maxSteps := 10000000) (disch := first | omega | simp) [errF]; refine hK _ ?_ (by simp); clear hK; first | done | (simp (maxSteps := 10000000) (disch := first | omega | simp) [errF, *]; done) | (simp (maxSteps := 10000000) (disch := first | omega | simp) [errF, *]; omega) | (simp_all [errF]; done) | (simp_all [errF]; omega))
  · rw [h1] at hck
    repeat' first | (with_reducible first | refine fS ?_ | refine fR ?_ | refine fQ ?_ | refine fT ?_ | refine awRet ?_) | ((with_reducible refine awReg fun K hok hK => ?_); clear hok; (try simp (maxSteps := 10000000) (disch := first | omega | simp) [h3, isConst]); (repeat' first | (with_reducible refine hK _ (by simp) ?_) | ((first | ((with_reducible refine callS' fun K2 hK2 => ?_); (try simp (maxSteps := 10000000) (disch := first | omega | simp) [h3, isConst]); (first | refine hK2 _ _ hw1 rfl fun hk9 => ?_ | refine hK2 _ _ hck rfl fun hk9 => ?_ | refine hK2 _ _ hds rfl fun hk9 => ?_); clear hk9; clear hK2 K2) | ((with_reducible refine callF' fun K2 hK2 => ?_); (try simp (maxSteps := 10000000) (disch := first | omega | simp) [h3, isConst]); (first | refine hK2 _ _ _ hw1 fun _ => ?_ | refine hK2 _ _ _ hck fun _ => ?_ | refine hK2 _ _ _ hds fun _ => ?_); clear hK2 K2) | ((with_reducible refine sideF' fun K2 hK2 => ?_); (try simp (maxSteps := 10000000) (disch := first | omega | simp) [h3, isConst]); (first | refine hK2 _ _ _ hw1 (by simp) ?_ | refine hK2 _ _ _ hck (by simp) ?_ | refine hK2 _ _ _ hds (by simp) ?_); clear hK2 K2) | ((with_reducible refine sideQ' ?_ ?_ fun K2 hK2 => ?_); exact rfl; exact rfl; (try simp (maxSteps := 10000000) (disch := first | omega | simp) [h3, isConst]); with_reducible refine hK2 _ _ ?_; clear hK2 K2)); (try simp (maxSteps := 10000000) (disch := first | omega | simp) [h3, isConst]))) <;> clear hK K) | ((with_reducible refine awCond fun A B hA hB => ?_); simp (maxSteps := 10000000) (disch := first | omega | simp) [h3, isConst]; (first | refine ⟨fun h => hA ?_, fun h => hB ?_⟩ | refine hA ?_ | refine hB ?_) <;> (clear hA hB A B; (try (exfalso; omega))))
    all_goals (refine aEnR (aRes [true] fun K hK => ?_); simp (maxSteps := 10000000) (disch := first | omega | simp) [errF]; refine hK _ ?_ (by simp); clear hK; first | done | (simp (maxSteps := 10000000) (disch := first | omega | simp) [errF, *]; done) | (simp (maxSteps := 10000000) (disch := first | omega | simp) [errF, *]; omega) | (simp_all [errF]; done) | (simp_all [errF]; omega))
end
end Go.Am
end
section
set_option maxRecDepth 100000
set_option maxHeartbeats 0
namespace Go.Am
open Go
noncomputable section
theorem start_c (m : Image) (p : Part) (t : List Int) (hb : m.brokers.length ≤ 100) (hp : p.Small) (ht : t.length ≤ 1000) (hpi : p.ids.length ≤ 1000) (h1 : ckP m.order (minus t p.ids) = none ∨ ∃ b, ckP m.order (minus t p.ids) = some b ∧ ¬ 0 < (minus t p.ids).length) (h2 : dsP t = none) (hun : p.under = true) (h1' : m.startE p t = erO (some (mvs, (p.add.length : Int), 10))) : ACall pg 17 [encM m, encP p, Li t] (.tup [encP (m.startP p t), errE (m.startE p t)]) := by
  refine s17.call mo (by simp) fun hxs => ?_
  clear hxs
  have hw1 := without_ok t p.ids (by omega) (by omega)
  have hw2 := without_ok p.ids t (by omega) (by omega)
  have hl1 := minus_len t p.ids
  have hl2 := minus_len p.ids t
  have hck := check_ok m (minus t p.ids) hb (by omega)
  have hds := distinct_ok t (by omega)
  have hu := under_ok p
  have heq := equal_ok p.ids t (by omega) (by omega)
  unfold c17; dsimp only [oA, oC, oD, oF, oG, oK, oL, oM, oN, oO, oP, oQ, oS, oU, oW]
  rw [startP_no h1', h1', ← errO_E]
  rw [h2] at hds
  rw [hun] at hu
  rcases h1 with h1 | ⟨b, h1, h3⟩
  · rw [h1] at hck
    repeat' first | (with_reducible first | refine thR ?_ | refine inR ?_ | refine fS ?_ | refine fR ?_ | refine fQ ?_ | refine fT ?_ | refine awBlock ?_ | refine awRet ?_) | ((with_reducible refine awReg fun K hok hK => ?_); clear hok; (try simp (maxSteps := 10000000) (disch := first | omega | simp) [isConst]); (repeat' first | (with_reducible refine hK _ (by simp) ?_) | ((first | ((with_reducible refine callS' fun K2 hK2 => ?_); (try simp (maxSteps := 10000000) (disch := first | omega | simp) [isConst]); (first | refine hK2 _ _ hw1 rfl fun hk9 => ?_ | refine hK2 _ _ hck rfl fun hk9 => ?_ | refine hK2 _ _ hds rfl fun hk9 => ?_ | refine hK2 _ _ hu rfl fun hk9 => ?_ | refine hK2 _ _ (new_ok _ _ _) rfl fun hk9 => ?_); clear hk9; clear hK2 K2) | ((with_reducible refine callF' fun K2 hK2 => ?_); (try simp (maxSteps := 10000000) (disch := first | omega | simp) [isConst]); (first | refine hK2 _ _ _ hw1 fun _ => ?_ | refine hK2 _ _ _ hck fun _ => ?_ | refine hK2 _ _ _ hds fun _ => ?_ | refine hK2 _ _ _ hu fun _ => ?_ | refine hK2 _ _ _ (new_ok _ _ _) fun _ => ?_); clear hK2 K2) | ((with_reducible refine sideS' fun K2 hK2 => ?_); (try simp (maxSteps := 10000000) (disch := first | omega | simp) [isConst]); (first | refine hK2 _ _ (hw1) rfl ?_ | refine hK2 _ _ (hck) rfl ?_ | refine hK2 _ _ (hds) rfl ?_ | refine hK2 _ _ (hu) rfl ?_ | refine hK2 _ _ (new_ok _ _ _) rfl ?_); clear hK2 K2) | ((with_reducible refine sideF' fun K2 hK2 => ?_); (try simp (maxSteps := 10000000) (disch := first | omega | simp) [isConst]); (first | refine hK2 _ _ _ hw1 (by simp) ?_ | refine hK2 _ _ _ hck (by simp) ?_ | refine hK2 _ _ _ hds (by simp) ?_ | refine hK2 _ _ _ hu (by simp) ?_ | refine hK2 _ _ _ (new_ok _ _ _) (by simp) ?_); clear hK2 K2) | ((with_reducible refine sideQ' ?_ ?_ fun K2 hK2 => ?_); exact rfl; exact rfl; (try simp (maxSteps := 10000000) (disch := first | omega | simp) [isConst]); with_reducible refine hK2 _ _ ?_; clear hK2 K2)); (try simp (maxSteps := 10000000) (disch := first | omega | simp) [isConst]))) <;> clear hK K) | ((with_reducible refine awCond fun A B hA hB => ?_); simp (maxSteps := 10000000) (disch := first | omega | simp) [isConst]; (first | refine ⟨fun h => hA ?_, fun h => hB ?_⟩ | refine hA ?_ | refine hB ?_) <;> (clear hA hB A B; (try (exfalso; omega))))
    all_goals (refine aEnR (aRes [true] fun K hK => ?_); simp (maxSteps := 10000000) (disch := first | omega | simp) [errF]; refine hK _ ?_ (by simp); clear hK; first | done | (simp (maxSteps := 10000000) (disch := first | omega | simp) [errF, *]; done) | (simp (maxSteps := 10000000) (disch := first | omega | simp) [errF, *]; omega) | (simp_all [errF]; done) | (simp_all [errF]; omega))
  · rw [h1] at hck
    repeat' first | (with_reducible first | refine thR ?_ | refine inR ?_ | refine fS ?_ | refine fR ?_ | refine fQ ?_ | refine fT ?_ | refine awBlock ?_ | refine awRet ?_) | ((with_reducible refine awReg fun K hok hK => ?_); clear hok; (try simp (maxSteps := 10000000) (disch := first | omega | simp) [h3, isConst]); (repeat' first | (with_reducible refine hK _ (by simp) ?_) | ((first | ((with_reducible refine callS' fun K2 hK2 => ?_); (try simp (maxSteps := 10000000) (disch := first | omega | simp) [h3, isConst]); (first | refine hK2 _ _ hw1 rfl fun hk9 => ?_ | refine hK2 _ _ hck rfl fun hk9 => ?_ | refine hK2 _ _ hds rfl fun hk9 => ?_ | refine hK2 _ _ hu rfl fun hk9 => ?_ | refine hK2 _ _ (new_ok _ _ _) rfl fun hk9 => ?_); clear hk9; clear hK2 K2) | ((with_reducible refine callF' fun K2 hK2 => ?_); (try simp (maxSteps := 10000000) (disch := first | omega | simp) [h3, isConst]); (first | refine hK2 _ _ _ hw1 fun _ => ?_ | refine hK2 _ _ _ hck fun _ => ?_ | refine hK2 _ _ _ hds fun _ => ?_ | refine hK2 _ _ _ hu fun _ => ?_ | refine hK2 _ _ _ (new_ok _ _ _) fun _ => ?_); clear hK2 K2) | ((with_reducible refine sideS' fun K2 hK2 => ?_); (try simp (maxSteps := 10000000) (disch := first | omega | simp) [h3, isConst]); (first | refine hK2 _ _ (hw1) rfl ?_ | refine hK2 _ _ (hck) rfl ?_ | refine hK2 _ _ (hds) rfl ?_ | refine hK2 _ _ (hu) rfl ?_ | refine hK2 _ _ (new_ok _ _ _) rfl ?_); clear hK2 K2) | ((with_reducible refine sideF' fun K2 hK2 => ?_); (try simp (maxSteps := 10000000) (disch := first | omega | simp) [h3, isConst]); (first | refine hK2 _ _ _ hw1 (by simp) ?_ | refine hK2 _ _ _ hck (by simp) ?_ | refine hK2 _ _ _ hds (by simp) ?_ | refine hK2 _ _ _ hu (by simp) ?_ | refine hK2 _ _ _ (new_ok _ _ _) (by simp) ?_); clear hK2 K2) | ((with_reducible refine sideQ' ?_ ?_ fun K2 hK2 => ?_); exact rfl; exact rfl; (try simp (maxSteps := 10000000) (disch := first | omega | simp) [h3, isConst]); with_reducible refine hK2 _ _ ?_; clear hK2 K2)); (try simp (maxSteps := 10000000) (disch := first | omega | simp) [h3, isConst]))) <;> clear hK K) | ((with_reducible refine awCond fun A B hA hB => ?_); simp (maxSteps := 10000000) (disch := first | omega | simp) [h3, isConst]; (first | refine ⟨fun h => hA ?_, fun h => hB ?_⟩ | refine hA ?_ | refine hB ?_) <;> (clear hA hB A B; (try (exfalso; omega))))
    all_goals (refine aEnR (aRes [true] fun K hK => ?_); simp (maxSteps := 10000000) (disch := first | omega | simp) [errF]; refine hK _ ?_ (by simp); clear hK; first | done | (simp (maxSteps := 10000000) (disch := first | omega | simp) [errF, *]; done) | (simp (maxSteps := 10000000) (disch := first | omega | simp) [errF, *]; omega) | (simp_all [errF]; done) | (simp_all [errF]; omega))
end
end Go.Am
end
section
set_option maxRecDepth 100000
set_option maxHeartbeats 0
namespace Go.Am
open Go
noncomputable section
theorem start_d (m : Image) (p : Part) (t : List Int) (hb : m.brokers.length ≤ 100) (hp : p.Small) (ht : t.length ≤ 1000) (hpi : p.ids.length ≤ 1000) (h1 : ckP m.order (minus t p.ids) = none ∨ ∃ b, ckP m.order (minus t p.ids) = some b ∧ ¬ 0 < (minus t p.ids).length) (h2 : dsP t = none) (hun : p.under = false) (he : (p.ids == t) = true) (h1' : m.startE p t = erO (some (tgt, (t.length : Int), 9))) : ACall pg 17 [encM m, encP p, Li t] (.tup [encP (m.startP p t), errE (m.startE p t)]) := by
  refine s17.call mo (by simp) fun hxs => ?_
  clear hxs
  have hw1 := without_ok t p.ids (by omega) (by omega)
  have hw2 := without_ok p.ids t (by omega) (by omega)
  have hl1 := minus_len t p.ids
  have hl2 := minus_len p.ids t
  have hck := check_ok m (minus t p.ids) hb (by omega)
  have hds := distinct_ok t (by omega)
  have hu := under_ok p
  have heq := equal_ok p.ids t (by omega) (by omega)
  unfold c17; dsimp only [oA, oC, oD, oF, oG, oK, oL, oM, oN, oO, oP, oQ, oS, oU, oW]
  rw [startP_no h1', h1', ← errO_E]
  rw [h2] at hds
  rw [hun] at hu
  rw [he] at heq
  rcases h1 with h1 | ⟨b, h1, h3⟩
  · rw [h1] at hck
    repeat' first | (with_reducible first | refine thR ?_ | refine inR ?_ | refine fF ?_ | refine fS ?_ | refine fR ?_ | refine fQ ?_ | refine fC ?_ | refine fT ?_ | refine awBlock ?_ | refine awRet ?_) | ((with_reducible refine awReg fun K hok hK => ?_); clear hok; (try simp (maxSteps := 10000000) (disch := first | omega | simp) [isConst]); (repeat' first | (with_reducible refine hK _ (by simp) ?_) | ((first | ((with_reducible refine callS' fun K2 hK2 => ?_); (try simp (maxSteps := 10000000) (disch := first | omega | simp) [isConst]); (first | refine hK2 _ _ hw1 rfl fun hk9 => ?_ | refine hK2 _ _ hck rfl fun hk9 => ?_ | refine hK2 _ _ hds rfl fun hk9 => ?_ | refine hK2 _ _ hu rfl fun hk9 => ?_ | refine hK2 _ _ heq rfl fun hk9 => ?_ | refine hK2 _ _ (new_ok _ _ _) rfl fun hk9 => ?_); clear hk9; clear hK2 K2) | ((with_reducible refine callF' fun K2 hK2 => ?_); (try simp (maxSteps := 10000000) (disch := first | omega | simp) [isConst]); (first | refine hK2 _ _ _ hw1 fun _ => ?_ | refine hK2 _ _ _ hck fun _ => ?_ | refine hK2 _ _ _ hds fun _ => ?_ | refine hK2 _ _ _ hu fun _ => ?_ | refine hK2 _ _ _ heq fun _ => ?_ | refine hK2 _ _ _ (new_ok _ _ _) fun _ => ?_); clear hK2 K2) | ((with_reducible refine sideS' fun K2 hK2 => ?_); (try simp (maxSteps := 10000000) (disch := first | omega | simp) [isConst]); (first | refine hK2 _ _ (hw1) rfl ?_ | refine hK2 _ _ (hck) rfl ?_ | refine hK2 _ _ (hds) rfl ?_ | refine hK2 _ _ (hu) rfl ?_ | refine hK2 _ _ (heq) rfl ?_ | refine hK2 _ _ (new_ok _ _ _) rfl ?_); clear hK2 K2) | ((with_reducible refine sideF' fun K2 hK2 => ?_); (try simp (maxSteps := 10000000) (disch := first | omega | simp) [isConst]); (first | refine hK2 _ _ _ hw1 (by simp) ?_ | refine hK2 _ _ _ hck (by simp) ?_ | refine hK2 _ _ _ hds (by simp) ?_ | refine hK2 _ _ _ hu (by simp) ?_ | refine hK2 _ _ _ heq (by simp) ?_ | refine hK2 _ _ _ (new_ok _ _ _) (by simp) ?_); clear hK2 K2) | ((with_reducible refine sideQ' ?_ ?_ fun K2 hK2 => ?_); exact rfl; exact rfl; (try simp (maxSteps := 10000000) (disch := first | omega | simp) [isConst]); with_reducible refine hK2 _ _ ?_; clear hK2 K2)); (try simp (maxSteps := 10000000) (disch := first | omega | simp) [isConst]))) <;> clear hK K) | ((with_reducible refine awCond fun A B hA hB => ?_); simp (maxSteps := 10000000) (disch := first | omega | simp) [isConst]; (first | refine ⟨fun h => hA ?_, fun h => hB ?_⟩ | refine hA ?_ | refine hB ?_) <;> (clear hA hB A B; (try (exfalso; omega))))
    all_goals (refine aEnR (aRes [true] fun K hK => ?_); simp (maxSteps := 10000000) (disch := first | omega | simp) [errF]; refine hK _ ?_ (by simp); clear hK; first | done | (simp (maxSteps := 10000000) (disch := first | omega | simp) [errF, *]; done) | (simp (maxSteps := 10000000) (disch := first | omega | simp) [errF, *]; omega) | (simp_all [errF]; done) | (simp_all [errF]; omega))
  · rw [h1] at hck
    repeat' first | (with_reducible first | refine thR ?_ | refine inR ?_ | refine fF ?_ | refine fS ?_ | refine fR ?_ | refine fQ ?_ | refine fC ?_ | refine fT ?_ | refine awBlock ?_ | refine awRet ?_) | ((with_reducible refine awReg fun K hok hK => ?_); clear hok; (try simp (maxSteps := 10000000) (disch := first | omega | simp) [h3, isConst]); (repeat' first | (with_reducible refine hK _ (by simp) ?_) | ((first | ((with_reducible refine callS' fun K2 hK2 => ?_); (try simp (maxSteps := 10000000) (disch := first | omega | simp) [h3, isConst]); (first | refine hK2 _ _ hw1 rfl fun hk9 => ?_ | refine hK2 _ _ hck rfl fun hk9 => ?_ | refine hK2 _ _ hds rfl fun hk9 => ?_ | refine hK2 _ _ hu rfl fun hk9 => ?_ | refine hK2 _ _ heq rfl fun hk9 => ?_ | refine hK2 _ _ (new_ok _ _ _) rfl fun hk9 => ?_); clear hk9; clear hK2 K2) | ((with_reducible refine callF' fun K2 hK2 => ?_); (try simp (maxSteps := 10000000) (disch := first | omega | simp) [h3, isConst]); (first | refine hK2 _ _ _ hw1 fun _ => ?_ | refine hK2 _ _ _ hck fun _ => ?_ | refine hK2 _ _ _ hds fun _ => ?_ | refine hK2 _ _ _ hu fun _ => ?_ | refine hK2 _ _ _ heq fun _ => ?_ | refine hK2 _ _ _ (new_ok _ _ _) fun _ => ?_); clear hK2 K2) | ((with_reducible refine sideS' fun K2 hK2 => ?_); (try simp (maxSteps := 10000000) (disch := first | omega | simp) [h3, isConst]); (first | refine hK2 _ _ (hw1) rfl ?_ | refine hK2 _ _ (hck) rfl ?_ | refine hK2 _ _ (hds) rfl ?_ | refine hK2 _ _ (hu) rfl ?_ | refine hK2 _ _ (heq) rfl ?_ | refine hK2 _ _ (new_ok _ _ _) rfl ?_); clear hK2 K2) | ((with_reducible refine sideF' fun K2 hK2 => ?_); (try simp (maxSteps := 10000000) (disch := first | omega | simp) [h3, isConst]); (first | refine hK2 _ _ _ hw1 (by simp) ?_ | refine hK2 _ _ _ hck (by simp) ?_ | refine hK2 _ _ _ hds (by simp) ?_ | refine hK2 _ _ _ hu (by simp) ?_ | refine hK2 _ _ _ heq (by simp) ?_ | refine hK2 _ _ _ (new_ok _ _ _) (by simp) ?_); clear hK2 K2) | ((with_reducible refine sideQ' ?_ ?_ fun K2 hK2 => ?_); exact rfl; exact rfl; (try simp (maxSteps := 10000000) (disch := first | omega | simp) [h3, isConst]); with_reducible refine hK2 _ _ ?_; clear hK2 K2)); (try simp (maxSteps := 10000000) (disch := first | omega | simp) [h3, isConst]))) <;> clear hK K) | ((with_reducible refine awCond fun A B hA hB => ?_); simp (maxSteps := 10000000) (disch := first | omega | simp) [h3, isConst]; (first | refine ⟨fun h => hA ?_, fun h => hB ?_⟩ | refine hA ?_ | refine hB ?_) <;> (clear hA hB A B; (try (exfalso; omega))))
    all_goals (refine aEnR (aRes [true] fun K hK => ?_); simp (maxSteps := 10000000) (disch := first | omega | simp) [errF]; refine hK _ ?_ (by simp); clear hK; first | done | (simp (maxSteps := 10000000) (disch := first | omega | simp) [errF, *]; done) | (simp (maxSteps := 10000000) (disch := first | omega | simp) [errF, *]; omega) | (simp_all [errF]; done) | (simp_all [errF]; omega))
end
end Go.Am
end
section
set_option maxRecDepth 100000
set_option maxHeartbeats 0
namespace Go.Am
open Go
noncomputable section
theorem start_e (m : Image) (p : Part) (t : List Int) (hb : m.brokers.length ≤ 100) (hp : p.Small) (ht : t.length ≤ 1000) (hpi : p.ids.length ≤ 1000) (h1 : ckP m.order (minus t p.ids) = none ∨ ∃ b, ckP m.order (minus t p.ids) = some b ∧ ¬ 0 < (minus t p.ids).length) (h2 : dsP t = none) (htl : 0 < t.length) (hun : p.under = false) (he : (p.ids == t) = false) (h5 : 7 < t.length + (minus p.ids t).length) (h1' : m.startE p t = erO (some (tgt, ((t.length + (minus p.ids t).length : Nat) : Int), 6))) : ACall pg 17 [encM m, encP p, Li t] (.tup [encP (m.startP p t), errE (m.startE p t)]) := by
  refine s17.call mo (by simp) fun hxs => ?_
  clear hxs
  have hw1 := without_ok t p.ids (by omega) (by omega)
  have hw2 := without_ok p.ids t (by omega) (by omega)
  have hl1 := minus_len t p.ids
  have hl2 := minus_len p.ids t
  have hck := check_ok m (minus t p.ids) hb (by omega)
  have hds := distinct_ok t (by omega)
  have hu := under_ok p
  have heq := equal_ok p.ids t (by omega) (by omega)
  unfold c17; dsimp only [oA, oC, oD, oF, oG, oK, oL, oM, oN, oO, oP, oQ, oS, oU, oW]
  rw [startP_no h1', h1', ← errO_E]
  rw [h2] at hds
  rw [hun] at hu
  rw [he] at heq
  have hnw := new_ok tgt ((t.length + (minus p.ids t).length : Nat) : Int) 6
  rw [Int.natCast_add] at hnw ⊢
  rcases h1 with h1 | ⟨b, h1, h3⟩
  · rw [h1] at hck
    repeat' first | (with_reducible first | refine thN ?_ | refine inN ?_ | refine fF ?_ | refine fS ?_ | refine fR ?_ | refine fQ ?_ | refine fC ?_ | refine fT ?_ | refine awBlock ?_ | refine awRet ?_ | refine awSkip ?_) | ((with_reducible refine awReg fun K hok hK => ?_); clear hok; (try simp (maxSteps := 10000000) (disch := first | omega | simp) [isConst]); (repeat' first | (with_reducible refine hK _ (by simp) ?_) | ((first | ((with_reducible refine callS' fun K2 hK2 => ?_); (try simp (maxSteps := 10000000) (disch := first | omega | simp) [isConst]); (first | refine hK2 _ _ hw1 rfl fun hk9 => ?_ | refine hK2 _ _ hck rfl fun hk9 => ?_ | refine hK2 _ _ hds rfl fun hk9 => ?_ | refine hK2 _ _ hu rfl fun hk9 => ?_ | refine hK2 _ _ heq rfl fun hk9 => ?_ | refine hK2 _ _ hw2 rfl fun hk9 => ?_ | refine hK2 _ _ (alone_ok p hp) rfl fun hk9 => ?_ | refine hK2 _ _ hnw rfl fun hk9 => ?_); clear hk9; clear hK2 K2) | ((with_reducible refine callF' fun K2 hK2 => ?_); (try simp (maxSteps := 10000000) (disch := first | omega | simp) [isConst]); (first | refine hK2 _ _ _ hw1 fun _ => ?_ | refine hK2 _ _ _ hck fun _ => ?_ | refine hK2 _ _ _ hds fun _ => ?_ | refine hK2 _ _ _ hu fun _ => ?_ | refine hK2 _ _ _ heq fun _ => ?_ | refine hK2 _ _ _ hw2 fun _ => ?_ | refine hK2 _ _ _ (alone_ok p hp) fun _ => ?_ | refine hK2 _ _ _ hnw fun _ => ?_); clear hK2 K2) | ((with_reducible refine sideS' fun K2 hK2 => ?_); (try simp (maxSteps := 10000000) (disch := first | omega | simp) [isConst]); (first | refine hK2 _ _ (hw1) rfl ?_ | refine hK2 _ _ (hck) rfl ?_ | refine hK2 _ _ (hds) rfl ?_ | refine hK2 _ _ (hu) rfl ?_ | refine hK2 _ _ (heq) rfl ?_ | refine hK2 _ _ (hw2) rfl ?_ | refine hK2 _ _ (alone_ok p hp) rfl ?_ | refine hK2 _ _ (hnw) rfl ?_); clear hK2 K2) | ((with_reducible refine sideF' fun K2 hK2 => ?_); (try simp (maxSteps := 10000000) (disch := first | omega | simp) [isConst]); (first | refine hK2 _ _ _ hw1 (by simp) ?_ | refine hK2 _ _ _ hck (by simp) ?_ | refine hK2 _ _ _ hds (by simp) ?_ | refine hK2 _ _ _ hu (by simp) ?_ | refine hK2 _ _ _ heq (by simp) ?_ | refine hK2 _ _ _ hw2 (by simp) ?_ | refine hK2 _ _ _ (alone_ok p hp) (by simp) ?_ | refine hK2 _ _ _ hnw (by simp) ?_); clear hK2 K2) | ((with_reducible refine sideQ' ?_ ?_ fun K2 hK2 => ?_); exact rfl; exact rfl; (try simp (maxSteps := 10000000) (disch := first | omega | simp) [isConst]); with_reducible refine hK2 _ _ ?_; clear hK2 K2) | ((with_reducible refine side' ?_ fun K2 hK2 => ?_); exact rfl; (try simp (maxSteps := 10000000) (disch := first | omega | simp) [isConst]); refine hK2 _ _ (by simp) ?_; clear hK2 K2)); (try simp (maxSteps := 10000000) (disch := first | omega | simp) [isConst]))) <;> clear hK K) | ((with_reducible refine awCond fun A B hA hB => ?_); simp (maxSteps := 10000000) (disch := first | omega | simp) [isConst]; (first | refine ⟨fun h => hA ?_, fun h => hB ?_⟩ | refine hA ?_ | refine hB ?_) <;> (clear hA hB A B; (try (exfalso; omega))))
    all_goals (refine aEnR (aRes [true] fun K hK => ?_); simp (maxSteps := 10000000) (disch := first | omega | simp) [errF]; refine hK _ ?_ (by simp); clear hK; first | done | (simp (maxSteps := 10000000) (disch := first | omega | simp) [errF, *]; done) | (simp (maxSteps := 10000000) (disch := first | omega | simp) [errF, *]; omega) | (simp_all [errF]; done) | (simp_all [errF]; omega))
  · rw [h1] at hck
    repeat' first | (with_reducible first | refine thN ?_ | refine inN ?_ | refine fF ?_ | refine fS ?_ | refine fR ?_ | refine fQ ?_ | refine fC ?_ | refine fT ?_ | refine awBlock ?_ | refine awRet ?_ | refine awSkip ?_) | ((with_reducible refine awReg fun K hok hK => ?_); clear hok; (try simp (maxSteps := 10000000) (disch := first | omega | simp) [h3, isConst]); (repeat' first | (with_reducible refine hK _ (by simp) ?_) | ((first | ((with_reducible refine callS' fun K2 hK2 => ?_); (try simp (maxSteps := 10000000) (disch := first | omega | simp) [h3, isConst]); (first | refine hK2 _ _ hw1 rfl fun hk9 => ?_ | refine hK2 _ _ hck rfl fun hk9 => ?_ | refine hK2 _ _ hds rfl fun hk9 => ?_ | refine hK2 _ _ hu rfl fun hk9 => ?_ | refine hK2 _ _ heq rfl fun hk9 => ?_ | refine hK2 _ _ hw2 rfl fun hk9 => ?_ | refine hK2 _ _ (alone_ok p hp) rfl fun hk9 => ?_ | refine hK2 _ _ hnw rfl fun hk9 => ?_); clear hk9; clear hK2 K2) | ((with_reducible refine callF' fun K2 hK2 => ?_); (try simp (maxSteps := 10000000) (disch := first | omega | simp) [h3, isConst]); (first | refine hK2 _ _ _ hw1 fun _ => ?_ | refine hK2 _ _ _ hck fun _ => ?_ | refine hK2 _ _ _ hds fun _ => ?_ | refine hK2 _ _ _ hu fun _ => ?_ | refine hK2 _ _ _ heq fun _ => ?_ | refine hK2 _ _ _ hw2 fun _ => ?_ | refine hK2 _ _ _ (alone_ok p hp) fun _ => ?_ | refine hK2 _ _ _ hnw fun _ => ?_); clear hK2 K2) | ((with_reducible refine sideS' fun K2 hK2 => ?_); (try simp (maxSteps := 10000000) (disch := first | omega | simp) [h3, isConst]); (first | refine hK2 _ _ (hw1) rfl ?_ | refine hK2 _ _ (hck) rfl ?_ | refine hK2 _ _ (hds) rfl ?_ | refine hK2 _ _ (hu) rfl ?_ | refine hK2 _ _ (heq) rfl ?_ | refine hK2 _ _ (hw2) rfl ?_ | refine hK2 _ _ (alone_ok p hp) rfl ?_ | refine hK2 _ _ (hnw) rfl ?_); clear hK2 K2) | ((with_reducible refine sideF' fun K2 hK2 => ?_); (try simp (maxSteps := 10000000) (disch := first | omega | simp) [h3, isConst]); (first | refine hK2 _ _ _ hw1 (by simp) ?_ | refine hK2 _ _ _ hck (by simp) ?_ | refine hK2 _ _ _ hds (by simp) ?_ | refine hK2 _ _ _ hu (by simp) ?_ | refine hK2 _ _ _ heq (by simp) ?_ | refine hK2 _ _ _ hw2 (by simp) ?_ | refine hK2 _ _ _ (alone_ok p hp) (by simp) ?_ | refine hK2 _ _ _ hnw (by simp) ?_); clear hK2 K2) | ((with_reducible refine sideQ' ?_ ?_ fun K2 hK2 => ?_); exact rfl; exact rfl; (try simp (maxSteps := 10000000) (disch := first | omega | simp) [h3, isConst]); with_reducible refine hK2 _ _ ?_; clear hK2 K2) | ((with_reducible refine side' ?_ fun K2 hK2 => ?_); exact rfl; (try simp (maxSteps := 10000000) (disch := first | omega | simp) [h3, isConst]); refine hK2 _ _ (by simp) ?_; clear hK2 K2)); (try simp (maxSteps := 10000000) (disch := first | omega | simp) [h3, isConst]))) <;> clear hK K) | ((with_reducible refine awCond fun A B hA hB => ?_); simp (maxSteps := 10000000) (disch := first | omega | simp) [h3, isConst]; (first | refine ⟨fun h => hA ?_, fun h => hB ?_⟩ | refine hA ?_ | refine hB ?_) <;> (clear hA hB A B; (try (exfalso; omega))))
    all_goals (refine aEnR (aRes [true] fun K hK => ?_); simp (maxSteps := 10000000) (disch := first | omega | simp) [errF]; refine hK _ ?_ (by simp); clear hK; first | done | (simp (maxSteps := 10000000) (disch := first | omega | simp) [errF, *]; done) | (simp (maxSteps := 10000000) (disch := first | omega | simp) [errF, *]; omega) | (simp_all [errF]; done) | (simp_all [errF]; omega))
end
end Go.Am
end
section
set_option maxRecDepth 100000
set_option maxHeartbeats 0
namespace Go.Am
open Go
noncomputable section
theorem start_f (m : Image) (p : Part) (t : List Int) (hb : m.brokers.length ≤ 100) (hp : p.Small) (ht : t.length ≤ 1000) (hpi : p.ids.length ≤ 1000) (h1 : ckP m.order (minus t p.ids) = none ∨ ∃ b, ckP m.order (minus t p.ids) = some b ∧ ¬ 0 < (minus t p.ids).length) (h2 : dsP t = none) (htl : 0 < t.length) (hun : p.under = false) (he : (p.ids == t) = false) (h5 : ¬ 7 < t.length + (minus p.ids t).length) (h1' : m.startE p t = none) : ACall pg 17 [encM m, encP p, Li t] (.tup [encP (m.startP p t), errE (m.startE p t)]) := by
  refine s17.call mo (by simp) fun hxs => ?_
  clear hxs
  have hw1 := without_ok t p.ids (by omega) (by omega)
  have hw2 := without_ok p.ids t (by omega) (by omega)
  have hl1 := minus_len t p.ids
  have hl2 := minus_len p.ids t
  have hck := check_ok m (minus t p.ids) hb (by omega)
  have hds := distinct_ok t (by omega)
  have hu := under_ok p
  have heq := equal_ok p.ids t (by omega) (by omega)
  unfold c17; dsimp only [oA, oC, oD, oF, oG, oK, oL, oM, oN, oO, oP, oQ, oS, oU, oW]
  have e2 : m.startP p t = p.sent t := by unfold Image.startP; rw [h1']; rfl
  rw [e2, h1']
  rw [h2] at hds
  rw [hun] at hu
  rw [he] at heq
  have hss : (p.sent t).Small := ⟨by simp [Part.sent]; omega, hp.isr, by simp only [Part.sent]; omega, by simp only [Part.sent]; omega⟩
  have hal := alone_ok (p.sent t) hss
  simp only [Part.sent, encP_eq, Li, List.map_append] at hal
  have h5' : decide (7 < (t.length : Int) + ((minus p.ids t).length : Int)) = false := decide_eq_false (by omega)
  rcases h1 with h1 | ⟨b, h1, h3⟩
  · rw [h1] at hck
    repeat' first | (with_reducible first | refine thN ?_ | refine inN ?_ | refine fF ?_ | refine fS ?_ | refine fR ?_ | refine fQ ?_ | refine fC ?_ | refine awBlock ?_ | refine awRet ?_ | refine awSkip ?_) | ((with_reducible refine awReg fun K hok hK => ?_); clear hok; (try simp (maxSteps := 10000000) (disch := first | omega | simp) [h5', isConst]); (repeat' first | (with_reducible refine hK _ (by simp) ?_) | ((first | ((with_reducible refine callS' fun K2 hK2 => ?_); (try simp (maxSteps := 10000000) (disch := first | omega | simp) [h5', isConst]); (first | refine hK2 _ _ hw1 rfl fun hk9 => ?_ | refine hK2 _ _ hck rfl fun hk9 => ?_ | refine hK2 _ _ hds rfl fun hk9 => ?_ | refine hK2 _ _ hu rfl fun hk9 => ?_ | refine hK2 _ _ heq rfl fun hk9 => ?_ | refine hK2 _ _ hw2 rfl fun hk9 => ?_ | refine hK2 _ _ (alone_ok p hp) rfl fun hk9 => ?_ | refine hK2 _ _ hal rfl fun hk9 => ?_); clear hk9; clear hK2 K2) | ((with_reducible refine callF' fun K2 hK2 => ?_); (try simp (maxSteps := 10000000) (disch := first | omega | simp) [h5', isConst]); (first | refine hK2 _ _ _ hw1 fun _ => ?_ | refine hK2 _ _ _ hck fun _ => ?_ | refine hK2 _ _ _ hds fun _ => ?_ | refine hK2 _ _ _ hu fun _ => ?_ | refine hK2 _ _ _ heq fun _ => ?_ | refine hK2 _ _ _ hw2 fun _ => ?_ | refine hK2 _ _ _ (alone_ok p hp) fun _ => ?_ | refine hK2 _ _ _ hal fun _ => ?_); clear hK2 K2) | ((with_reducible refine sideF' fun K2 hK2 => ?_); (try simp (maxSteps := 10000000) (disch := first | omega | simp) [h5', isConst]); (first | refine hK2 _ _ _ hw1 (by simp) ?_ | refine hK2 _ _ _ hck (by simp) ?_ | refine hK2 _ _ _ hds (by simp) ?_ | refine hK2 _ _ _ hu (by simp) ?_ | refine hK2 _ _ _ heq (by simp) ?_ | refine hK2 _ _ _ hw2 (by simp) ?_ | refine hK2 _ _ _ (alone_ok p hp) (by simp) ?_ | refine hK2 _ _ _ hal (by simp) ?_); clear hK2 K2) | ((with_reducible refine sideQ' ?_ ?_ fun K2 hK2 => ?_); exact rfl; exact rfl; (try simp (maxSteps := 10000000) (disch := first | omega | simp) [h5', isConst]); with_reducible refine hK2 _ _ ?_; clear hK2 K2) | ((with_reducible refine side' ?_ fun K2 hK2 => ?_); exact rfl; (try simp (maxSteps := 10000000) (disch := first | omega | simp) [h5', isConst]); refine hK2 _ _ (by simp) ?_; clear hK2 K2)); (try simp (maxSteps := 10000000) (disch := first | omega | simp) [h5', isConst]))) <;> clear hK K) | ((with_reducible refine awCond fun A B hA hB => ?_); simp (maxSteps := 10000000) (disch := first | omega | simp) [h5', isConst]; (first | refine ⟨fun h => hA ?_, fun h => hB ?_⟩ | refine hA ?_ | refine hB ?_) <;> (clear hA hB A B; (try (exfalso; omega))))
    all_goals (refine aEnR (aRes [true] fun K hK => ?_); simp (maxSteps := 10000000) (disch := first | omega | simp) [Part.sent]; refine hK _ ?_ (by simp); clear hK; first | done | (simp (maxSteps := 10000000) (disch := first | omega | simp) [Part.sent, *]; done) | (simp (maxSteps := 10000000) (disch := first | omega | simp) [Part.sent, *]; omega) | (simp_all [Part.sent]; done) | (simp_all [Part.sent]; omega))
  · rw [h1] at hck
    repeat' first | (with_reducible first | refine thN ?_ | refine inN ?_ | refine fF ?_ | refine fS ?_ | refine fR ?_ | refine fQ ?_ | refine fC ?_ | refine awBlock ?_ | refine awRet ?_ | refine awSkip ?_) | ((with_reducible refine awReg fun K hok hK => ?_); clear hok; (try simp (maxSteps := 10000000) (disch := first | omega | simp) [h3, h5', isConst]); (repeat' first | (with_reducible refine hK _ (by simp) ?_) | ((first | ((with_reducible refine callS' fun K2 hK2 => ?_); (try simp (maxSteps := 10000000) (disch := first | omega | simp) [h3, h5', isConst]); (first | refine hK2 _ _ hw1 rfl fun hk9 => ?_ | refine hK2 _ _ hck rfl fun hk9 => ?_ | refine hK2 _ _ hds rfl fun hk9 => ?_ | refine hK2 _ _ hu rfl fun hk9 => ?_ | refine hK2 _ _ heq rfl fun hk9 => ?_ | refine hK2 _ _ hw2 rfl fun hk9 => ?_ | refine hK2 _ _ (alone_ok p hp) rfl fun hk9 => ?_ | refine hK2 _ _ hal rfl fun hk9 => ?_); clear hk9; clear hK2 K2) | ((with_reducible refine callF' fun K2 hK2 => ?_); (try simp (maxSteps := 10000000) (disch := first | omega | simp) [h3, h5', isConst]); (first | refine hK2 _ _ _ hw1 fun _ => ?_ | refine hK2 _ _ _ hck fun _ => ?_ | refine hK2 _ _ _ hds fun _ => ?_ | refine hK2 _ _ _ hu fun _ => ?_ | refine hK2 _ _ _ heq fun _ => ?_ | refine hK2 _ _ _ hw2 fun _ => ?_ | refine hK2 _ _ _ (alone_ok p hp) fun _ => ?_ | refine hK2 _ _ _ hal fun _ => ?_); clear hK2 K2) | ((with_reducible refine sideF' fun K2 hK2 => ?_); (try simp (maxSteps := 10000000) (disch := first | omega | simp) [h3, h5', isConst]); (first | refine hK2 _ _ _ hw1 (by simp) ?_ | refine hK2 _ _ _ hck (by simp) ?_ | refine hK2 _ _ _ hds (by simp) ?_ | refine hK2 _ _ _ hu (by simp) ?_ | refine hK2 _ _ _ heq (by simp) ?_ | refine hK2 _ _ _ hw2 (by simp) ?_ | refine hK2 _ _ _ (alone_ok p hp) (by simp) ?_ | refine hK2 _ _ _ hal (by simp) ?_); clear hK2 K2) | ((with_reducible refine sideQ' ?_ ?_ fun K2 hK2 => ?_); exact rfl; exact rfl; (try simp (maxSteps := 10000000) (disch := first | omega | simp) [h3, h5', isConst]); with_reducible refine hK2 _ _ ?_; clear hK2 K2) | ((with_reducible refine side' ?_ fun K2 hK2 => ?_); exact rfl; (try simp (maxSteps := 10000000) (disch := first | omega | simp) [h3, h5', isConst]); refine hK2 _ _ (by simp) ?_; clear hK2 K2)); (try simp (maxSteps := 10000000) (disch := first | omega | simp) [h3, h5', isConst]))) <;> clear hK K) | ((with_reducible refine awCond fun A B hA hB => ?_); simp (maxSteps := 10000000) (disch := first | omega | simp) [h3, h5', isConst]; (first | refine ⟨fun h => hA ?_, fun h => hB ?_⟩ | refine hA ?_ | refine hB ?_) <;> (clear hA hB A B; (try (exfalso; omega))))
    all_goals (refine aEnR (aRes [true] fun K hK => ?_); simp (maxSteps := 10000000) (disch := first | omega | simp) [Part.sent]; refine hK _ ?_ (by simp); clear hK; first | done | (simp (maxSteps := 10000000) (disch := first | omega | simp) [Part.sent, *]; done) | (simp (maxSteps := 10000000) (disch := first | omega | simp) [Part.sent, *]; omega) | (simp_all [Part.sent]; done) | (simp_all [Part.sent]; omega))
end
end Go.Am
end
section
set_option maxRecDepth 100000
set_option maxHeartbeats 0
namespace Go.Am
open Go
noncomputable section
theorem start_walk (m : Image) (p : Part) (t : List Int) (hb : m.brokers.length ≤ 100) (hp : p.Small) (ht : t.length ≤ 1000) (hpi : p.ids.length ≤ 1000) : ACall pg 17 [encM m, encP p, Li t] (.tup [encP (m.startP p t), errE (m.startE p t)]) := by
  by_cases h1 : (ckP m.order (minus t p.ids)).isSome = true ∧ 0 < (minus t p.ids).length
  · exact start_a m p t hb hp ht hpi h1
  have h1' := ck_or h1
  by_cases h2 : (dsP t).isSome = true
  · exact start_b m p t hb hp ht hpi h1' h2 (by unfold Image.startE; rw [if_neg h1, if_pos h2])
  have h2' : dsP t = none := by
    cases hc : dsP t with
    | none => rfl
    | some b => rw [hc] at h2; exact absurd rfl h2
  have htl := (dsP_get h2').1
  by_cases h3 : p.under = true
  · exact start_c m p t hb hp ht hpi h1' h2' h3 (by unfold Image.startE; rw [if_neg h1, if_neg h2, if_pos h3])
  have h3' : p.under = false := by simpa using h3
  by_cases h4 : p.ids = t
  · exact start_d m p t hb hp ht hpi h1' h2' h3' (by simpa using h4) (by unfold Image.startE; rw [if_neg h1, if_neg h2, if_neg h3, if_pos h4])
  by_cases h5 : 7 < t.length + (minus p.ids t).length
  · exact start_e m p t hb hp ht hpi h1' h2' htl h3' (by simpa using h4) h5 (by unfold Image.startE; rw [if_neg h1, if_neg h2, if_neg h3, if_neg h4, if_pos h5])
  · exact start_f m p t hb hp ht hpi h1' h2' htl h3' (by simpa using h4) h5 (by unfold Image.startE; rw [if_neg h1, if_neg h2, if_neg h3, if_neg h4, if_neg h5])
end
end Go.Am
end
