/- Part of the proof of a law of moving. -/
import Derived.Test.YtmnheledelnbfaaGreatDoorQAA
import Derived.Test.YtmnheledelnbfaaGreatDoorQAF
import Derived.Test.YtmnheledelnbfaaGreatDoorQED
import Derived.Test.YtmnheledelnbfaaGreatDoorQEF
import Derived.Test.YtmnheledelnbfaaGreatDoorQV9
import Derived.Test.YtmnheledelnbfaaGreatDoorQVC
import Derived.Test.YtmnheledelnbfaaGreatDoorQVw
set_option linter.all false
set_option maxRecDepth 100000
set_option maxHeartbeats 0
namespace Go.Am
open Go
noncomputable section
def c29 : SC := (.seq (.reg [oD 0 (.assign (.const (.slice none 0 0)))] []) (.seq (.reg [oC 2 53 #[] #[],oG 1 2] [1,2]) (.seq (.reg [oM 3 1,oD 4 (.build 76 #[(0,.const (.int .i64 2)),(1,.const (.int .i64 3)),(2,.const (.int .i64 1)),(13,.const (.string ⟨#[97]⟩))]),oD 5 (.build 76 #[(0,.const (.int .i64 4)),(1,.const (.int .i64 3)),(2,.const (.int .i64 1))]),oD 6 (.build 76 #[(0,.const (.int .i64 2)),(1,.const (.int .i64 4)),(2,.const (.int .i64 1)),(13,.const (.string ⟨#[98]⟩))]),oD 7 (.build 76 #[(0,.const (.int .i64 4)),(1,.const (.int .i64 4)),(2,.const (.int .i64 1))]),oD 8 (.buildSlice 22 4 #[(0,.tmp 4),(1,.tmp 5),(2,.tmp 6),(3,.tmp 7)]),oP 9 #[.tmp 3,.tmp 8] #[22,22],oG 0 9] [0,9]) .ret)))
theorem s29 : TextK Proofs.Tryz.prog 0 29 10 [ResultVar.tmp 0] c29 := .mk' Proofs.Tryz.f29 _ (by kernel_rfl) rfl rfl rfl (by kernel_rfl) rfl (by kernel_rfl)
def c6 : SC := (.seq (.reg [oZ 0 false] []) (.seq (.reg [oC 18 29 #[] #[],oC 19 7 #[.tmp 18] #[22],oA 1 36,oS 36 1 19] [1]) (.seq (.reg [oL 21 36 1,oC 22 30 #[.tmp 21,.const (.int .i64 1),.const (.int .i64 0)] #[36,3,3],oM 20 22,oX 23 20 0,oX 24 20 1,oA 2 53,oS 53 2 23,oG 3 24] [1,2]) (.seq (.reg [oL 26 36 1,oL 27 53 2,oD 28 (.buildSlice 23 2 #[(0,.const (.int .i64 3)),(1,.const (.int .i64 2))]),oC 29 17 #[.tmp 26,.tmp 27,.tmp 28] #[36,53,23],oM 25 29,oX 30 25 0,oX 31 25 1,oA 4 53,oS 53 4 30,oG 5 31] [1,2,4,5,25,29,31]) (.seq (.reg [oL 33 36 1,oL 34 53 4,oC 35 19 #[.tmp 33,.tmp 34] #[36,53],oM 32 35,oX 36 32 0,oX 37 32 1,oA 6 53,oS 53 6 36,oG 7 37] [1,2,4,5,7,25,29,31,32,35,37]) (.seq (.reg [oL 39 36 1,oL 40 53 4,oC 41 21 #[.tmp 39,.tmp 40] #[36,53],oM 38 41,oX 42 38 0,oX 43 38 1,oA 8 53,oS 53 8 42,oG 9 43] [1,2,4,5,7,8,9,25,29,31,32,35,37,38,41,43]) (.seq (.reg [oD 44 (.buildSlice 23 3 #[(0,.const (.int .i64 1)),(1,.const (.int .i64 2)),(2,.const (.int .i64 3))]),oF 45 53 4 1,oS 23 45 44] [1,2,4,5,7,8,9,25,29,31,32,35,37,38,41,43]) (.seq (.reg [oL 47 36 1,oL 48 53 4,oC 49 19 #[.tmp 47,.tmp 48] #[36,53],oM 46 49,oX 50 46 0,oX 51 46 1,oA 10 53,oS 53 10 50,oG 11 51] [1,2,4,5,7,8,9,10,11,25,29,31,32,35,37,38,41,43,46,49,51]) (.seq (.reg [oL 53 36 1,oL 54 53 2,oD 55 (.buildSlice 23 2 #[(0,.const (.int .i64 1)),(1,.const (.int .i64 2))]),oC 56 17 #[.tmp 53,.tmp 54,.tmp 55] #[36,53,23],oM 52 56,oX 57 52 0,oX 58 52 1,oA 12 53,oS 53 12 57,oG 13 58] [1,2,4,5,7,8,9,10,11,13,25,29,31,32,35,37,38,41,43,46,49,51,52,56,58]) (.seq (.reg [oL 60 36 1,oL 61 53 2,oC 62 21 #[.tmp 60,.tmp 61] #[36,53],oM 59 62,oX 63 59 0,oX 64 59 1,oA 14 53,oS 53 14 63,oG 15 64] [1,4,5,7,8,9,10,11,13,15,25,29,31,32,35,37,38,41,43,46,49,51,52,56,58,59,62,64]) (.seq (.reg [oL 66 36 1,oD 67 (.buildSlice 23 1 #[(0,.const (.int .i64 4))]),oD 68 (.build 27 #[(2,.const (.int .i64 5)),(3,.const (.string ⟨#[116]⟩)),(10,.tmp 67)]),oC 69 8 #[.tmp 66,.tmp 68] #[36,27],oM 65 69,oX 70 65 0,oX 71 65 1,oG 16 70,oG 17 71] [1,4,5,7,8,9,10,11,13,15,16,17,25,29,31,32,35,37,38,41,43,46,49,51,52,56,58,59,62,64,65,69,70,71]) (.seq (.reg (oM 72 5 :: oD 73 (.binOp .eql 39 (.tmp 72) (.const .nilIface) 39) :: oM 74 73 :: oW 74 true (oM 75 7) :: oW 74 true (oD 76 (.unOp .not 4 (.tmp 75))) :: oQ 77 74 76 false :: oM 78 77 :: oW 78 true (oM 79 9) :: oW 78 true (oD 80 (.binOp .eql 39 (.tmp 79) (.const .nilIface) 39)) :: oQ 81 78 80 false :: oM 82 81 :: oW 82 true (oF 83 53 8 0) :: oW 82 true (oL 84 23 83) :: oW 82 true (oD 85 (.buildSlice 23 2 #[(0,.const (.int .i64 2)),(1,.const (.int .i64 1))])) :: oW 82 true (oC 86 26 #[.tmp 84,.tmp 85] #[23,23]) :: oQ 87 82 86 false :: oM 88 87 :: oW 88 true (oM 89 11) :: oQ 90 88 89 false :: oM 91 90 :: oW 91 true (oF 92 53 10 0) :: oW 91 true (oL 93 23 92) :: oW 91 true (oD 94 (.buildSlice 23 2 #[(0,.const (.int .i64 3)),(1,.const (.int .i64 2))])) :: oW 91 true (oC 95 26 #[.tmp 93,.tmp 94] #[23,23]) :: oQ 96 91 95 false :: oM 97 96 :: oW 97 true (oF 98 53 10 2) :: oW 97 true (oL 99 3 98) :: oW 97 true (oK 100 .eql 3 99 3 3) :: oQ 101 97 100 false :: oM 102 101 :: oW 102 true (oF 103 53 10 3) :: oW 102 true (oL 104 3 103) :: oW 102 true (oK 105 .eql 3 104 1 3) :: oQ 106 102 105 false :: oM 107 106 :: oW 107 true (oM 108 13) :: oW 107 true (oC 109 31 #[.tmp 108,.const (.int .i64 9)] #[39,42]) :: oQ 110 107 109 false :: oM 111 110 :: oW 111 true (oM 112 15) :: oW 111 true (oC 113 31 #[.tmp 112,.const (.int .i64 8)] #[39,42]) :: oQ 114 111 113 false :: oM 115 114 :: oW 115 true (oM 116 17) :: oW 115 true (oD 117 (.binOp .eql 39 (.tmp 116) (.const .nilIface) 39)) :: oQ 118 115 117 false :: oM 119 118 :: oW 119 true (oM 120 16) :: oW 119 true (oN 121 120 22) :: oW 119 true (oK 122 .eql 3 121 1 3) :: oQ 123 119 122 false :: oM 124 123 :: oW 124 true (oL 125 36 1) :: oW 124 true (oC 126 12 #[.tmp 125] #[36]) :: oW 124 true (oN 127 126 22) :: oW 124 true (oK 128 .eql 3 127 0 3) :: oQ 129 124 128 false :: oM 130 129 :: oW 130 true (oL 131 36 1) :: oW 130 true (oC 132 14 #[.tmp 131] #[36]) :: oW 130 true (oK 133 .eql 3 132 0 3) :: oQ 134 130 133 false :: oM 135 134 :: oW 135 true (oL 136 53 4) :: oW 135 true (oC 137 24 #[.tmp 136] #[53]) :: oQ 138 135 137 false :: oM 139 138 :: oW 139 true (oL 140 53 4) :: oW 139 true (oC 141 27 #[.tmp 140] #[53]) :: oW 139 true (oD 142 (.buildSlice 23 2 #[(0,.const (.int .i64 3)),(1,.const (.int .i64 2))])) :: oW 139 true (oC 143 26 #[.tmp 141,.tmp 142] #[23,23]) :: oQ 144 139 143 false :: oG 0 144 :: []) [0,11,46,49,51,73,74,76,77,78,80,81,82,86,87,88,89,90,91,95,96,97,100,101,102,105,106,107,109,110,111,113,114,115,117,118,119,122,123,124,128,129,130,133,134,135,137,138,139,143,144]) .ret))))))))))))
theorem s6 : TextK Proofs.Tryz.prog 0 6 145 [ResultVar.tmp 0] c6 := .mk' Proofs.Tryz.f6 _ (by kernel_rfl) rfl rfl rfl (by kernel_rfl) rfl (by kernel_rfl)
theorem first_okU : ACall pg 53 [] (.uq (firstL.map encR)) := by
  refine s53.call mo (by simp) fun hxs => ?_
  clear hxs
  unfold c53; dsimp only [oD, oG]
  repeat' first | (with_reducible first | refine awRet ?_) | ((with_reducible refine awReg fun K hok hK => ?_); clear hok; (try simp (maxSteps := 10000000) (disch := first | omega | simp) []); (repeat' first | (with_reducible refine hK _ (by simp) ?_)) <;> clear hK K) | ((with_reducible refine awCond fun A B hA hB => ?_); simp (maxSteps := 10000000) (disch := first | omega | simp) []; (first | refine ⟨fun h => hA ?_, fun h => hB ?_⟩ | refine hA ?_ | refine hB ?_) <;> (clear hA hB A B; (try (exfalso; omega))))
  (refine aEnR (aRes [] fun K hK => ?_); simp (maxSteps := 10000000) (disch := first | omega | simp) [firstL, zR, bs]; refine hK _ ?_ (by simp); simp (maxSteps := 10000000) (disch := first | omega | simp) [firstL, zR, bs])
theorem four_ok : ACall pg 29 [] (.sl (fourL.map encR)) := by
  refine s29.call mo (by simp) fun hxs => ?_
  clear hxs
  unfold c29; dsimp only [oC, oD, oG, oM, oP]
  have f0 : firstL.length = 6 := rfl
  repeat' first | (with_reducible first | refine awRet ?_) | ((with_reducible refine awReg fun K hok hK => ?_); clear hok; (try simp (maxSteps := 10000000) (disch := first | omega | simp) [f0]); (repeat' first | (with_reducible refine hK _ (by simp) ?_) | ((with_reducible refine callF' fun K2 hK2 => ?_); (try simp (maxSteps := 10000000) (disch := first | omega | simp) [f0]); (refine hK2 _ _ _ first_okU fun _ => ?_); clear hK2 K2; (try simp (maxSteps := 10000000) (disch := first | omega | simp) [f0]))) <;> clear hK K) | ((with_reducible refine awCond fun A B hA hB => ?_); simp (maxSteps := 10000000) (disch := first | omega | simp) [f0]; (first | refine ⟨fun h => hA ?_, fun h => hB ?_⟩ | refine hA ?_ | refine hB ?_) <;> (clear hA hB A B; (try (exfalso; omega))))
  (refine aEnR (aRes [true] fun K hK => ?_); simp (maxSteps := 10000000) (disch := first | omega | simp) [fourL, fourX, firstL, zR, bs]; refine hK _ ?_ (by simp); clear hK; first | done | (simp (maxSteps := 10000000) (disch := first | omega | simp) [fourL, fourX, firstL, zR, bs, *]; done) | (simp (maxSteps := 10000000) (disch := first | omega | simp) [fourL, fourX, firstL, zR, bs, *]; omega) | (simp_all [fourL, fourX, firstL, zR, bs]; done) | (simp_all [fourL, fourX, firstL, zR, bs]; omega))
theorem mworks_ok : ACall pg 6 [] (B true) := by
  refine s6.call mo (by simp) fun hxs => ?_
  clear hxs
  have hpre := gm_inv.pre (by decide)
  have hbk : gm.Brk := ⟨gm_inv.bs, fun b hb => by have := gm_inv.br b hb; omega, by have := gm_inv.bl; omega⟩
  have hbl := gm_inv.bl
  have sp : fp.Small := ⟨by decide, by decide, by decide, by decide⟩
  have sq : gq.Small := ⟨by decide, by decide, by decide, by decide⟩
  have sq2 : gq2.Small := ⟨by decide, by decide, by decide, by decide⟩
  have sx : gx.Small := ⟨by decide, by decide, by decide, by decide⟩
  have bp : ∀ n ∈ fp.ids, big62 n := by decide
  have bq : ∀ n ∈ gq.ids, big62 n := by decide
  have bq2 : ∀ n ∈ gq2.ids, big62 n := by decide
  have ep : 0 ≤ fp.epoch ∧ fp.epoch ≤ 1000000 := by decide
  have eq : 0 ≤ gq.epoch ∧ gq.epoch ≤ 1000000 := by decide
  have eq2 : 0 ≤ gq2.epoch ∧ gq2.epoch ≤ 1000000 := by decide
  have hall : ∀ t ∈ gm.topics, ∀ p ∈ t.parts, p = fp := by rw [gm_topics]; intro t ht p hp; simp at ht; subst ht; simpa using hp
  have hsm : gm.Sml := ⟨hpre.tl, hpre.pl, fun t ht p hp => by rw [hall t ht p hp]; exact sp⟩
  have h1 := made_ok fourL (by decide)
  have h2 := part_ok gm 1 0
  rw [gm_part] at h2
  have h3 := start_walk gm fp [3, 2] (by omega) sp (by decide) (by decide)
  rw [gm_startE, gm_startP] at h3
  have h4 := finish_ok gm gq hbk sq bq eq
  rw [gm_finish] at h4
  have h5 := cancel_ok gm gq hbk sq bq eq
  rw [gm_cancelE, gm_cancelP] at h5
  have h6 := finish_ok gm gq2 hbk sq2 bq2 eq2
  rw [gm_finish2] at h6
  have h7 := start_walk gm fp [1, 2] (by omega) sp (by decide) (by decide)
  have hf : errE (some (Er.fault tgt 2 (.code 9))) = errF tgt 2 9 := (errO_E (some (tgt, 2, 9))).symm
  rw [gm_start1E, gm_start1P, hf] at h7
  have h8 := cancel_ok gm fp hbk sp bp ep
  rw [gm_cancel1E, gm_cancel1P] at h8
  have qd : Req := ⟨0, 0, 5, bs [116], bs [], bs [], false, 0, 0, 0, [4], 0, 0, bs [], 0, 0, 0, false, false⟩
  have ha : gm.at ⟨0, 0, 5, bs [116], bs [], bs [], false, 0, 0, 0, [4], 0, 0, bs [], 0, 0, 0, false, false⟩ = some (⟨1, bs [116], [fp]⟩, 0, fp) := by kernel_rfl
  have haE : gm.atE ⟨0, 0, 5, bs [116], bs [], bs [], false, 0, 0, 0, [4], 0, 0, bs [], 0, 0, 0, false, false⟩ = none := by kernel_rfl
  have haP : gm.atP ⟨0, 0, 5, bs [116], bs [], bs [], false, 0, 0, 0, [4], 0, 0, bs [], 0, 0, 0, false, false⟩ = fp := by kernel_rfl
  have hdE : gm.doE ⟨0, 0, 5, bs [116], bs [], bs [], false, 0, 0, 0, [4], 0, 0, bs [], 0, 0, 0, false, false⟩ = none := by kernel_rfl
  have hdL : gm.doL ⟨0, 0, 5, bs [116], bs [], bs [], false, 0, 0, 0, [4], 0, 0, bs [], 0, 0, 0, false, false⟩ = [change 1 0 gx] := by kernel_rfl
  have h9 := do_c gm ⟨0, 0, 5, bs [116], bs [], bs [], false, 0, 0, 0, [4], 0, 0, bs [], 0, 0, 0, false, false⟩ rfl haE (by have := hpre.tl; omega) (fun t ht => by have := hpre.pl t ht; omega) (by rw [haP]; exact start_walk gm fp [4] (by omega) sp (by decide) (by decide)) (by rw [haP]; show (gm.startP fp [4]).Small; rw [gm_start4P]; exact sx) (by decide)
  rw [hdE, hdL] at h9
  have h10 := due_ok gm hbk hsm (fun t ht p hp => by rw [hall t ht p hp]; exact bp) (fun t ht p hp => by rw [hall t ht p hp]; exact ep) (fun t ht p hp => by rw [hall t ht p hp, gm_finishp]; exact sp)
  rw [gm_due] at h10
  have h11 := left_ok gm hsm
  rw [gm_left] at h11
  have h12 := under_ok gq2
  rw [show gq2.under = true from rfl] at h12
  have h13 := mtarget_ok gq2 sq2
  rw [show minus gq2.ids gq2.drop = [3, 2] from rfl] at h13
  have hie (a : List Int) : ACall pg 26 [Li a, Li a] (B true) := by
    have := ints_ok a a
    rwa [show (a == a) = true from by simp] at this
  have h14 := hie [2, 1]
  have h15 := hie [3, 2]
  unfold c6; dsimp only [oA, oC, oD, oF, oG, oK, oL, oM, oN, oQ, oS, oW, oX, oZ]
  clear hall hsm hpre hbl sp sq sq2 sx bp bq bq2 ep eq eq2 qd ha haE haP hdE hdL hf hie
  simp only [fp, gq, gb, gq2, gr, gx, encP_eq] at h2 h3 h4 h5 h6 h7 h8 h12 h13
  repeat' first | (with_reducible first | refine awRet ?_) | ((with_reducible refine awReg fun K hok hK => ?_); clear hok; (try simp (maxSteps := 10000000) (disch := first | omega | simp) [isConst]); (repeat' first | (with_reducible refine hK _ (by simp) ?_) | ((first | ((with_reducible refine callS' fun K2 hK2 => ?_); (try simp (maxSteps := 10000000) (disch := first | omega | simp) [isConst]); (first | refine hK2 _ _ four_ok rfl fun hk9 => ?_ | refine hK2 _ _ h1 rfl fun hk9 => ?_ | refine hK2 _ _ h2 rfl fun hk9 => ?_ | refine hK2 _ _ h3 rfl fun hk9 => ?_ | refine hK2 _ _ h4 rfl fun hk9 => ?_ | refine hK2 _ _ h5 rfl fun hk9 => ?_ | refine hK2 _ _ h6 rfl fun hk9 => ?_ | refine hK2 _ _ h7 rfl fun hk9 => ?_ | refine hK2 _ _ h8 rfl fun hk9 => ?_ | refine hK2 _ _ h9 rfl fun hk9 => ?_ | refine hK2 _ _ h10 rfl fun hk9 => ?_ | refine hK2 _ _ h11 rfl fun hk9 => ?_ | refine hK2 _ _ h12 rfl fun hk9 => ?_ | refine hK2 _ _ h13 rfl fun hk9 => ?_ | refine hK2 _ _ h14 rfl fun hk9 => ?_ | refine hK2 _ _ h15 rfl fun hk9 => ?_ | refine hK2 _ _ (isF_ok _ _ _ _) rfl fun hk9 => ?_); clear hk9; clear hK2 K2) | ((with_reducible refine callF' fun K2 hK2 => ?_); (try simp (maxSteps := 10000000) (disch := first | omega | simp) [isConst]); (first | refine hK2 _ _ _ four_ok fun _ => ?_ | refine hK2 _ _ _ h1 fun _ => ?_ | refine hK2 _ _ _ h2 fun _ => ?_ | refine hK2 _ _ _ h3 fun _ => ?_ | refine hK2 _ _ _ h4 fun _ => ?_ | refine hK2 _ _ _ h5 fun _ => ?_ | refine hK2 _ _ _ h6 fun _ => ?_ | refine hK2 _ _ _ h7 fun _ => ?_ | refine hK2 _ _ _ h8 fun _ => ?_ | refine hK2 _ _ _ h9 fun _ => ?_ | refine hK2 _ _ _ h10 fun _ => ?_ | refine hK2 _ _ _ h11 fun _ => ?_ | refine hK2 _ _ _ h12 fun _ => ?_ | refine hK2 _ _ _ h13 fun _ => ?_ | refine hK2 _ _ _ h14 fun _ => ?_ | refine hK2 _ _ _ h15 fun _ => ?_ | refine hK2 _ _ _ (isF_ok _ _ _ _) fun _ => ?_); clear hK2 K2)); (try simp (maxSteps := 10000000) (disch := first | omega | simp) [isConst]))) <;> clear hK K) | ((with_reducible refine awCond fun A B hA hB => ?_); simp (maxSteps := 10000000) (disch := first | omega | simp) [isConst]; (first | refine ⟨fun h => hA ?_, fun h => hB ?_⟩ | refine hA ?_ | refine hB ?_) <;> (clear hA hB A B; (try (exfalso; omega))))
  all_goals (refine aEnR (aRes [] fun K hK => ?_); simp (maxSteps := 10000000) (disch := first | omega | simp) []; refine hK _ ?_ (by simp); simp (maxSteps := 10000000) (disch := first | omega | simp) [])
end
end Go.Am
