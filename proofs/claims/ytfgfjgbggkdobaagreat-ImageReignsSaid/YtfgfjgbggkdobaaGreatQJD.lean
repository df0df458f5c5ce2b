/- Part of the proof of a law of the image. -/
import Derived.Test.YtfgfjgbggkdobaaGreatQAR
import Derived.Test.YtfgfjgbggkdobaaGreatQIB
import Derived.Test.YtfgfjgbggkdobaaGreatQJA
import Derived.Test.YtfgfjgbggkdobaaGreatQJB
import Derived.Test.YtfgfjgbggkdobaaGreatQJC
import Derived.Test.YtfgfjgbggkdobaaGreatQMN
import Derived.Test.YtfgfjgbggkdobaaGreatQPU
import Derived.Test.YtfgfjgbggkdobaaGreatQW0
set_option linter.all false
section
set_option maxRecDepth 100000
set_option maxHeartbeats 0
namespace Go.Am
open Go
noncomputable section
def c7 : SC := (.seq (.reg [oO 2 30 0,oO 3 37 1,oA 4 30,oD 5 (.assign (.const .nilIface))] [2,3,4,17,54]) (.seq (.reg [oL 9 37 3,oC 10 20 #[.tmp 9] #[37],oG 6 10] [2,3,4,6,10,17,54]) (.seq (.reg [oM 11 6,oD 12 (.binOp .neq 32 (.tmp 11) (.const .nilIface) 32)] [2,3,4,6,10,12,17,54]) (.seq (.cond (.tmp 12) (.seq (.reg [oU (oL 13 30 2) [14,15,16,17],oU (oF 14 37 3 0) [13,16],oU (oL 15 3 14) [13,16],oU (oM 16 6) [13,14,15],oU (oD 17 (.call { callee := .value (.func 21),args := #[.const (.string ⟨#[114,101,99,111,114,100]⟩),.tmp 15,.tmp 16],argTypes := #[9,3,32] })) [13],oS 30 4 13,oG 5 17] [4,5,17,54]) .ret) .skip) (.seq (.reg [oL 18 30 2,oC 19 22 #[.tmp 18] #[30],oA 7 30,oS 30 7 19] [2,3,4,7,17,54]) (.seq (.reg [oD 8 (.assign (.const .nilIface))] [2,3,4,7,8,17,29,34,39,43,47,54]) (.seq (.reg [oF 20 37 3 0,oL 21 3 20] [2,3,4,7,8,17,20,21,29,34,39,43,47,54]) (.seq (.block 0 (.seq (.reg [oK 23 .eql 3 21 2 3,oG 22 23] [2,3,4,7,8,17,20,21,22,23,24,25,26,27,29,34,39,43,47,54]) (.seq (.cond (.tmp 22) .skip (.seq (.reg [oK 24 .eql 3 21 3 3,oG 22 24] [2,3,4,7,8,17,20,21,22,23,24,25,26,27,29,34,39,43,47,54]) (.seq (.cond (.tmp 22) .skip (.seq (.reg [oK 25 .eql 3 21 4 3,oG 22 25] [2,3,4,7,8,17,20,21,22,23,24,25,26,27,29,34,39,43,47,54]) (.seq (.cond (.tmp 22) .skip (.seq (.reg [oK 26 .eql 3 21 5 3,oG 22 26] [2,3,4,7,8,17,20,21,22,23,24,25,26,27,29,34,39,43,47,54]) (.seq (.cond (.tmp 22) .skip (.seq (.reg [oK 27 .eql 3 21 6 3,oG 22 27] [2,3,4,7,8,17,20,21,22,23,24,25,26,27,29,34,39,43,47,54]) .skip)) .skip))) .skip))) .skip))) (.seq (.cond (.tmp 22) (.seq (.reg [oL 28 37 3,oC 29 23 #[.tmp 7,.tmp 28] #[61,37],oG 8 29] [2,3,4,7,8,17,29,34,39,43,47,54]) .skip) (.seq (.reg [oK 31 .eql 3 21 8 3,oG 30 31] [2,3,4,7,8,17,20,21,29,30,31,32,34,39,43,47,54]) (.seq (.cond (.tmp 30) .skip (.seq (.reg [oK 32 .eql 3 21 9 3,oG 30 32] [2,3,4,7,8,17,20,21,29,30,31,32,34,39,43,47,54]) .skip)) (.seq (.cond (.tmp 30) (.seq (.reg [oL 33 37 3,oC 34 24 #[.tmp 7,.tmp 33] #[61,37],oG 8 34] [2,3,4,7,8,17,29,34,39,43,47,54]) .skip) (.seq (.reg [oK 36 .eql 3 21 7 3,oG 35 36] [2,3,4,7,8,17,20,21,29,34,35,36,37,39,43,47,54]) (.seq (.cond (.tmp 35) .skip (.seq (.reg [oK 37 .eql 3 21 11 3,oG 35 37] [2,3,4,7,8,17,20,21,29,34,35,36,37,39,43,47,54]) .skip)) (.seq (.cond (.tmp 35) (.seq (.reg [oL 38 37 3,oC 39 25 #[.tmp 7,.tmp 38] #[61,37],oG 8 39] [2,3,4,7,8,17,29,34,39,43,47,54]) .skip) (.seq (.reg [oK 41 .eql 3 21 10 3,oG 40 41] [2,3,4,7,8,17,20,21,29,34,39,40,41,43,47,54]) (.seq (.cond (.tmp 40) (.seq (.reg [oL 42 37 3,oC 43 26 #[.tmp 7,.tmp 42] #[61,37],oG 8 43] [2,3,4,7,8,17,29,34,39,43,47,54]) .skip) (.seq (.reg [oK 45 .eql 3 21 12 3,oG 44 45] [2,3,4,7,8,17,29,34,39,43,44,45,47,54]) (.seq (.cond (.tmp 44) (.seq (.reg [oL 46 37 3,oC 47 27 #[.tmp 7,.tmp 46] #[61,37],oG 8 47] [2,3,4,7,8,17,29,34,39,43,47,54]) .skip) .skip) .skip))) .skip))) .skip)))) .skip)))) .skip)))) (.seq (.reg [oM 48 8,oD 49 (.binOp .neq 32 (.tmp 48) (.const .nilIface) 32)] [2,3,4,7,8,17,29,34,39,43,47,49,54]) (.seq (.cond (.tmp 49) (.seq (.reg [oU (oL 50 30 2) [51,52,53,54],oU (oF 51 37 3 0) [50,53],oU (oL 52 3 51) [50,53],oU (oM 53 8) [50,51,52],oU (oD 54 (.call { callee := .value (.func 21),args := #[.const (.string ⟨#[97,112,112,108,121]⟩),.tmp 52,.tmp 53],argTypes := #[9,3,32] })) [50],oS 30 4 50,oG 5 54] [4,5,17,54]) .ret) .skip) (.seq (.reg [oL 55 30 7,oS 30 4 55,oD 5 (.assign (.const .nilIface))] [4,5,17,54]) .ret)))))))))))
theorem s7 : TextK Proofs.Tryz.prog 0 7 56 [ResultVar.cell 4 30, ResultVar.tmp 5] c7 := .mk' Proofs.Tryz.f7 _ (by kernel_rfl) rfl rfl rfl (by kernel_rfl) rfl (by kernel_rfl)
structure ApPre (m : Image) (r : Record) : Prop where
  pre : m.Pre
  small : ∀ t ∈ m.topics, ∀ p ∈ t.parts, p.Small
abbrev rcd : ByteArray := bs [114, 101, 99, 111, 114, 100]
abbrev apl : ByteArray := bs [97, 112, 112, 108, 121]
theorem apply_bad (m : Image) (r : Record) {b : Bad} (hr : ACall pg 20 [encR r] (errO (some b))) (hbc : b.2.2 ≠ 0) : ∃ E : Option Er, ACall pg 7 [encM m, encR r] (.tup [encM m, errE E]) ∧ cdE E = b.2.2 ∧ E.isSome = true := by
  obtain ⟨op, a, c⟩ := b
  have hwr := wrap_ok rcd r.kind (some (Er.fault op a (.code c)))
  have hf2 : errE (some (Er.fault op a (.code c))) = errF op a c := (errO_E (some (op, a, c))).symm
  rw [hf2] at hwr
  obtain ⟨ty, v, he⟩ := encE_if (.fault rcd r.kind (Er.fault op a (.code c)))
  simp only [Option.map_some, errE_some, he] at hwr
  refine ⟨some (.fault rcd r.kind (Er.fault op a (.code c))), ?_, by simp only [cdE, Er.cd]; rw [if_neg hbc], rfl⟩
  simp only [errE_some, he]
  refine s7.call mo (by simp) fun hxs => ?_
  clear hxs
  unfold c7; dsimp only [oA, oC, oD, oF, oG, oK, oL, oM, oO, oS, oU]
  have F := trivial
  refine wkF ?_
  exact fn1
end
end Go.Am
end
section
set_option maxRecDepth 100000
set_option maxHeartbeats 0
namespace Go.Am
open Go
noncomputable section
theorem apply_ok2 (m : Image) (r : Record) (h : ApPre m r) (hr : ACall pg 20 [encR r] (.c .nilIface)) (hk : r.kind = 2) {cs : List V} {m' : Image} (hT : ACallM pg 23 [.own (cellsO m)] [encR r] (.c .nilIface) [.own cs]) (hpv : pvL cs = cellsM m') : ACall pg 7 [encM m, encR r] (.tup [encM m', .c .nilIface]) := by
  have hcp := copy_ok m h.pre h.small
  refine s7.call mo (by simp) fun hxs => ?_
  clear hxs
  have q2 : (r.kind == 2) = true := by simp [hk]
  have q3 : (r.kind == 3) = false := by simp [hk]
  have q4 : (r.kind == 4) = false := by simp [hk]
  have q5 : (r.kind == 5) = false := by simp [hk]
  have q6 : (r.kind == 6) = false := by simp [hk]
  have q7 : (r.kind == 7) = false := by simp [hk]
  have q8 : (r.kind == 8) = false := by simp [hk]
  have q9 : (r.kind == 9) = false := by simp [hk]
  have q10 : (r.kind == 10) = false := by simp [hk]
  have q11 : (r.kind == 11) = false := by simp [hk]
  have q12 : (r.kind == 12) = false := by simp [hk]
  simp only [cellsO_eq] at hT
  unfold c7; dsimp only [oA, oC, oD, oF, oG, oK, oL, oM, oO, oS, oU]
  repeat' first | (with_reducible first | refine thN ?_ | refine inN ?_ | refine fS ?_ | refine fR ?_ | refine fQ ?_ | refine awBlock ?_ | refine awRet ?_ | refine awSkip ?_) | ((with_reducible refine awReg fun K hok hK => ?_); clear hok; (try simp (maxSteps := 10000000) (disch := first | omega | simp) [q2, q3, q4, q5, q6, q7, q8, q9, q10, q11, q12, isConst]); (repeat' first | (with_reducible refine hK _ (by simp) ?_) | ((first | ((with_reducible refine callS' fun K2 hK2 => ?_); (try simp (maxSteps := 10000000) (disch := first | omega | simp) [q2, q3, q4, q5, q6, q7, q8, q9, q10, q11, q12, isConst]); (first | refine hK2 _ _ hr rfl fun hk9 => ?_ | refine hK2 _ _ hcp rfl fun hk9 => ?_ | refine hK2 _ _ hT rfl fun hk9 => ?_); clear hk9; clear hK2 K2) | ((with_reducible refine callF' fun K2 hK2 => ?_); (try simp (maxSteps := 10000000) (disch := first | omega | simp) [q2, q3, q4, q5, q6, q7, q8, q9, q10, q11, q12, isConst]); (first | refine hK2 _ _ _ hr fun _ => ?_ | refine hK2 _ _ _ hcp fun _ => ?_ | refine hK2 _ _ _ hT fun _ => ?_); clear hK2 K2) | ((with_reducible refine callM' rfl fun K2 hK2 => ?_); (try simp (maxSteps := 10000000) (disch := first | omega | simp) [q2, q3, q4, q5, q6, q7, q8, q9, q10, q11, q12, isConst]); (first | refine hK2 _ _ _ _ _ _ _ hr rfl fun _ _ => ?_ | refine hK2 _ _ _ _ _ _ _ hcp rfl fun _ _ => ?_ | refine hK2 _ _ _ _ _ _ _ hT rfl fun _ _ => ?_); clear hK2 K2)); (try simp (maxSteps := 10000000) (disch := first | omega | simp) [q2, q3, q4, q5, q6, q7, q8, q9, q10, q11, q12, isConst]))) <;> clear hK K) | ((with_reducible refine awCond fun A B hA hB => ?_); simp (maxSteps := 10000000) (disch := first | omega | simp) [q2, q3, q4, q5, q6, q7, q8, q9, q10, q11, q12, isConst]; (first | refine ⟨fun h => hA ?_, fun h => hB ?_⟩ | refine hA ?_ | refine hB ?_) <;> (clear hA hB A B; (try (exfalso; omega))))
  refine awWk (ofA [(4, .p (.own [.uq [], .uq [], .uq [], .uq [], I 0])), (7, .p (.ip (cellsM m') 0))]) ((Wk.frzB (r := 7) rfl).trans (Wk.ofA (by simp [hpv]))) ?_
  clear hpv
  repeat' first | (with_reducible first | refine thN ?_ | refine inN ?_ | refine fS ?_ | refine fR ?_ | refine fQ ?_ | refine awBlock ?_ | refine awRet ?_ | refine awSkip ?_) | ((with_reducible refine awReg fun K hok hK => ?_); clear hok; (try simp (maxSteps := 10000000) (disch := first | omega | simp) []); (repeat' first | (with_reducible refine hK _ (by simp) ?_)) <;> clear hK K) | ((with_reducible refine awCond fun A B hA hB => ?_); simp (maxSteps := 10000000) (disch := first | omega | simp) []; (first | refine ⟨fun h => hA ?_, fun h => hB ?_⟩ | refine hA ?_ | refine hB ?_) <;> (clear hA hB A B; (try (exfalso; omega))))
  (refine aEnR (aRes [true] fun K hK => ?_); simp (maxSteps := 10000000) (disch := first | omega | simp) []; refine hK _ ?_ (by simp); clear hK; first | done | (simp (maxSteps := 10000000) (disch := first | omega | simp) [*]; done) | (simp (maxSteps := 10000000) (disch := first | omega | simp) [*]; omega) | (simp_all []; done) | (simp_all []; omega))
theorem apply_no2 (m : Image) (r : Record) (h : ApPre m r) (hr : ACall pg 20 [encR r] (.c .nilIface)) (hk : r.kind = 2) {cs : List V} {e : Er} (hT : ACallM pg 23 [.own (cellsO m)] [encR r] (errE (some e)) [.own cs]) : ACall pg 7 [encM m, encR r] (.tup [encM m, errE (some (.fault apl r.kind e))]) := by
  have hcp := copy_ok m h.pre h.small
  have hwr := wrap_ok apl r.kind (some e)
  obtain ⟨ty, v, he⟩ := encE_if e
  obtain ⟨ty2, v2, he2⟩ := encE_if (.fault apl r.kind e)
  simp only [Option.map_some, errE_some, he, he2] at hwr hT ⊢
  refine s7.call mo (by simp) fun hxs => ?_
  clear hxs
  have q2 : (r.kind == 2) = true := by simp [hk]
  have q3 : (r.kind == 3) = false := by simp [hk]
  have q4 : (r.kind == 4) = false := by simp [hk]
  have q5 : (r.kind == 5) = false := by simp [hk]
  have q6 : (r.kind == 6) = false := by simp [hk]
  have q7 : (r.kind == 7) = false := by simp [hk]
  have q8 : (r.kind == 8) = false := by simp [hk]
  have q9 : (r.kind == 9) = false := by simp [hk]
  have q10 : (r.kind == 10) = false := by simp [hk]
  have q11 : (r.kind == 11) = false := by simp [hk]
  have q12 : (r.kind == 12) = false := by simp [hk]
  simp only [cellsO_eq] at hT
  unfold c7; dsimp only [oA, oC, oD, oF, oG, oK, oL, oM, oO, oS, oU]
  repeat' first | (with_reducible first | refine thN ?_ | refine inN ?_ | refine fS ?_ | refine fR ?_ | refine fQ ?_ | refine fT ?_ | refine awBlock ?_ | refine awRet ?_ | refine awSkip ?_) | ((with_reducible refine awReg fun K hok hK => ?_); clear hok; (try simp (maxSteps := 10000000) (disch := first | omega | simp) [q2, q3, q4, q5, q6, q7, q8, q9, q10, q11, q12, isConst]); (repeat' first | (with_reducible refine hK _ (by simp) ?_) | ((first | ((with_reducible refine callS' fun K2 hK2 => ?_); (try simp (maxSteps := 10000000) (disch := first | omega | simp) [q2, q3, q4, q5, q6, q7, q8, q9, q10, q11, q12, isConst]); (first | refine hK2 _ _ hr rfl fun hk9 => ?_ | refine hK2 _ _ hcp rfl fun hk9 => ?_ | refine hK2 _ _ hT rfl fun hk9 => ?_ | refine hK2 _ _ hwr rfl fun hk9 => ?_); clear hk9; clear hK2 K2) | ((with_reducible refine callF' fun K2 hK2 => ?_); (try simp (maxSteps := 10000000) (disch := first | omega | simp) [q2, q3, q4, q5, q6, q7, q8, q9, q10, q11, q12, isConst]); (first | refine hK2 _ _ _ hr fun _ => ?_ | refine hK2 _ _ _ hcp fun _ => ?_ | refine hK2 _ _ _ hT fun _ => ?_ | refine hK2 _ _ _ hwr fun _ => ?_); clear hK2 K2) | ((with_reducible refine sideS' fun K2 hK2 => ?_); (try simp (maxSteps := 10000000) (disch := first | omega | simp) [q2, q3, q4, q5, q6, q7, q8, q9, q10, q11, q12, isConst]); (first | refine hK2 _ _ (hr) rfl ?_ | refine hK2 _ _ (hcp) rfl ?_ | refine hK2 _ _ (hT) rfl ?_ | refine hK2 _ _ (hwr) rfl ?_); clear hK2 K2) | ((with_reducible refine callM' rfl fun K2 hK2 => ?_); (try simp (maxSteps := 10000000) (disch := first | omega | simp) [q2, q3, q4, q5, q6, q7, q8, q9, q10, q11, q12, isConst]); (first | refine hK2 _ _ _ _ _ _ _ hr rfl fun _ _ => ?_ | refine hK2 _ _ _ _ _ _ _ hcp rfl fun _ _ => ?_ | refine hK2 _ _ _ _ _ _ _ hT rfl fun _ _ => ?_ | refine hK2 _ _ _ _ _ _ _ hwr rfl fun _ _ => ?_); clear hK2 K2) | ((with_reducible refine sideQ' ?_ ?_ fun K2 hK2 => ?_); exact rfl; exact rfl; (try simp (maxSteps := 10000000) (disch := first | omega | simp) [q2, q3, q4, q5, q6, q7, q8, q9, q10, q11, q12, isConst]); with_reducible refine hK2 _ _ ?_; clear hK2 K2)); (try simp (maxSteps := 10000000) (disch := first | omega | simp) [q2, q3, q4, q5, q6, q7, q8, q9, q10, q11, q12, isConst]))) <;> clear hK K) | ((with_reducible refine awCond fun A B hA hB => ?_); simp (maxSteps := 10000000) (disch := first | omega | simp) [q2, q3, q4, q5, q6, q7, q8, q9, q10, q11, q12, isConst]; (first | refine ⟨fun h => hA ?_, fun h => hB ?_⟩ | refine hA ?_ | refine hB ?_) <;> (clear hA hB A B; (try (exfalso; omega))))
  (refine aEnR (aRes [true] fun K hK => ?_); simp (maxSteps := 10000000) (disch := first | omega | simp) []; refine hK _ ?_ (by simp); clear hK; first | done | (simp (maxSteps := 10000000) (disch := first | omega | simp) [*]; done) | (simp (maxSteps := 10000000) (disch := first | omega | simp) [*]; omega) | (simp_all []; done) | (simp_all []; omega))
theorem apply_ok3 (m : Image) (r : Record) (h : ApPre m r) (hr : ACall pg 20 [encR r] (.c .nilIface)) (hk : r.kind = 3) {cs : List V} {m' : Image} (hT : ACallM pg 23 [.own (cellsO m)] [encR r] (.c .nilIface) [.own cs]) (hpv : pvL cs = cellsM m') : ACall pg 7 [encM m, encR r] (.tup [encM m', .c .nilIface]) := by
  have hcp := copy_ok m h.pre h.small
  refine s7.call mo (by simp) fun hxs => ?_
  clear hxs
  have q2 : (r.kind == 2) = false := by simp [hk]
  have q3 : (r.kind == 3) = true := by simp [hk]
  have q4 : (r.kind == 4) = false := by simp [hk]
  have q5 : (r.kind == 5) = false := by simp [hk]
  have q6 : (r.kind == 6) = false := by simp [hk]
  have q7 : (r.kind == 7) = false := by simp [hk]
  have q8 : (r.kind == 8) = false := by simp [hk]
  have q9 : (r.kind == 9) = false := by simp [hk]
  have q10 : (r.kind == 10) = false := by simp [hk]
  have q11 : (r.kind == 11) = false := by simp [hk]
  have q12 : (r.kind == 12) = false := by simp [hk]
  simp only [cellsO_eq] at hT
  unfold c7; dsimp only [oA, oC, oD, oF, oG, oK, oL, oM, oO, oS, oU]
  repeat' first | (with_reducible first | refine thN ?_ | refine inN ?_ | refine fF ?_ | refine fS ?_ | refine fR ?_ | refine fQ ?_ | refine fC ?_ | refine awBlock ?_ | refine awRet ?_ | refine awSkip ?_) | ((with_reducible refine awReg fun K hok hK => ?_); clear hok; (try simp (maxSteps := 10000000) (disch := first | omega | simp) [q2, q3, q4, q5, q6, q7, q8, q9, q10, q11, q12, isConst]); (repeat' first | (with_reducible refine hK _ (by simp) ?_) | ((first | ((with_reducible refine callS' fun K2 hK2 => ?_); (try simp (maxSteps := 10000000) (disch := first | omega | simp) [q2, q3, q4, q5, q6, q7, q8, q9, q10, q11, q12, isConst]); (first | refine hK2 _ _ hr rfl fun hk9 => ?_ | refine hK2 _ _ hcp rfl fun hk9 => ?_ | refine hK2 _ _ hT rfl fun hk9 => ?_); clear hk9; clear hK2 K2) | ((with_reducible refine callF' fun K2 hK2 => ?_); (try simp (maxSteps := 10000000) (disch := first | omega | simp) [q2, q3, q4, q5, q6, q7, q8, q9, q10, q11, q12, isConst]); (first | refine hK2 _ _ _ hr fun _ => ?_ | refine hK2 _ _ _ hcp fun _ => ?_ | refine hK2 _ _ _ hT fun _ => ?_); clear hK2 K2) | ((with_reducible refine callM' rfl fun K2 hK2 => ?_); (try simp (maxSteps := 10000000) (disch := first | omega | simp) [q2, q3, q4, q5, q6, q7, q8, q9, q10, q11, q12, isConst]); (first | refine hK2 _ _ _ _ _ _ _ hr rfl fun _ _ => ?_ | refine hK2 _ _ _ _ _ _ _ hcp rfl fun _ _ => ?_ | refine hK2 _ _ _ _ _ _ _ hT rfl fun _ _ => ?_); clear hK2 K2)); (try simp (maxSteps := 10000000) (disch := first | omega | simp) [q2, q3, q4, q5, q6, q7, q8, q9, q10, q11, q12, isConst]))) <;> clear hK K) | ((with_reducible refine awCond fun A B hA hB => ?_); simp (maxSteps := 10000000) (disch := first | omega | simp) [q2, q3, q4, q5, q6, q7, q8, q9, q10, q11, q12, isConst]; (first | refine ⟨fun h => hA ?_, fun h => hB ?_⟩ | refine hA ?_ | refine hB ?_) <;> (clear hA hB A B; (try (exfalso; omega))))
  refine awWk (ofA [(4, .p (.own [.uq [], .uq [], .uq [], .uq [], I 0])), (7, .p (.ip (cellsM m') 0))]) ((Wk.frzB (r := 7) rfl).trans (Wk.ofA (by simp [hpv]))) ?_
  clear hpv
  repeat' first | (with_reducible first | refine thN ?_ | refine inN ?_ | refine fF ?_ | refine fS ?_ | refine fR ?_ | refine fQ ?_ | refine fC ?_ | refine awBlock ?_ | refine awRet ?_ | refine awSkip ?_) | ((with_reducible refine awReg fun K hok hK => ?_); clear hok; (try simp (maxSteps := 10000000) (disch := first | omega | simp) []); (repeat' first | (with_reducible refine hK _ (by simp) ?_)) <;> clear hK K) | ((with_reducible refine awCond fun A B hA hB => ?_); simp (maxSteps := 10000000) (disch := first | omega | simp) []; (first | refine ⟨fun h => hA ?_, fun h => hB ?_⟩ | refine hA ?_ | refine hB ?_) <;> (clear hA hB A B; (try (exfalso; omega))))
  (refine aEnR (aRes [true] fun K hK => ?_); simp (maxSteps := 10000000) (disch := first | omega | simp) []; refine hK _ ?_ (by simp); clear hK; first | done | (simp (maxSteps := 10000000) (disch := first | omega | simp) [*]; done) | (simp (maxSteps := 10000000) (disch := first | omega | simp) [*]; omega) | (simp_all []; done) | (simp_all []; omega))
theorem apply_no3 (m : Image) (r : Record) (h : ApPre m r) (hr : ACall pg 20 [encR r] (.c .nilIface)) (hk : r.kind = 3) {cs : List V} {e : Er} (hT : ACallM pg 23 [.own (cellsO m)] [encR r] (errE (some e)) [.own cs]) : ACall pg 7 [encM m, encR r] (.tup [encM m, errE (some (.fault apl r.kind e))]) := by
  have hcp := copy_ok m h.pre h.small
  have hwr := wrap_ok apl r.kind (some e)
  obtain ⟨ty, v, he⟩ := encE_if e
  obtain ⟨ty2, v2, he2⟩ := encE_if (.fault apl r.kind e)
  simp only [Option.map_some, errE_some, he, he2] at hwr hT ⊢
  refine s7.call mo (by simp) fun hxs => ?_
  clear hxs
  have q2 : (r.kind == 2) = false := by simp [hk]
  have q3 : (r.kind == 3) = true := by simp [hk]
  have q4 : (r.kind == 4) = false := by simp [hk]
  have q5 : (r.kind == 5) = false := by simp [hk]
  have q6 : (r.kind == 6) = false := by simp [hk]
  have q7 : (r.kind == 7) = false := by simp [hk]
  have q8 : (r.kind == 8) = false := by simp [hk]
  have q9 : (r.kind == 9) = false := by simp [hk]
  have q10 : (r.kind == 10) = false := by simp [hk]
  have q11 : (r.kind == 11) = false := by simp [hk]
  have q12 : (r.kind == 12) = false := by simp [hk]
  simp only [cellsO_eq] at hT
  unfold c7; dsimp only [oA, oC, oD, oF, oG, oK, oL, oM, oO, oS, oU]
  repeat' first | (with_reducible first | refine thN ?_ | refine inN ?_ | refine fF ?_ | refine fS ?_ | refine fR ?_ | refine fQ ?_ | refine fC ?_ | refine fT ?_ | refine awBlock ?_ | refine awRet ?_ | refine awSkip ?_) | ((with_reducible refine awReg fun K hok hK => ?_); clear hok; (try simp (maxSteps := 10000000) (disch := first | omega | simp) [q2, q3, q4, q5, q6, q7, q8, q9, q10, q11, q12, isConst]); (repeat' first | (with_reducible refine hK _ (by simp) ?_) | ((first | ((with_reducible refine callS' fun K2 hK2 => ?_); (try simp (maxSteps := 10000000) (disch := first | omega | simp) [q2, q3, q4, q5, q6, q7, q8, q9, q10, q11, q12, isConst]); (first | refine hK2 _ _ hr rfl fun hk9 => ?_ | refine hK2 _ _ hcp rfl fun hk9 => ?_ | refine hK2 _ _ hT rfl fun hk9 => ?_ | refine hK2 _ _ hwr rfl fun hk9 => ?_); clear hk9; clear hK2 K2) | ((with_reducible refine callF' fun K2 hK2 => ?_); (try simp (maxSteps := 10000000) (disch := first | omega | simp) [q2, q3, q4, q5, q6, q7, q8, q9, q10, q11, q12, isConst]); (first | refine hK2 _ _ _ hr fun _ => ?_ | refine hK2 _ _ _ hcp fun _ => ?_ | refine hK2 _ _ _ hT fun _ => ?_ | refine hK2 _ _ _ hwr fun _ => ?_); clear hK2 K2) | ((with_reducible refine sideS' fun K2 hK2 => ?_); (try simp (maxSteps := 10000000) (disch := first | omega | simp) [q2, q3, q4, q5, q6, q7, q8, q9, q10, q11, q12, isConst]); (first | refine hK2 _ _ (hr) rfl ?_ | refine hK2 _ _ (hcp) rfl ?_ | refine hK2 _ _ (hT) rfl ?_ | refine hK2 _ _ (hwr) rfl ?_); clear hK2 K2) | ((with_reducible refine callM' rfl fun K2 hK2 => ?_); (try simp (maxSteps := 10000000) (disch := first | omega | simp) [q2, q3, q4, q5, q6, q7, q8, q9, q10, q11, q12, isConst]); (first | refine hK2 _ _ _ _ _ _ _ hr rfl fun _ _ => ?_ | refine hK2 _ _ _ _ _ _ _ hcp rfl fun _ _ => ?_ | refine hK2 _ _ _ _ _ _ _ hT rfl fun _ _ => ?_ | refine hK2 _ _ _ _ _ _ _ hwr rfl fun _ _ => ?_); clear hK2 K2) | ((with_reducible refine sideQ' ?_ ?_ fun K2 hK2 => ?_); exact rfl; exact rfl; (try simp (maxSteps := 10000000) (disch := first | omega | simp) [q2, q3, q4, q5, q6, q7, q8, q9, q10, q11, q12, isConst]); with_reducible refine hK2 _ _ ?_; clear hK2 K2)); (try simp (maxSteps := 10000000) (disch := first | omega | simp) [q2, q3, q4, q5, q6, q7, q8, q9, q10, q11, q12, isConst]))) <;> clear hK K) | ((with_reducible refine awCond fun A B hA hB => ?_); simp (maxSteps := 10000000) (disch := first | omega | simp) [q2, q3, q4, q5, q6, q7, q8, q9, q10, q11, q12, isConst]; (first | refine ⟨fun h => hA ?_, fun h => hB ?_⟩ | refine hA ?_ | refine hB ?_) <;> (clear hA hB A B; (try (exfalso; omega))))
  (refine aEnR (aRes [true] fun K hK => ?_); simp (maxSteps := 10000000) (disch := first | omega | simp) []; refine hK _ ?_ (by simp); clear hK; first | done | (simp (maxSteps := 10000000) (disch := first | omega | simp) [*]; done) | (simp (maxSteps := 10000000) (disch := first | omega | simp) [*]; omega) | (simp_all []; done) | (simp_all []; omega))
theorem apply_ok4 (m : Image) (r : Record) (h : ApPre m r) (hr : ACall pg 20 [encR r] (.c .nilIface)) (hk : r.kind = 4) {cs : List V} {m' : Image} (hT : ACallM pg 23 [.own (cellsO m)] [encR r] (.c .nilIface) [.own cs]) (hpv : pvL cs = cellsM m') : ACall pg 7 [encM m, encR r] (.tup [encM m', .c .nilIface]) := by
  have hcp := copy_ok m h.pre h.small
  refine s7.call mo (by simp) fun hxs => ?_
  clear hxs
  have q2 : (r.kind == 2) = false := by simp [hk]
  have q3 : (r.kind == 3) = false := by simp [hk]
  have q4 : (r.kind == 4) = true := by simp [hk]
  have q5 : (r.kind == 5) = false := by simp [hk]
  have q6 : (r.kind == 6) = false := by simp [hk]
  have q7 : (r.kind == 7) = false := by simp [hk]
  have q8 : (r.kind == 8) = false := by simp [hk]
  have q9 : (r.kind == 9) = false := by simp [hk]
  have q10 : (r.kind == 10) = false := by simp [hk]
  have q11 : (r.kind == 11) = false := by simp [hk]
  have q12 : (r.kind == 12) = false := by simp [hk]
  simp only [cellsO_eq] at hT
  unfold c7; dsimp only [oA, oC, oD, oF, oG, oK, oL, oM, oO, oS, oU]
  repeat' first | (with_reducible first | refine thN ?_ | refine inN ?_ | refine fF ?_ | refine fS ?_ | refine fR ?_ | refine fQ ?_ | refine fC ?_ | refine awBlock ?_ | refine awRet ?_ | refine awSkip ?_) | ((with_reducible refine awReg fun K hok hK => ?_); clear hok; (try simp (maxSteps := 10000000) (disch := first | omega | simp) [q2, q3, q4, q5, q6, q7, q8, q9, q10, q11, q12, isConst]); (repeat' first | (with_reducible refine hK _ (by simp) ?_) | ((first | ((with_reducible refine callS' fun K2 hK2 => ?_); (try simp (maxSteps := 10000000) (disch := first | omega | simp) [q2, q3, q4, q5, q6, q7, q8, q9, q10, q11, q12, isConst]); (first | refine hK2 _ _ hr rfl fun hk9 => ?_ | refine hK2 _ _ hcp rfl fun hk9 => ?_ | refine hK2 _ _ hT rfl fun hk9 => ?_); clear hk9; clear hK2 K2) | ((with_reducible refine callF' fun K2 hK2 => ?_); (try simp (maxSteps := 10000000) (disch := first | omega | simp) [q2, q3, q4, q5, q6, q7, q8, q9, q10, q11, q12, isConst]); (first | refine hK2 _ _ _ hr fun _ => ?_ | refine hK2 _ _ _ hcp fun _ => ?_ | refine hK2 _ _ _ hT fun _ => ?_); clear hK2 K2) | ((with_reducible refine callM' rfl fun K2 hK2 => ?_); (try simp (maxSteps := 10000000) (disch := first | omega | simp) [q2, q3, q4, q5, q6, q7, q8, q9, q10, q11, q12, isConst]); (first | refine hK2 _ _ _ _ _ _ _ hr rfl fun _ _ => ?_ | refine hK2 _ _ _ _ _ _ _ hcp rfl fun _ _ => ?_ | refine hK2 _ _ _ _ _ _ _ hT rfl fun _ _ => ?_); clear hK2 K2)); (try simp (maxSteps := 10000000) (disch := first | omega | simp) [q2, q3, q4, q5, q6, q7, q8, q9, q10, q11, q12, isConst]))) <;> clear hK K) | ((with_reducible refine awCond fun A B hA hB => ?_); simp (maxSteps := 10000000) (disch := first | omega | simp) [q2, q3, q4, q5, q6, q7, q8, q9, q10, q11, q12, isConst]; (first | refine ⟨fun h => hA ?_, fun h => hB ?_⟩ | refine hA ?_ | refine hB ?_) <;> (clear hA hB A B; (try (exfalso; omega))))
  refine awWk (ofA [(4, .p (.own [.uq [], .uq [], .uq [], .uq [], I 0])), (7, .p (.ip (cellsM m') 0))]) ((Wk.frzB (r := 7) rfl).trans (Wk.ofA (by simp [hpv]))) ?_
  clear hpv
  repeat' first | (with_reducible first | refine thN ?_ | refine inN ?_ | refine fF ?_ | refine fS ?_ | refine fR ?_ | refine fQ ?_ | refine fC ?_ | refine awBlock ?_ | refine awRet ?_ | refine awSkip ?_) | ((with_reducible refine awReg fun K hok hK => ?_); clear hok; (try simp (maxSteps := 10000000) (disch := first | omega | simp) []); (repeat' first | (with_reducible refine hK _ (by simp) ?_)) <;> clear hK K) | ((with_reducible refine awCond fun A B hA hB => ?_); simp (maxSteps := 10000000) (disch := first | omega | simp) []; (first | refine ⟨fun h => hA ?_, fun h => hB ?_⟩ | refine hA ?_ | refine hB ?_) <;> (clear hA hB A B; (try (exfalso; omega))))
  (refine aEnR (aRes [true] fun K hK => ?_); simp (maxSteps := 10000000) (disch := first | omega | simp) []; refine hK _ ?_ (by simp); clear hK; first | done | (simp (maxSteps := 10000000) (disch := first | omega | simp) [*]; done) | (simp (maxSteps := 10000000) (disch := first | omega | simp) [*]; omega) | (simp_all []; done) | (simp_all []; omega))
theorem apply_no4 (m : Image) (r : Record) (h : ApPre m r) (hr : ACall pg 20 [encR r] (.c .nilIface)) (hk : r.kind = 4) {cs : List V} {e : Er} (hT : ACallM pg 23 [.own (cellsO m)] [encR r] (errE (some e)) [.own cs]) : ACall pg 7 [encM m, encR r] (.tup [encM m, errE (some (.fault apl r.kind e))]) := by
  have hcp := copy_ok m h.pre h.small
  have hwr := wrap_ok apl r.kind (some e)
  obtain ⟨ty, v, he⟩ := encE_if e
  obtain ⟨ty2, v2, he2⟩ := encE_if (.fault apl r.kind e)
  simp only [Option.map_some, errE_some, he, he2] at hwr hT ⊢
  refine s7.call mo (by simp) fun hxs => ?_
  clear hxs
  have q2 : (r.kind == 2) = false := by simp [hk]
  have q3 : (r.kind == 3) = false := by simp [hk]
  have q4 : (r.kind == 4) = true := by simp [hk]
  have q5 : (r.kind == 5) = false := by simp [hk]
  have q6 : (r.kind == 6) = false := by simp [hk]
  have q7 : (r.kind == 7) = false := by simp [hk]
  have q8 : (r.kind == 8) = false := by simp [hk]
  have q9 : (r.kind == 9) = false := by simp [hk]
  have q10 : (r.kind == 10) = false := by simp [hk]
  have q11 : (r.kind == 11) = false := by simp [hk]
  have q12 : (r.kind == 12) = false := by simp [hk]
  simp only [cellsO_eq] at hT
  unfold c7; dsimp only [oA, oC, oD, oF, oG, oK, oL, oM, oO, oS, oU]
  repeat' first | (with_reducible first | refine thN ?_ | refine inN ?_ | refine fF ?_ | refine fS ?_ | refine fR ?_ | refine fQ ?_ | refine fC ?_ | refine fT ?_ | refine awBlock ?_ | refine awRet ?_ | refine awSkip ?_) | ((with_reducible refine awReg fun K hok hK => ?_); clear hok; (try simp (maxSteps := 10000000) (disch := first | omega | simp) [q2, q3, q4, q5, q6, q7, q8, q9, q10, q11, q12, isConst]); (repeat' first | (with_reducible refine hK _ (by simp) ?_) | ((first | ((with_reducible refine callS' fun K2 hK2 => ?_); (try simp (maxSteps := 10000000) (disch := first | omega | simp) [q2, q3, q4, q5, q6, q7, q8, q9, q10, q11, q12, isConst]); (first | refine hK2 _ _ hr rfl fun hk9 => ?_ | refine hK2 _ _ hcp rfl fun hk9 => ?_ | refine hK2 _ _ hT rfl fun hk9 => ?_ | refine hK2 _ _ hwr rfl fun hk9 => ?_); clear hk9; clear hK2 K2) | ((with_reducible refine callF' fun K2 hK2 => ?_); (try simp (maxSteps := 10000000) (disch := first | omega | simp) [q2, q3, q4, q5, q6, q7, q8, q9, q10, q11, q12, isConst]); (first | refine hK2 _ _ _ hr fun _ => ?_ | refine hK2 _ _ _ hcp fun _ => ?_ | refine hK2 _ _ _ hT fun _ => ?_ | refine hK2 _ _ _ hwr fun _ => ?_); clear hK2 K2) | ((with_reducible refine sideS' fun K2 hK2 => ?_); (try simp (maxSteps := 10000000) (disch := first | omega | simp) [q2, q3, q4, q5, q6, q7, q8, q9, q10, q11, q12, isConst]); (first | refine hK2 _ _ (hr) rfl ?_ | refine hK2 _ _ (hcp) rfl ?_ | refine hK2 _ _ (hT) rfl ?_ | refine hK2 _ _ (hwr) rfl ?_); clear hK2 K2) | ((with_reducible refine callM' rfl fun K2 hK2 => ?_); (try simp (maxSteps := 10000000) (disch := first | omega | simp) [q2, q3, q4, q5, q6, q7, q8, q9, q10, q11, q12, isConst]); (first | refine hK2 _ _ _ _ _ _ _ hr rfl fun _ _ => ?_ | refine hK2 _ _ _ _ _ _ _ hcp rfl fun _ _ => ?_ | refine hK2 _ _ _ _ _ _ _ hT rfl fun _ _ => ?_ | refine hK2 _ _ _ _ _ _ _ hwr rfl fun _ _ => ?_); clear hK2 K2) | ((with_reducible refine sideQ' ?_ ?_ fun K2 hK2 => ?_); exact rfl; exact rfl; (try simp (maxSteps := 10000000) (disch := first | omega | simp) [q2, q3, q4, q5, q6, q7, q8, q9, q10, q11, q12, isConst]); with_reducible refine hK2 _ _ ?_; clear hK2 K2)); (try simp (maxSteps := 10000000) (disch := first | omega | simp) [q2, q3, q4, q5, q6, q7, q8, q9, q10, q11, q12, isConst]))) <;> clear hK K) | ((with_reducible refine awCond fun A B hA hB => ?_); simp (maxSteps := 10000000) (disch := first | omega | simp) [q2, q3, q4, q5, q6, q7, q8, q9, q10, q11, q12, isConst]; (first | refine ⟨fun h => hA ?_, fun h => hB ?_⟩ | refine hA ?_ | refine hB ?_) <;> (clear hA hB A B; (try (exfalso; omega))))
  (refine aEnR (aRes [true] fun K hK => ?_); simp (maxSteps := 10000000) (disch := first | omega | simp) []; refine hK _ ?_ (by simp); clear hK; first | done | (simp (maxSteps := 10000000) (disch := first | omega | simp) [*]; done) | (simp (maxSteps := 10000000) (disch := first | omega | simp) [*]; omega) | (simp_all []; done) | (simp_all []; omega))
theorem apply_ok5 (m : Image) (r : Record) (h : ApPre m r) (hr : ACall pg 20 [encR r] (.c .nilIface)) (hk : r.kind = 5) {cs : List V} {m' : Image} (hT : ACallM pg 23 [.own (cellsO m)] [encR r] (.c .nilIface) [.own cs]) (hpv : pvL cs = cellsM m') : ACall pg 7 [encM m, encR r] (.tup [encM m', .c .nilIface]) := by
  have hcp := copy_ok m h.pre h.small
  refine s7.call mo (by simp) fun hxs => ?_
  clear hxs
  have q2 : (r.kind == 2) = false := by simp [hk]
  have q3 : (r.kind == 3) = false := by simp [hk]
  have q4 : (r.kind == 4) = false := by simp [hk]
  have q5 : (r.kind == 5) = true := by simp [hk]
  have q6 : (r.kind == 6) = false := by simp [hk]
  have q7 : (r.kind == 7) = false := by simp [hk]
  have q8 : (r.kind == 8) = false := by simp [hk]
  have q9 : (r.kind == 9) = false := by simp [hk]
  have q10 : (r.kind == 10) = false := by simp [hk]
  have q11 : (r.kind == 11) = false := by simp [hk]
  have q12 : (r.kind == 12) = false := by simp [hk]
  simp only [cellsO_eq] at hT
  unfold c7; dsimp only [oA, oC, oD, oF, oG, oK, oL, oM, oO, oS, oU]
  repeat' first | (with_reducible first | refine thN ?_ | refine inN ?_ | refine fF ?_ | refine fS ?_ | refine fR ?_ | refine fQ ?_ | refine fC ?_ | refine awBlock ?_ | refine awRet ?_ | refine awSkip ?_) | ((with_reducible refine awReg fun K hok hK => ?_); clear hok; (try simp (maxSteps := 10000000) (disch := first | omega | simp) [q2, q3, q4, q5, q6, q7, q8, q9, q10, q11, q12, isConst]); (repeat' first | (with_reducible refine hK _ (by simp) ?_) | ((first | ((with_reducible refine callS' fun K2 hK2 => ?_); (try simp (maxSteps := 10000000) (disch := first | omega | simp) [q2, q3, q4, q5, q6, q7, q8, q9, q10, q11, q12, isConst]); (first | refine hK2 _ _ hr rfl fun hk9 => ?_ | refine hK2 _ _ hcp rfl fun hk9 => ?_ | refine hK2 _ _ hT rfl fun hk9 => ?_); clear hk9; clear hK2 K2) | ((with_reducible refine callF' fun K2 hK2 => ?_); (try simp (maxSteps := 10000000) (disch := first | omega | simp) [q2, q3, q4, q5, q6, q7, q8, q9, q10, q11, q12, isConst]); (first | refine hK2 _ _ _ hr fun _ => ?_ | refine hK2 _ _ _ hcp fun _ => ?_ | refine hK2 _ _ _ hT fun _ => ?_); clear hK2 K2) | ((with_reducible refine callM' rfl fun K2 hK2 => ?_); (try simp (maxSteps := 10000000) (disch := first | omega | simp) [q2, q3, q4, q5, q6, q7, q8, q9, q10, q11, q12, isConst]); (first | refine hK2 _ _ _ _ _ _ _ hr rfl fun _ _ => ?_ | refine hK2 _ _ _ _ _ _ _ hcp rfl fun _ _ => ?_ | refine hK2 _ _ _ _ _ _ _ hT rfl fun _ _ => ?_); clear hK2 K2)); (try simp (maxSteps := 10000000) (disch := first | omega | simp) [q2, q3, q4, q5, q6, q7, q8, q9, q10, q11, q12, isConst]))) <;> clear hK K) | ((with_reducible refine awCond fun A B hA hB => ?_); simp (maxSteps := 10000000) (disch := first | omega | simp) [q2, q3, q4, q5, q6, q7, q8, q9, q10, q11, q12, isConst]; (first | refine ⟨fun h => hA ?_, fun h => hB ?_⟩ | refine hA ?_ | refine hB ?_) <;> (clear hA hB A B; (try (exfalso; omega))))
  refine awWk (ofA [(4, .p (.own [.uq [], .uq [], .uq [], .uq [], I 0])), (7, .p (.ip (cellsM m') 0))]) ((Wk.frzB (r := 7) rfl).trans (Wk.ofA (by simp [hpv]))) ?_
  clear hpv
  repeat' first | (with_reducible first | refine thN ?_ | refine inN ?_ | refine fF ?_ | refine fS ?_ | refine fR ?_ | refine fQ ?_ | refine fC ?_ | refine awBlock ?_ | refine awRet ?_ | refine awSkip ?_) | ((with_reducible refine awReg fun K hok hK => ?_); clear hok; (try simp (maxSteps := 10000000) (disch := first | omega | simp) []); (repeat' first | (with_reducible refine hK _ (by simp) ?_)) <;> clear hK K) | ((with_reducible refine awCond fun A B hA hB => ?_); simp (maxSteps := 10000000) (disch := first | omega | simp) []; (first | refine ⟨fun h => hA ?_, fun h => hB ?_⟩ | refine hA ?_ | refine hB ?_) <;> (clear hA hB A B; (try (exfalso; omega))))
  (refine aEnR (aRes [true] fun K hK => ?_); simp (maxSteps := 10000000) (disch := first | omega | simp) []; refine hK _ ?_ (by simp); clear hK; first | done | (simp (maxSteps := 10000000) (disch := first | omega | simp) [*]; done) | (simp (maxSteps := 10000000) (disch := first | omega | simp) [*]; omega) | (simp_all []; done) | (simp_all []; omega))
theorem apply_no5 (m : Image) (r : Record) (h : ApPre m r) (hr : ACall pg 20 [encR r] (.c .nilIface)) (hk : r.kind = 5) {cs : List V} {e : Er} (hT : ACallM pg 23 [.own (cellsO m)] [encR r] (errE (some e)) [.own cs]) : ACall pg 7 [encM m, encR r] (.tup [encM m, errE (some (.fault apl r.kind e))]) := by
  have hcp := copy_ok m h.pre h.small
  have hwr := wrap_ok apl r.kind (some e)
  obtain ⟨ty, v, he⟩ := encE_if e
  obtain ⟨ty2, v2, he2⟩ := encE_if (.fault apl r.kind e)
  simp only [Option.map_some, errE_some, he, he2] at hwr hT ⊢
  refine s7.call mo (by simp) fun hxs => ?_
  clear hxs
  have q2 : (r.kind == 2) = false := by simp [hk]
  have q3 : (r.kind == 3) = false := by simp [hk]
  have q4 : (r.kind == 4) = false := by simp [hk]
  have q5 : (r.kind == 5) = true := by simp [hk]
  have q6 : (r.kind == 6) = false := by simp [hk]
  have q7 : (r.kind == 7) = false := by simp [hk]
  have q8 : (r.kind == 8) = false := by simp [hk]
  have q9 : (r.kind == 9) = false := by simp [hk]
  have q10 : (r.kind == 10) = false := by simp [hk]
  have q11 : (r.kind == 11) = false := by simp [hk]
  have q12 : (r.kind == 12) = false := by simp [hk]
  simp only [cellsO_eq] at hT
  unfold c7; dsimp only [oA, oC, oD, oF, oG, oK, oL, oM, oO, oS, oU]
  repeat' first | (with_reducible first | refine thN ?_ | refine inN ?_ | refine fF ?_ | refine fS ?_ | refine fR ?_ | refine fQ ?_ | refine fC ?_ | refine fT ?_ | refine awBlock ?_ | refine awRet ?_ | refine awSkip ?_) | ((with_reducible refine awReg fun K hok hK => ?_); clear hok; (try simp (maxSteps := 10000000) (disch := first | omega | simp) [q2, q3, q4, q5, q6, q7, q8, q9, q10, q11, q12, isConst]); (repeat' first | (with_reducible refine hK _ (by simp) ?_) | ((first | ((with_reducible refine callS' fun K2 hK2 => ?_); (try simp (maxSteps := 10000000) (disch := first | omega | simp) [q2, q3, q4, q5, q6, q7, q8, q9, q10, q11, q12, isConst]); (first | refine hK2 _ _ hr rfl fun hk9 => ?_ | refine hK2 _ _ hcp rfl fun hk9 => ?_ | refine hK2 _ _ hT rfl fun hk9 => ?_ | refine hK2 _ _ hwr rfl fun hk9 => ?_); clear hk9; clear hK2 K2) | ((with_reducible refine callF' fun K2 hK2 => ?_); (try simp (maxSteps := 10000000) (disch := first | omega | simp) [q2, q3, q4, q5, q6, q7, q8, q9, q10, q11, q12, isConst]); (first | refine hK2 _ _ _ hr fun _ => ?_ | refine hK2 _ _ _ hcp fun _ => ?_ | refine hK2 _ _ _ hT fun _ => ?_ | refine hK2 _ _ _ hwr fun _ => ?_); clear hK2 K2) | ((with_reducible refine sideS' fun K2 hK2 => ?_); (try simp (maxSteps := 10000000) (disch := first | omega | simp) [q2, q3, q4, q5, q6, q7, q8, q9, q10, q11, q12, isConst]); (first | refine hK2 _ _ (hr) rfl ?_ | refine hK2 _ _ (hcp) rfl ?_ | refine hK2 _ _ (hT) rfl ?_ | refine hK2 _ _ (hwr) rfl ?_); clear hK2 K2) | ((with_reducible refine callM' rfl fun K2 hK2 => ?_); (try simp (maxSteps := 10000000) (disch := first | omega | simp) [q2, q3, q4, q5, q6, q7, q8, q9, q10, q11, q12, isConst]); (first | refine hK2 _ _ _ _ _ _ _ hr rfl fun _ _ => ?_ | refine hK2 _ _ _ _ _ _ _ hcp rfl fun _ _ => ?_ | refine hK2 _ _ _ _ _ _ _ hT rfl fun _ _ => ?_ | refine hK2 _ _ _ _ _ _ _ hwr rfl fun _ _ => ?_); clear hK2 K2) | ((with_reducible refine sideQ' ?_ ?_ fun K2 hK2 => ?_); exact rfl; exact rfl; (try simp (maxSteps := 10000000) (disch := first | omega | simp) [q2, q3, q4, q5, q6, q7, q8, q9, q10, q11, q12, isConst]); with_reducible refine hK2 _ _ ?_; clear hK2 K2)); (try simp (maxSteps := 10000000) (disch := first | omega | simp) [q2, q3, q4, q5, q6, q7, q8, q9, q10, q11, q12, isConst]))) <;> clear hK K) | ((with_reducible refine awCond fun A B hA hB => ?_); simp (maxSteps := 10000000) (disch := first | omega | simp) [q2, q3, q4, q5, q6, q7, q8, q9, q10, q11, q12, isConst]; (first | refine ⟨fun h => hA ?_, fun h => hB ?_⟩ | refine hA ?_ | refine hB ?_) <;> (clear hA hB A B; (try (exfalso; omega))))
  (refine aEnR (aRes [true] fun K hK => ?_); simp (maxSteps := 10000000) (disch := first | omega | simp) []; refine hK _ ?_ (by simp); clear hK; first | done | (simp (maxSteps := 10000000) (disch := first | omega | simp) [*]; done) | (simp (maxSteps := 10000000) (disch := first | omega | simp) [*]; omega) | (simp_all []; done) | (simp_all []; omega))
theorem apply_ok6 (m : Image) (r : Record) (h : ApPre m r) (hr : ACall pg 20 [encR r] (.c .nilIface)) (hk : r.kind = 6) {cs : List V} {m' : Image} (hT : ACallM pg 23 [.own (cellsO m)] [encR r] (.c .nilIface) [.own cs]) (hpv : pvL cs = cellsM m') : ACall pg 7 [encM m, encR r] (.tup [encM m', .c .nilIface]) := by
  have hcp := copy_ok m h.pre h.small
  refine s7.call mo (by simp) fun hxs => ?_
  clear hxs
  have q2 : (r.kind == 2) = false := by simp [hk]
  have q3 : (r.kind == 3) = false := by simp [hk]
  have q4 : (r.kind == 4) = false := by simp [hk]
  have q5 : (r.kind == 5) = false := by simp [hk]
  have q6 : (r.kind == 6) = true := by simp [hk]
  have q7 : (r.kind == 7) = false := by simp [hk]
  have q8 : (r.kind == 8) = false := by simp [hk]
  have q9 : (r.kind == 9) = false := by simp [hk]
  have q10 : (r.kind == 10) = false := by simp [hk]
  have q11 : (r.kind == 11) = false := by simp [hk]
  have q12 : (r.kind == 12) = false := by simp [hk]
  simp only [cellsO_eq] at hT
  unfold c7; dsimp only [oA, oC, oD, oF, oG, oK, oL, oM, oO, oS, oU]
  repeat' first | (with_reducible first | refine thN ?_ | refine inN ?_ | refine fF ?_ | refine fS ?_ | refine fR ?_ | refine fQ ?_ | refine fC ?_ | refine awBlock ?_ | refine awRet ?_ | refine awSkip ?_) | ((with_reducible refine awReg fun K hok hK => ?_); clear hok; (try simp (maxSteps := 10000000) (disch := first | omega | simp) [q2, q3, q4, q5, q6, q7, q8, q9, q10, q11, q12, isConst]); (repeat' first | (with_reducible refine hK _ (by simp) ?_) | ((first | ((with_reducible refine callS' fun K2 hK2 => ?_); (try simp (maxSteps := 10000000) (disch := first | omega | simp) [q2, q3, q4, q5, q6, q7, q8, q9, q10, q11, q12, isConst]); (first | refine hK2 _ _ hr rfl fun hk9 => ?_ | refine hK2 _ _ hcp rfl fun hk9 => ?_ | refine hK2 _ _ hT rfl fun hk9 => ?_); clear hk9; clear hK2 K2) | ((with_reducible refine callF' fun K2 hK2 => ?_); (try simp (maxSteps := 10000000) (disch := first | omega | simp) [q2, q3, q4, q5, q6, q7, q8, q9, q10, q11, q12, isConst]); (first | refine hK2 _ _ _ hr fun _ => ?_ | refine hK2 _ _ _ hcp fun _ => ?_ | refine hK2 _ _ _ hT fun _ => ?_); clear hK2 K2) | ((with_reducible refine callM' rfl fun K2 hK2 => ?_); (try simp (maxSteps := 10000000) (disch := first | omega | simp) [q2, q3, q4, q5, q6, q7, q8, q9, q10, q11, q12, isConst]); (first | refine hK2 _ _ _ _ _ _ _ hr rfl fun _ _ => ?_ | refine hK2 _ _ _ _ _ _ _ hcp rfl fun _ _ => ?_ | refine hK2 _ _ _ _ _ _ _ hT rfl fun _ _ => ?_); clear hK2 K2)); (try simp (maxSteps := 10000000) (disch := first | omega | simp) [q2, q3, q4, q5, q6, q7, q8, q9, q10, q11, q12, isConst]))) <;> clear hK K) | ((with_reducible refine awCond fun A B hA hB => ?_); simp (maxSteps := 10000000) (disch := first | omega | simp) [q2, q3, q4, q5, q6, q7, q8, q9, q10, q11, q12, isConst]; (first | refine ⟨fun h => hA ?_, fun h => hB ?_⟩ | refine hA ?_ | refine hB ?_) <;> (clear hA hB A B; (try (exfalso; omega))))
  refine awWk (ofA [(4, .p (.own [.uq [], .uq [], .uq [], .uq [], I 0])), (7, .p (.ip (cellsM m') 0))]) ((Wk.frzB (r := 7) rfl).trans (Wk.ofA (by simp [hpv]))) ?_
  clear hpv
  repeat' first | (with_reducible first | refine thN ?_ | refine inN ?_ | refine fF ?_ | refine fS ?_ | refine fR ?_ | refine fQ ?_ | refine fC ?_ | refine awBlock ?_ | refine awRet ?_ | refine awSkip ?_) | ((with_reducible refine awReg fun K hok hK => ?_); clear hok; (try simp (maxSteps := 10000000) (disch := first | omega | simp) []); (repeat' first | (with_reducible refine hK _ (by simp) ?_)) <;> clear hK K) | ((with_reducible refine awCond fun A B hA hB => ?_); simp (maxSteps := 10000000) (disch := first | omega | simp) []; (first | refine ⟨fun h => hA ?_, fun h => hB ?_⟩ | refine hA ?_ | refine hB ?_) <;> (clear hA hB A B; (try (exfalso; omega))))
  (refine aEnR (aRes [true] fun K hK => ?_); simp (maxSteps := 10000000) (disch := first | omega | simp) []; refine hK _ ?_ (by simp); clear hK; first | done | (simp (maxSteps := 10000000) (disch := first | omega | simp) [*]; done) | (simp (maxSteps := 10000000) (disch := first | omega | simp) [*]; omega) | (simp_all []; done) | (simp_all []; omega))
theorem apply_no6 (m : Image) (r : Record) (h : ApPre m r) (hr : ACall pg 20 [encR r] (.c .nilIface)) (hk : r.kind = 6) {cs : List V} {e : Er} (hT : ACallM pg 23 [.own (cellsO m)] [encR r] (errE (some e)) [.own cs]) : ACall pg 7 [encM m, encR r] (.tup [encM m, errE (some (.fault apl r.kind e))]) := by
  have hcp := copy_ok m h.pre h.small
  have hwr := wrap_ok apl r.kind (some e)
  obtain ⟨ty, v, he⟩ := encE_if e
  obtain ⟨ty2, v2, he2⟩ := encE_if (.fault apl r.kind e)
  simp only [Option.map_some, errE_some, he, he2] at hwr hT ⊢
  refine s7.call mo (by simp) fun hxs => ?_
  clear hxs
  have q2 : (r.kind == 2) = false := by simp [hk]
  have q3 : (r.kind == 3) = false := by simp [hk]
  have q4 : (r.kind == 4) = false := by simp [hk]
  have q5 : (r.kind == 5) = false := by simp [hk]
  have q6 : (r.kind == 6) = true := by simp [hk]
  have q7 : (r.kind == 7) = false := by simp [hk]
  have q8 : (r.kind == 8) = false := by simp [hk]
  have q9 : (r.kind == 9) = false := by simp [hk]
  have q10 : (r.kind == 10) = false := by simp [hk]
  have q11 : (r.kind == 11) = false := by simp [hk]
  have q12 : (r.kind == 12) = false := by simp [hk]
  simp only [cellsO_eq] at hT
  unfold c7; dsimp only [oA, oC, oD, oF, oG, oK, oL, oM, oO, oS, oU]
  repeat' first | (with_reducible first | refine thN ?_ | refine inN ?_ | refine fF ?_ | refine fS ?_ | refine fR ?_ | refine fQ ?_ | refine fC ?_ | refine fT ?_ | refine awBlock ?_ | refine awRet ?_ | refine awSkip ?_) | ((with_reducible refine awReg fun K hok hK => ?_); clear hok; (try simp (maxSteps := 10000000) (disch := first | omega | simp) [q2, q3, q4, q5, q6, q7, q8, q9, q10, q11, q12, isConst]); (repeat' first | (with_reducible refine hK _ (by simp) ?_) | ((first | ((with_reducible refine callS' fun K2 hK2 => ?_); (try simp (maxSteps := 10000000) (disch := first | omega | simp) [q2, q3, q4, q5, q6, q7, q8, q9, q10, q11, q12, isConst]); (first | refine hK2 _ _ hr rfl fun hk9 => ?_ | refine hK2 _ _ hcp rfl fun hk9 => ?_ | refine hK2 _ _ hT rfl fun hk9 => ?_ | refine hK2 _ _ hwr rfl fun hk9 => ?_); clear hk9; clear hK2 K2) | ((with_reducible refine callF' fun K2 hK2 => ?_); (try simp (maxSteps := 10000000) (disch := first | omega | simp) [q2, q3, q4, q5, q6, q7, q8, q9, q10, q11, q12, isConst]); (first | refine hK2 _ _ _ hr fun _ => ?_ | refine hK2 _ _ _ hcp fun _ => ?_ | refine hK2 _ _ _ hT fun _ => ?_ | refine hK2 _ _ _ hwr fun _ => ?_); clear hK2 K2) | ((with_reducible refine sideS' fun K2 hK2 => ?_); (try simp (maxSteps := 10000000) (disch := first | omega | simp) [q2, q3, q4, q5, q6, q7, q8, q9, q10, q11, q12, isConst]); (first | refine hK2 _ _ (hr) rfl ?_ | refine hK2 _ _ (hcp) rfl ?_ | refine hK2 _ _ (hT) rfl ?_ | refine hK2 _ _ (hwr) rfl ?_); clear hK2 K2) | ((with_reducible refine callM' rfl fun K2 hK2 => ?_); (try simp (maxSteps := 10000000) (disch := first | omega | simp) [q2, q3, q4, q5, q6, q7, q8, q9, q10, q11, q12, isConst]); (first | refine hK2 _ _ _ _ _ _ _ hr rfl fun _ _ => ?_ | refine hK2 _ _ _ _ _ _ _ hcp rfl fun _ _ => ?_ | refine hK2 _ _ _ _ _ _ _ hT rfl fun _ _ => ?_ | refine hK2 _ _ _ _ _ _ _ hwr rfl fun _ _ => ?_); clear hK2 K2) | ((with_reducible refine sideQ' ?_ ?_ fun K2 hK2 => ?_); exact rfl; exact rfl; (try simp (maxSteps := 10000000) (disch := first | omega | simp) [q2, q3, q4, q5, q6, q7, q8, q9, q10, q11, q12, isConst]); with_reducible refine hK2 _ _ ?_; clear hK2 K2)); (try simp (maxSteps := 10000000) (disch := first | omega | simp) [q2, q3, q4, q5, q6, q7, q8, q9, q10, q11, q12, isConst]))) <;> clear hK K) | ((with_reducible refine awCond fun A B hA hB => ?_); simp (maxSteps := 10000000) (disch := first | omega | simp) [q2, q3, q4, q5, q6, q7, q8, q9, q10, q11, q12, isConst]; (first | refine ⟨fun h => hA ?_, fun h => hB ?_⟩ | refine hA ?_ | refine hB ?_) <;> (clear hA hB A B; (try (exfalso; omega))))
  (refine aEnR (aRes [true] fun K hK => ?_); simp (maxSteps := 10000000) (disch := first | omega | simp) []; refine hK _ ?_ (by simp); clear hK; first | done | (simp (maxSteps := 10000000) (disch := first | omega | simp) [*]; done) | (simp (maxSteps := 10000000) (disch := first | omega | simp) [*]; omega) | (simp_all []; done) | (simp_all []; omega))
theorem apply_ok7 (m : Image) (r : Record) (h : ApPre m r) (hr : ACall pg 20 [encR r] (.c .nilIface)) (hk : r.kind = 7) {cs : List V} {m' : Image} (hT : ACallM pg 25 [.own (cellsO m)] [encR r] (.c .nilIface) [.own cs]) (hpv : pvL cs = cellsM m') : ACall pg 7 [encM m, encR r] (.tup [encM m', .c .nilIface]) := by
  have hcp := copy_ok m h.pre h.small
  refine s7.call mo (by simp) fun hxs => ?_
  clear hxs
  have q2 : (r.kind == 2) = false := by simp [hk]
  have q3 : (r.kind == 3) = false := by simp [hk]
  have q4 : (r.kind == 4) = false := by simp [hk]
  have q5 : (r.kind == 5) = false := by simp [hk]
  have q6 : (r.kind == 6) = false := by simp [hk]
  have q7 : (r.kind == 7) = true := by simp [hk]
  have q8 : (r.kind == 8) = false := by simp [hk]
  have q9 : (r.kind == 9) = false := by simp [hk]
  have q10 : (r.kind == 10) = false := by simp [hk]
  have q11 : (r.kind == 11) = false := by simp [hk]
  have q12 : (r.kind == 12) = false := by simp [hk]
  simp only [cellsO_eq] at hT
  unfold c7; dsimp only [oA, oC, oD, oF, oG, oK, oL, oM, oO, oS, oU]
  repeat' first | (with_reducible first | refine thN ?_ | refine inN ?_ | refine fF ?_ | refine fS ?_ | refine fR ?_ | refine fQ ?_ | refine fC ?_ | refine awBlock ?_ | refine awRet ?_ | refine awSkip ?_) | ((with_reducible refine awReg fun K hok hK => ?_); clear hok; (try simp (maxSteps := 10000000) (disch := first | omega | simp) [q2, q3, q4, q5, q6, q7, q8, q9, q10, q11, q12, isConst]); (repeat' first | (with_reducible refine hK _ (by simp) ?_) | ((first | ((with_reducible refine callS' fun K2 hK2 => ?_); (try simp (maxSteps := 10000000) (disch := first | omega | simp) [q2, q3, q4, q5, q6, q7, q8, q9, q10, q11, q12, isConst]); (first | refine hK2 _ _ hr rfl fun hk9 => ?_ | refine hK2 _ _ hcp rfl fun hk9 => ?_ | refine hK2 _ _ hT rfl fun hk9 => ?_); clear hk9; clear hK2 K2) | ((with_reducible refine callF' fun K2 hK2 => ?_); (try simp (maxSteps := 10000000) (disch := first | omega | simp) [q2, q3, q4, q5, q6, q7, q8, q9, q10, q11, q12, isConst]); (first | refine hK2 _ _ _ hr fun _ => ?_ | refine hK2 _ _ _ hcp fun _ => ?_ | refine hK2 _ _ _ hT fun _ => ?_); clear hK2 K2) | ((with_reducible refine callM' rfl fun K2 hK2 => ?_); (try simp (maxSteps := 10000000) (disch := first | omega | simp) [q2, q3, q4, q5, q6, q7, q8, q9, q10, q11, q12, isConst]); (first | refine hK2 _ _ _ _ _ _ _ hr rfl fun _ _ => ?_ | refine hK2 _ _ _ _ _ _ _ hcp rfl fun _ _ => ?_ | refine hK2 _ _ _ _ _ _ _ hT rfl fun _ _ => ?_); clear hK2 K2)); (try simp (maxSteps := 10000000) (disch := first | omega | simp) [q2, q3, q4, q5, q6, q7, q8, q9, q10, q11, q12, isConst]))) <;> clear hK K) | ((with_reducible refine awCond fun A B hA hB => ?_); simp (maxSteps := 10000000) (disch := first | omega | simp) [q2, q3, q4, q5, q6, q7, q8, q9, q10, q11, q12, isConst]; (first | refine ⟨fun h => hA ?_, fun h => hB ?_⟩ | refine hA ?_ | refine hB ?_) <;> (clear hA hB A B; (try (exfalso; omega))))
  refine awWk (ofA [(4, .p (.own [.uq [], .uq [], .uq [], .uq [], I 0])), (7, .p (.ip (cellsM m') 0))]) ((Wk.frzB (r := 7) rfl).trans (Wk.ofA (by simp [hpv]))) ?_
  clear hpv
  repeat' first | (with_reducible first | refine thN ?_ | refine inN ?_ | refine fF ?_ | refine fS ?_ | refine fR ?_ | refine fQ ?_ | refine fC ?_ | refine awBlock ?_ | refine awRet ?_ | refine awSkip ?_) | ((with_reducible refine awReg fun K hok hK => ?_); clear hok; (try simp (maxSteps := 10000000) (disch := first | omega | simp) []); (repeat' first | (with_reducible refine hK _ (by simp) ?_)) <;> clear hK K) | ((with_reducible refine awCond fun A B hA hB => ?_); simp (maxSteps := 10000000) (disch := first | omega | simp) []; (first | refine ⟨fun h => hA ?_, fun h => hB ?_⟩ | refine hA ?_ | refine hB ?_) <;> (clear hA hB A B; (try (exfalso; omega))))
  (refine aEnR (aRes [true] fun K hK => ?_); simp (maxSteps := 10000000) (disch := first | omega | simp) []; refine hK _ ?_ (by simp); clear hK; first | done | (simp (maxSteps := 10000000) (disch := first | omega | simp) [*]; done) | (simp (maxSteps := 10000000) (disch := first | omega | simp) [*]; omega) | (simp_all []; done) | (simp_all []; omega))
theorem apply_no7 (m : Image) (r : Record) (h : ApPre m r) (hr : ACall pg 20 [encR r] (.c .nilIface)) (hk : r.kind = 7) {cs : List V} {e : Er} (hT : ACallM pg 25 [.own (cellsO m)] [encR r] (errE (some e)) [.own cs]) : ACall pg 7 [encM m, encR r] (.tup [encM m, errE (some (.fault apl r.kind e))]) := by
  have hcp := copy_ok m h.pre h.small
  have hwr := wrap_ok apl r.kind (some e)
  obtain ⟨ty, v, he⟩ := encE_if e
  obtain ⟨ty2, v2, he2⟩ := encE_if (.fault apl r.kind e)
  simp only [Option.map_some, errE_some, he, he2] at hwr hT ⊢
  refine s7.call mo (by simp) fun hxs => ?_
  clear hxs
  have q2 : (r.kind == 2) = false := by simp [hk]
  have q3 : (r.kind == 3) = false := by simp [hk]
  have q4 : (r.kind == 4) = false := by simp [hk]
  have q5 : (r.kind == 5) = false := by simp [hk]
  have q6 : (r.kind == 6) = false := by simp [hk]
  have q7 : (r.kind == 7) = true := by simp [hk]
  have q8 : (r.kind == 8) = false := by simp [hk]
  have q9 : (r.kind == 9) = false := by simp [hk]
  have q10 : (r.kind == 10) = false := by simp [hk]
  have q11 : (r.kind == 11) = false := by simp [hk]
  have q12 : (r.kind == 12) = false := by simp [hk]
  simp only [cellsO_eq] at hT
  unfold c7; dsimp only [oA, oC, oD, oF, oG, oK, oL, oM, oO, oS, oU]
  repeat' first | (with_reducible first | refine thN ?_ | refine inN ?_ | refine fF ?_ | refine fS ?_ | refine fR ?_ | refine fQ ?_ | refine fC ?_ | refine fT ?_ | refine awBlock ?_ | refine awRet ?_ | refine awSkip ?_) | ((with_reducible refine awReg fun K hok hK => ?_); clear hok; (try simp (maxSteps := 10000000) (disch := first | omega | simp) [q2, q3, q4, q5, q6, q7, q8, q9, q10, q11, q12, isConst]); (repeat' first | (with_reducible refine hK _ (by simp) ?_) | ((first | ((with_reducible refine callS' fun K2 hK2 => ?_); (try simp (maxSteps := 10000000) (disch := first | omega | simp) [q2, q3, q4, q5, q6, q7, q8, q9, q10, q11, q12, isConst]); (first | refine hK2 _ _ hr rfl fun hk9 => ?_ | refine hK2 _ _ hcp rfl fun hk9 => ?_ | refine hK2 _ _ hT rfl fun hk9 => ?_ | refine hK2 _ _ hwr rfl fun hk9 => ?_); clear hk9; clear hK2 K2) | ((with_reducible refine callF' fun K2 hK2 => ?_); (try simp (maxSteps := 10000000) (disch := first | omega | simp) [q2, q3, q4, q5, q6, q7, q8, q9, q10, q11, q12, isConst]); (first | refine hK2 _ _ _ hr fun _ => ?_ | refine hK2 _ _ _ hcp fun _ => ?_ | refine hK2 _ _ _ hT fun _ => ?_ | refine hK2 _ _ _ hwr fun _ => ?_); clear hK2 K2) | ((with_reducible refine sideS' fun K2 hK2 => ?_); (try simp (maxSteps := 10000000) (disch := first | omega | simp) [q2, q3, q4, q5, q6, q7, q8, q9, q10, q11, q12, isConst]); (first | refine hK2 _ _ (hr) rfl ?_ | refine hK2 _ _ (hcp) rfl ?_ | refine hK2 _ _ (hT) rfl ?_ | refine hK2 _ _ (hwr) rfl ?_); clear hK2 K2) | ((with_reducible refine callM' rfl fun K2 hK2 => ?_); (try simp (maxSteps := 10000000) (disch := first | omega | simp) [q2, q3, q4, q5, q6, q7, q8, q9, q10, q11, q12, isConst]); (first | refine hK2 _ _ _ _ _ _ _ hr rfl fun _ _ => ?_ | refine hK2 _ _ _ _ _ _ _ hcp rfl fun _ _ => ?_ | refine hK2 _ _ _ _ _ _ _ hT rfl fun _ _ => ?_ | refine hK2 _ _ _ _ _ _ _ hwr rfl fun _ _ => ?_); clear hK2 K2) | ((with_reducible refine sideQ' ?_ ?_ fun K2 hK2 => ?_); exact rfl; exact rfl; (try simp (maxSteps := 10000000) (disch := first | omega | simp) [q2, q3, q4, q5, q6, q7, q8, q9, q10, q11, q12, isConst]); with_reducible refine hK2 _ _ ?_; clear hK2 K2)); (try simp (maxSteps := 10000000) (disch := first | omega | simp) [q2, q3, q4, q5, q6, q7, q8, q9, q10, q11, q12, isConst]))) <;> clear hK K) | ((with_reducible refine awCond fun A B hA hB => ?_); simp (maxSteps := 10000000) (disch := first | omega | simp) [q2, q3, q4, q5, q6, q7, q8, q9, q10, q11, q12, isConst]; (first | refine ⟨fun h => hA ?_, fun h => hB ?_⟩ | refine hA ?_ | refine hB ?_) <;> (clear hA hB A B; (try (exfalso; omega))))
  (refine aEnR (aRes [true] fun K hK => ?_); simp (maxSteps := 10000000) (disch := first | omega | simp) []; refine hK _ ?_ (by simp); clear hK; first | done | (simp (maxSteps := 10000000) (disch := first | omega | simp) [*]; done) | (simp (maxSteps := 10000000) (disch := first | omega | simp) [*]; omega) | (simp_all []; done) | (simp_all []; omega))
theorem apply_ok8 (m : Image) (r : Record) (h : ApPre m r) (hr : ACall pg 20 [encR r] (.c .nilIface)) (hk : r.kind = 8) {cs : List V} {m' : Image} (hT : ACallM pg 24 [.own (cellsO m)] [encR r] (.c .nilIface) [.own cs]) (hpv : pvL cs = cellsM m') : ACall pg 7 [encM m, encR r] (.tup [encM m', .c .nilIface]) := by
  have hcp := copy_ok m h.pre h.small
  refine s7.call mo (by simp) fun hxs => ?_
  clear hxs
  have q2 : (r.kind == 2) = false := by simp [hk]
  have q3 : (r.kind == 3) = false := by simp [hk]
  have q4 : (r.kind == 4) = false := by simp [hk]
  have q5 : (r.kind == 5) = false := by simp [hk]
  have q6 : (r.kind == 6) = false := by simp [hk]
  have q7 : (r.kind == 7) = false := by simp [hk]
  have q8 : (r.kind == 8) = true := by simp [hk]
  have q9 : (r.kind == 9) = false := by simp [hk]
  have q10 : (r.kind == 10) = false := by simp [hk]
  have q11 : (r.kind == 11) = false := by simp [hk]
  have q12 : (r.kind == 12) = false := by simp [hk]
  simp only [cellsO_eq] at hT
  unfold c7; dsimp only [oA, oC, oD, oF, oG, oK, oL, oM, oO, oS, oU]
  repeat' first | (with_reducible first | refine thN ?_ | refine inN ?_ | refine fF ?_ | refine fS ?_ | refine fR ?_ | refine fQ ?_ | refine fC ?_ | refine awBlock ?_ | refine awRet ?_ | refine awSkip ?_) | ((with_reducible refine awReg fun K hok hK => ?_); clear hok; (try simp (maxSteps := 10000000) (disch := first | omega | simp) [q2, q3, q4, q5, q6, q7, q8, q9, q10, q11, q12, isConst]); (repeat' first | (with_reducible refine hK _ (by simp) ?_) | ((first | ((with_reducible refine callS' fun K2 hK2 => ?_); (try simp (maxSteps := 10000000) (disch := first | omega | simp) [q2, q3, q4, q5, q6, q7, q8, q9, q10, q11, q12, isConst]); (first | refine hK2 _ _ hr rfl fun hk9 => ?_ | refine hK2 _ _ hcp rfl fun hk9 => ?_ | refine hK2 _ _ hT rfl fun hk9 => ?_); clear hk9; clear hK2 K2) | ((with_reducible refine callF' fun K2 hK2 => ?_); (try simp (maxSteps := 10000000) (disch := first | omega | simp) [q2, q3, q4, q5, q6, q7, q8, q9, q10, q11, q12, isConst]); (first | refine hK2 _ _ _ hr fun _ => ?_ | refine hK2 _ _ _ hcp fun _ => ?_ | refine hK2 _ _ _ hT fun _ => ?_); clear hK2 K2) | ((with_reducible refine callM' rfl fun K2 hK2 => ?_); (try simp (maxSteps := 10000000) (disch := first | omega | simp) [q2, q3, q4, q5, q6, q7, q8, q9, q10, q11, q12, isConst]); (first | refine hK2 _ _ _ _ _ _ _ hr rfl fun _ _ => ?_ | refine hK2 _ _ _ _ _ _ _ hcp rfl fun _ _ => ?_ | refine hK2 _ _ _ _ _ _ _ hT rfl fun _ _ => ?_); clear hK2 K2)); (try simp (maxSteps := 10000000) (disch := first | omega | simp) [q2, q3, q4, q5, q6, q7, q8, q9, q10, q11, q12, isConst]))) <;> clear hK K) | ((with_reducible refine awCond fun A B hA hB => ?_); simp (maxSteps := 10000000) (disch := first | omega | simp) [q2, q3, q4, q5, q6, q7, q8, q9, q10, q11, q12, isConst]; (first | refine ⟨fun h => hA ?_, fun h => hB ?_⟩ | refine hA ?_ | refine hB ?_) <;> (clear hA hB A B; (try (exfalso; omega))))
  refine awWk (ofA [(4, .p (.own [.uq [], .uq [], .uq [], .uq [], I 0])), (7, .p (.ip (cellsM m') 0))]) ((Wk.frzB (r := 7) rfl).trans (Wk.ofA (by simp [hpv]))) ?_
  clear hpv
  repeat' first | (with_reducible first | refine thN ?_ | refine inN ?_ | refine fF ?_ | refine fS ?_ | refine fR ?_ | refine fQ ?_ | refine fC ?_ | refine awBlock ?_ | refine awRet ?_ | refine awSkip ?_) | ((with_reducible refine awReg fun K hok hK => ?_); clear hok; (try simp (maxSteps := 10000000) (disch := first | omega | simp) []); (repeat' first | (with_reducible refine hK _ (by simp) ?_)) <;> clear hK K) | ((with_reducible refine awCond fun A B hA hB => ?_); simp (maxSteps := 10000000) (disch := first | omega | simp) []; (first | refine ⟨fun h => hA ?_, fun h => hB ?_⟩ | refine hA ?_ | refine hB ?_) <;> (clear hA hB A B; (try (exfalso; omega))))
  (refine aEnR (aRes [true] fun K hK => ?_); simp (maxSteps := 10000000) (disch := first | omega | simp) []; refine hK _ ?_ (by simp); clear hK; first | done | (simp (maxSteps := 10000000) (disch := first | omega | simp) [*]; done) | (simp (maxSteps := 10000000) (disch := first | omega | simp) [*]; omega) | (simp_all []; done) | (simp_all []; omega))
theorem apply_no8 (m : Image) (r : Record) (h : ApPre m r) (hr : ACall pg 20 [encR r] (.c .nilIface)) (hk : r.kind = 8) {cs : List V} {e : Er} (hT : ACallM pg 24 [.own (cellsO m)] [encR r] (errE (some e)) [.own cs]) : ACall pg 7 [encM m, encR r] (.tup [encM m, errE (some (.fault apl r.kind e))]) := by
  have hcp := copy_ok m h.pre h.small
  have hwr := wrap_ok apl r.kind (some e)
  obtain ⟨ty, v, he⟩ := encE_if e
  obtain ⟨ty2, v2, he2⟩ := encE_if (.fault apl r.kind e)
  simp only [Option.map_some, errE_some, he, he2] at hwr hT ⊢
  refine s7.call mo (by simp) fun hxs => ?_
  clear hxs
  have q2 : (r.kind == 2) = false := by simp [hk]
  have q3 : (r.kind == 3) = false := by simp [hk]
  have q4 : (r.kind == 4) = false := by simp [hk]
  have q5 : (r.kind == 5) = false := by simp [hk]
  have q6 : (r.kind == 6) = false := by simp [hk]
  have q7 : (r.kind == 7) = false := by simp [hk]
  have q8 : (r.kind == 8) = true := by simp [hk]
  have q9 : (r.kind == 9) = false := by simp [hk]
  have q10 : (r.kind == 10) = false := by simp [hk]
  have q11 : (r.kind == 11) = false := by simp [hk]
  have q12 : (r.kind == 12) = false := by simp [hk]
  simp only [cellsO_eq] at hT
  unfold c7; dsimp only [oA, oC, oD, oF, oG, oK, oL, oM, oO, oS, oU]
  repeat' first | (with_reducible first | refine thN ?_ | refine inN ?_ | refine fF ?_ | refine fS ?_ | refine fR ?_ | refine fQ ?_ | refine fC ?_ | refine fT ?_ | refine awBlock ?_ | refine awRet ?_ | refine awSkip ?_) | ((with_reducible refine awReg fun K hok hK => ?_); clear hok; (try simp (maxSteps := 10000000) (disch := first | omega | simp) [q2, q3, q4, q5, q6, q7, q8, q9, q10, q11, q12, isConst]); (repeat' first | (with_reducible refine hK _ (by simp) ?_) | ((first | ((with_reducible refine callS' fun K2 hK2 => ?_); (try simp (maxSteps := 10000000) (disch := first | omega | simp) [q2, q3, q4, q5, q6, q7, q8, q9, q10, q11, q12, isConst]); (first | refine hK2 _ _ hr rfl fun hk9 => ?_ | refine hK2 _ _ hcp rfl fun hk9 => ?_ | refine hK2 _ _ hT rfl fun hk9 => ?_ | refine hK2 _ _ hwr rfl fun hk9 => ?_); clear hk9; clear hK2 K2) | ((with_reducible refine callF' fun K2 hK2 => ?_); (try simp (maxSteps := 10000000) (disch := first | omega | simp) [q2, q3, q4, q5, q6, q7, q8, q9, q10, q11, q12, isConst]); (first | refine hK2 _ _ _ hr fun _ => ?_ | refine hK2 _ _ _ hcp fun _ => ?_ | refine hK2 _ _ _ hT fun _ => ?_ | refine hK2 _ _ _ hwr fun _ => ?_); clear hK2 K2) | ((with_reducible refine sideS' fun K2 hK2 => ?_); (try simp (maxSteps := 10000000) (disch := first | omega | simp) [q2, q3, q4, q5, q6, q7, q8, q9, q10, q11, q12, isConst]); (first | refine hK2 _ _ (hr) rfl ?_ | refine hK2 _ _ (hcp) rfl ?_ | refine hK2 _ _ (hT) rfl ?_ | refine hK2 _ _ (hwr) rfl ?_); clear hK2 K2) | ((with_reducible refine callM' rfl fun K2 hK2 => ?_); (try simp (maxSteps := 10000000) (disch := first | omega | simp) [q2, q3, q4, q5, q6, q7, q8, q9, q10, q11, q12, isConst]); (first | refine hK2 _ _ _ _ _ _ _ hr rfl fun _ _ => ?_ | refine hK2 _ _ _ _ _ _ _ hcp rfl fun _ _ => ?_ | refine hK2 _ _ _ _ _ _ _ hT rfl fun _ _ => ?_ | refine hK2 _ _ _ _ _ _ _ hwr rfl fun _ _ => ?_); clear hK2 K2) | ((with_reducible refine sideQ' ?_ ?_ fun K2 hK2 => ?_); exact rfl; exact rfl; (try simp (maxSteps := 10000000) (disch := first | omega | simp) [q2, q3, q4, q5, q6, q7, q8, q9, q10, q11, q12, isConst]); with_reducible refine hK2 _ _ ?_; clear hK2 K2)); (try simp (maxSteps := 10000000) (disch := first | omega | simp) [q2, q3, q4, q5, q6, q7, q8, q9, q10, q11, q12, isConst]))) <;> clear hK K) | ((with_reducible refine awCond fun A B hA hB => ?_); simp (maxSteps := 10000000) (disch := first | omega | simp) [q2, q3, q4, q5, q6, q7, q8, q9, q10, q11, q12, isConst]; (first | refine ⟨fun h => hA ?_, fun h => hB ?_⟩ | refine hA ?_ | refine hB ?_) <;> (clear hA hB A B; (try (exfalso; omega))))
  (refine aEnR (aRes [true] fun K hK => ?_); simp (maxSteps := 10000000) (disch := first | omega | simp) []; refine hK _ ?_ (by simp); clear hK; first | done | (simp (maxSteps := 10000000) (disch := first | omega | simp) [*]; done) | (simp (maxSteps := 10000000) (disch := first | omega | simp) [*]; omega) | (simp_all []; done) | (simp_all []; omega))
theorem apply_ok9 (m : Image) (r : Record) (h : ApPre m r) (hr : ACall pg 20 [encR r] (.c .nilIface)) (hk : r.kind = 9) {cs : List V} {m' : Image} (hT : ACallM pg 24 [.own (cellsO m)] [encR r] (.c .nilIface) [.own cs]) (hpv : pvL cs = cellsM m') : ACall pg 7 [encM m, encR r] (.tup [encM m', .c .nilIface]) := by
  have hcp := copy_ok m h.pre h.small
  refine s7.call mo (by simp) fun hxs => ?_
  clear hxs
  have q2 : (r.kind == 2) = false := by simp [hk]
  have q3 : (r.kind == 3) = false := by simp [hk]
  have q4 : (r.kind == 4) = false := by simp [hk]
  have q5 : (r.kind == 5) = false := by simp [hk]
  have q6 : (r.kind == 6) = false := by simp [hk]
  have q7 : (r.kind == 7) = false := by simp [hk]
  have q8 : (r.kind == 8) = false := by simp [hk]
  have q9 : (r.kind == 9) = true := by simp [hk]
  have q10 : (r.kind == 10) = false := by simp [hk]
  have q11 : (r.kind == 11) = false := by simp [hk]
  have q12 : (r.kind == 12) = false := by simp [hk]
  simp only [cellsO_eq] at hT
  unfold c7; dsimp only [oA, oC, oD, oF, oG, oK, oL, oM, oO, oS, oU]
  repeat' first | (with_reducible first | refine thN ?_ | refine inN ?_ | refine fF ?_ | refine fS ?_ | refine fR ?_ | refine fQ ?_ | refine fC ?_ | refine awBlock ?_ | refine awRet ?_ | refine awSkip ?_) | ((with_reducible refine awReg fun K hok hK => ?_); clear hok; (try simp (maxSteps := 10000000) (disch := first | omega | simp) [q2, q3, q4, q5, q6, q7, q8, q9, q10, q11, q12, isConst]); (repeat' first | (with_reducible refine hK _ (by simp) ?_) | ((first | ((with_reducible refine callS' fun K2 hK2 => ?_); (try simp (maxSteps := 10000000) (disch := first | omega | simp) [q2, q3, q4, q5, q6, q7, q8, q9, q10, q11, q12, isConst]); (first | refine hK2 _ _ hr rfl fun hk9 => ?_ | refine hK2 _ _ hcp rfl fun hk9 => ?_ | refine hK2 _ _ hT rfl fun hk9 => ?_); clear hk9; clear hK2 K2) | ((with_reducible refine callF' fun K2 hK2 => ?_); (try simp (maxSteps := 10000000) (disch := first | omega | simp) [q2, q3, q4, q5, q6, q7, q8, q9, q10, q11, q12, isConst]); (first | refine hK2 _ _ _ hr fun _ => ?_ | refine hK2 _ _ _ hcp fun _ => ?_ | refine hK2 _ _ _ hT fun _ => ?_); clear hK2 K2) | ((with_reducible refine callM' rfl fun K2 hK2 => ?_); (try simp (maxSteps := 10000000) (disch := first | omega | simp) [q2, q3, q4, q5, q6, q7, q8, q9, q10, q11, q12, isConst]); (first | refine hK2 _ _ _ _ _ _ _ hr rfl fun _ _ => ?_ | refine hK2 _ _ _ _ _ _ _ hcp rfl fun _ _ => ?_ | refine hK2 _ _ _ _ _ _ _ hT rfl fun _ _ => ?_); clear hK2 K2)); (try simp (maxSteps := 10000000) (disch := first | omega | simp) [q2, q3, q4, q5, q6, q7, q8, q9, q10, q11, q12, isConst]))) <;> clear hK K) | ((with_reducible refine awCond fun A B hA hB => ?_); simp (maxSteps := 10000000) (disch := first | omega | simp) [q2, q3, q4, q5, q6, q7, q8, q9, q10, q11, q12, isConst]; (first | refine ⟨fun h => hA ?_, fun h => hB ?_⟩ | refine hA ?_ | refine hB ?_) <;> (clear hA hB A B; (try (exfalso; omega))))
  refine awWk (ofA [(4, .p (.own [.uq [], .uq [], .uq [], .uq [], I 0])), (7, .p (.ip (cellsM m') 0))]) ((Wk.frzB (r := 7) rfl).trans (Wk.ofA (by simp [hpv]))) ?_
  clear hpv
  repeat' first | (with_reducible first | refine thN ?_ | refine inN ?_ | refine fF ?_ | refine fS ?_ | refine fR ?_ | refine fQ ?_ | refine fC ?_ | refine awBlock ?_ | refine awRet ?_ | refine awSkip ?_) | ((with_reducible refine awReg fun K hok hK => ?_); clear hok; (try simp (maxSteps := 10000000) (disch := first | omega | simp) []); (repeat' first | (with_reducible refine hK _ (by simp) ?_)) <;> clear hK K) | ((with_reducible refine awCond fun A B hA hB => ?_); simp (maxSteps := 10000000) (disch := first | omega | simp) []; (first | refine ⟨fun h => hA ?_, fun h => hB ?_⟩ | refine hA ?_ | refine hB ?_) <;> (clear hA hB A B; (try (exfalso; omega))))
  (refine aEnR (aRes [true] fun K hK => ?_); simp (maxSteps := 10000000) (disch := first | omega | simp) []; refine hK _ ?_ (by simp); clear hK; first | done | (simp (maxSteps := 10000000) (disch := first | omega | simp) [*]; done) | (simp (maxSteps := 10000000) (disch := first | omega | simp) [*]; omega) | (simp_all []; done) | (simp_all []; omega))
theorem apply_no9 (m : Image) (r : Record) (h : ApPre m r) (hr : ACall pg 20 [encR r] (.c .nilIface)) (hk : r.kind = 9) {cs : List V} {e : Er} (hT : ACallM pg 24 [.own (cellsO m)] [encR r] (errE (some e)) [.own cs]) : ACall pg 7 [encM m, encR r] (.tup [encM m, errE (some (.fault apl r.kind e))]) := by
  have hcp := copy_ok m h.pre h.small
  have hwr := wrap_ok apl r.kind (some e)
  obtain ⟨ty, v, he⟩ := encE_if e
  obtain ⟨ty2, v2, he2⟩ := encE_if (.fault apl r.kind e)
  simp only [Option.map_some, errE_some, he, he2] at hwr hT ⊢
  refine s7.call mo (by simp) fun hxs => ?_
  clear hxs
  have q2 : (r.kind == 2) = false := by simp [hk]
  have q3 : (r.kind == 3) = false := by simp [hk]
  have q4 : (r.kind == 4) = false := by simp [hk]
  have q5 : (r.kind == 5) = false := by simp [hk]
  have q6 : (r.kind == 6) = false := by simp [hk]
  have q7 : (r.kind == 7) = false := by simp [hk]
  have q8 : (r.kind == 8) = false := by simp [hk]
  have q9 : (r.kind == 9) = true := by simp [hk]
  have q10 : (r.kind == 10) = false := by simp [hk]
  have q11 : (r.kind == 11) = false := by simp [hk]
  have q12 : (r.kind == 12) = false := by simp [hk]
  simp only [cellsO_eq] at hT
  unfold c7; dsimp only [oA, oC, oD, oF, oG, oK, oL, oM, oO, oS, oU]
  repeat' first | (with_reducible first | refine thN ?_ | refine inN ?_ | refine fF ?_ | refine fS ?_ | refine fR ?_ | refine fQ ?_ | refine fC ?_ | refine fT ?_ | refine awBlock ?_ | refine awRet ?_ | refine awSkip ?_) | ((with_reducible refine awReg fun K hok hK => ?_); clear hok; (try simp (maxSteps := 10000000) (disch := first | omega | simp) [q2, q3, q4, q5, q6, q7, q8, q9, q10, q11, q12, isConst]); (repeat' first | (with_reducible refine hK _ (by simp) ?_) | ((first | ((with_reducible refine callS' fun K2 hK2 => ?_); (try simp (maxSteps := 10000000) (disch := first | omega | simp) [q2, q3, q4, q5, q6, q7, q8, q9, q10, q11, q12, isConst]); (first | refine hK2 _ _ hr rfl fun hk9 => ?_ | refine hK2 _ _ hcp rfl fun hk9 => ?_ | refine hK2 _ _ hT rfl fun hk9 => ?_ | refine hK2 _ _ hwr rfl fun hk9 => ?_); clear hk9; clear hK2 K2) | ((with_reducible refine callF' fun K2 hK2 => ?_); (try simp (maxSteps := 10000000) (disch := first | omega | simp) [q2, q3, q4, q5, q6, q7, q8, q9, q10, q11, q12, isConst]); (first | refine hK2 _ _ _ hr fun _ => ?_ | refine hK2 _ _ _ hcp fun _ => ?_ | refine hK2 _ _ _ hT fun _ => ?_ | refine hK2 _ _ _ hwr fun _ => ?_); clear hK2 K2) | ((with_reducible refine sideS' fun K2 hK2 => ?_); (try simp (maxSteps := 10000000) (disch := first | omega | simp) [q2, q3, q4, q5, q6, q7, q8, q9, q10, q11, q12, isConst]); (first | refine hK2 _ _ (hr) rfl ?_ | refine hK2 _ _ (hcp) rfl ?_ | refine hK2 _ _ (hT) rfl ?_ | refine hK2 _ _ (hwr) rfl ?_); clear hK2 K2) | ((with_reducible refine callM' rfl fun K2 hK2 => ?_); (try simp (maxSteps := 10000000) (disch := first | omega | simp) [q2, q3, q4, q5, q6, q7, q8, q9, q10, q11, q12, isConst]); (first | refine hK2 _ _ _ _ _ _ _ hr rfl fun _ _ => ?_ | refine hK2 _ _ _ _ _ _ _ hcp rfl fun _ _ => ?_ | refine hK2 _ _ _ _ _ _ _ hT rfl fun _ _ => ?_ | refine hK2 _ _ _ _ _ _ _ hwr rfl fun _ _ => ?_); clear hK2 K2) | ((with_reducible refine sideQ' ?_ ?_ fun K2 hK2 => ?_); exact rfl; exact rfl; (try simp (maxSteps := 10000000) (disch := first | omega | simp) [q2, q3, q4, q5, q6, q7, q8, q9, q10, q11, q12, isConst]); with_reducible refine hK2 _ _ ?_; clear hK2 K2)); (try simp (maxSteps := 10000000) (disch := first | omega | simp) [q2, q3, q4, q5, q6, q7, q8, q9, q10, q11, q12, isConst]))) <;> clear hK K) | ((with_reducible refine awCond fun A B hA hB => ?_); simp (maxSteps := 10000000) (disch := first | omega | simp) [q2, q3, q4, q5, q6, q7, q8, q9, q10, q11, q12, isConst]; (first | refine ⟨fun h => hA ?_, fun h => hB ?_⟩ | refine hA ?_ | refine hB ?_) <;> (clear hA hB A B; (try (exfalso; omega))))
  (refine aEnR (aRes [true] fun K hK => ?_); simp (maxSteps := 10000000) (disch := first | omega | simp) []; refine hK _ ?_ (by simp); clear hK; first | done | (simp (maxSteps := 10000000) (disch := first | omega | simp) [*]; done) | (simp (maxSteps := 10000000) (disch := first | omega | simp) [*]; omega) | (simp_all []; done) | (simp_all []; omega))
theorem apply_ok10 (m : Image) (r : Record) (h : ApPre m r) (hr : ACall pg 20 [encR r] (.c .nilIface)) (hk : r.kind = 10) {cs : List V} {m' : Image} (hT : ACallM pg 26 [.own (cellsO m)] [encR r] (.c .nilIface) [.own cs]) (hpv : pvL cs = cellsM m') : ACall pg 7 [encM m, encR r] (.tup [encM m', .c .nilIface]) := by
  have hcp := copy_ok m h.pre h.small
  refine s7.call mo (by simp) fun hxs => ?_
  clear hxs
  have q2 : (r.kind == 2) = false := by simp [hk]
  have q3 : (r.kind == 3) = false := by simp [hk]
  have q4 : (r.kind == 4) = false := by simp [hk]
  have q5 : (r.kind == 5) = false := by simp [hk]
  have q6 : (r.kind == 6) = false := by simp [hk]
  have q7 : (r.kind == 7) = false := by simp [hk]
  have q8 : (r.kind == 8) = false := by simp [hk]
  have q9 : (r.kind == 9) = false := by simp [hk]
  have q10 : (r.kind == 10) = true := by simp [hk]
  have q11 : (r.kind == 11) = false := by simp [hk]
  have q12 : (r.kind == 12) = false := by simp [hk]
  simp only [cellsO_eq] at hT
  unfold c7; dsimp only [oA, oC, oD, oF, oG, oK, oL, oM, oO, oS, oU]
  repeat' first | (with_reducible first | refine thN ?_ | refine inN ?_ | refine fF ?_ | refine fS ?_ | refine fR ?_ | refine fQ ?_ | refine fC ?_ | refine awBlock ?_ | refine awRet ?_ | refine awSkip ?_) | ((with_reducible refine awReg fun K hok hK => ?_); clear hok; (try simp (maxSteps := 10000000) (disch := first | omega | simp) [q2, q3, q4, q5, q6, q7, q8, q9, q10, q11, q12, isConst]); (repeat' first | (with_reducible refine hK _ (by simp) ?_) | ((first | ((with_reducible refine callS' fun K2 hK2 => ?_); (try simp (maxSteps := 10000000) (disch := first | omega | simp) [q2, q3, q4, q5, q6, q7, q8, q9, q10, q11, q12, isConst]); (first | refine hK2 _ _ hr rfl fun hk9 => ?_ | refine hK2 _ _ hcp rfl fun hk9 => ?_ | refine hK2 _ _ hT rfl fun hk9 => ?_); clear hk9; clear hK2 K2) | ((with_reducible refine callF' fun K2 hK2 => ?_); (try simp (maxSteps := 10000000) (disch := first | omega | simp) [q2, q3, q4, q5, q6, q7, q8, q9, q10, q11, q12, isConst]); (first | refine hK2 _ _ _ hr fun _ => ?_ | refine hK2 _ _ _ hcp fun _ => ?_ | refine hK2 _ _ _ hT fun _ => ?_); clear hK2 K2) | ((with_reducible refine callM' rfl fun K2 hK2 => ?_); (try simp (maxSteps := 10000000) (disch := first | omega | simp) [q2, q3, q4, q5, q6, q7, q8, q9, q10, q11, q12, isConst]); (first | refine hK2 _ _ _ _ _ _ _ hr rfl fun _ _ => ?_ | refine hK2 _ _ _ _ _ _ _ hcp rfl fun _ _ => ?_ | refine hK2 _ _ _ _ _ _ _ hT rfl fun _ _ => ?_); clear hK2 K2)); (try simp (maxSteps := 10000000) (disch := first | omega | simp) [q2, q3, q4, q5, q6, q7, q8, q9, q10, q11, q12, isConst]))) <;> clear hK K) | ((with_reducible refine awCond fun A B hA hB => ?_); simp (maxSteps := 10000000) (disch := first | omega | simp) [q2, q3, q4, q5, q6, q7, q8, q9, q10, q11, q12, isConst]; (first | refine ⟨fun h => hA ?_, fun h => hB ?_⟩ | refine hA ?_ | refine hB ?_) <;> (clear hA hB A B; (try (exfalso; omega))))
  refine awWk (ofA [(4, .p (.own [.uq [], .uq [], .uq [], .uq [], I 0])), (7, .p (.ip (cellsM m') 0))]) ((Wk.frzB (r := 7) rfl).trans (Wk.ofA (by simp [hpv]))) ?_
  clear hpv
  repeat' first | (with_reducible first | refine thN ?_ | refine inN ?_ | refine fF ?_ | refine fS ?_ | refine fR ?_ | refine fQ ?_ | refine fC ?_ | refine awBlock ?_ | refine awRet ?_ | refine awSkip ?_) | ((with_reducible refine awReg fun K hok hK => ?_); clear hok; (try simp (maxSteps := 10000000) (disch := first | omega | simp) []); (repeat' first | (with_reducible refine hK _ (by simp) ?_)) <;> clear hK K) | ((with_reducible refine awCond fun A B hA hB => ?_); simp (maxSteps := 10000000) (disch := first | omega | simp) []; (first | refine ⟨fun h => hA ?_, fun h => hB ?_⟩ | refine hA ?_ | refine hB ?_) <;> (clear hA hB A B; (try (exfalso; omega))))
  (refine aEnR (aRes [true] fun K hK => ?_); simp (maxSteps := 10000000) (disch := first | omega | simp) []; refine hK _ ?_ (by simp); clear hK; first | done | (simp (maxSteps := 10000000) (disch := first | omega | simp) [*]; done) | (simp (maxSteps := 10000000) (disch := first | omega | simp) [*]; omega) | (simp_all []; done) | (simp_all []; omega))
theorem apply_no10 (m : Image) (r : Record) (h : ApPre m r) (hr : ACall pg 20 [encR r] (.c .nilIface)) (hk : r.kind = 10) {cs : List V} {e : Er} (hT : ACallM pg 26 [.own (cellsO m)] [encR r] (errE (some e)) [.own cs]) : ACall pg 7 [encM m, encR r] (.tup [encM m, errE (some (.fault apl r.kind e))]) := by
  have hcp := copy_ok m h.pre h.small
  have hwr := wrap_ok apl r.kind (some e)
  obtain ⟨ty, v, he⟩ := encE_if e
  obtain ⟨ty2, v2, he2⟩ := encE_if (.fault apl r.kind e)
  simp only [Option.map_some, errE_some, he, he2] at hwr hT ⊢
  refine s7.call mo (by simp) fun hxs => ?_
  clear hxs
  have q2 : (r.kind == 2) = false := by simp [hk]
  have q3 : (r.kind == 3) = false := by simp [hk]
  have q4 : (r.kind == 4) = false := by simp [hk]
  have q5 : (r.kind == 5) = false := by simp [hk]
  have q6 : (r.kind == 6) = false := by simp [hk]
  have q7 : (r.kind == 7) = false := by simp [hk]
  have q8 : (r.kind == 8) = false := by simp [hk]
  have q9 : (r.kind == 9) = false := by simp [hk]
  have q10 : (r.kind == 10) = true := by simp [hk]
  have q11 : (r.kind == 11) = false := by simp [hk]
  have q12 : (r.kind == 12) = false := by simp [hk]
  simp only [cellsO_eq] at hT
  unfold c7; dsimp only [oA, oC, oD, oF, oG, oK, oL, oM, oO, oS, oU]
  repeat' first | (with_reducible first | refine thN ?_ | refine inN ?_ | refine fF ?_ | refine fS ?_ | refine fR ?_ | refine fQ ?_ | refine fC ?_ | refine fT ?_ | refine awBlock ?_ | refine awRet ?_ | refine awSkip ?_) | ((with_reducible refine awReg fun K hok hK => ?_); clear hok; (try simp (maxSteps := 10000000) (disch := first | omega | simp) [q2, q3, q4, q5, q6, q7, q8, q9, q10, q11, q12, isConst]); (repeat' first | (with_reducible refine hK _ (by simp) ?_) | ((first | ((with_reducible refine callS' fun K2 hK2 => ?_); (try simp (maxSteps := 10000000) (disch := first | omega | simp) [q2, q3, q4, q5, q6, q7, q8, q9, q10, q11, q12, isConst]); (first | refine hK2 _ _ hr rfl fun hk9 => ?_ | refine hK2 _ _ hcp rfl fun hk9 => ?_ | refine hK2 _ _ hT rfl fun hk9 => ?_ | refine hK2 _ _ hwr rfl fun hk9 => ?_); clear hk9; clear hK2 K2) | ((with_reducible refine callF' fun K2 hK2 => ?_); (try simp (maxSteps := 10000000) (disch := first | omega | simp) [q2, q3, q4, q5, q6, q7, q8, q9, q10, q11, q12, isConst]); (first | refine hK2 _ _ _ hr fun _ => ?_ | refine hK2 _ _ _ hcp fun _ => ?_ | refine hK2 _ _ _ hT fun _ => ?_ | refine hK2 _ _ _ hwr fun _ => ?_); clear hK2 K2) | ((with_reducible refine sideS' fun K2 hK2 => ?_); (try simp (maxSteps := 10000000) (disch := first | omega | simp) [q2, q3, q4, q5, q6, q7, q8, q9, q10, q11, q12, isConst]); (first | refine hK2 _ _ (hr) rfl ?_ | refine hK2 _ _ (hcp) rfl ?_ | refine hK2 _ _ (hT) rfl ?_ | refine hK2 _ _ (hwr) rfl ?_); clear hK2 K2) | ((with_reducible refine callM' rfl fun K2 hK2 => ?_); (try simp (maxSteps := 10000000) (disch := first | omega | simp) [q2, q3, q4, q5, q6, q7, q8, q9, q10, q11, q12, isConst]); (first | refine hK2 _ _ _ _ _ _ _ hr rfl fun _ _ => ?_ | refine hK2 _ _ _ _ _ _ _ hcp rfl fun _ _ => ?_ | refine hK2 _ _ _ _ _ _ _ hT rfl fun _ _ => ?_ | refine hK2 _ _ _ _ _ _ _ hwr rfl fun _ _ => ?_); clear hK2 K2) | ((with_reducible refine sideQ' ?_ ?_ fun K2 hK2 => ?_); exact rfl; exact rfl; (try simp (maxSteps := 10000000) (disch := first | omega | simp) [q2, q3, q4, q5, q6, q7, q8, q9, q10, q11, q12, isConst]); with_reducible refine hK2 _ _ ?_; clear hK2 K2)); (try simp (maxSteps := 10000000) (disch := first | omega | simp) [q2, q3, q4, q5, q6, q7, q8, q9, q10, q11, q12, isConst]))) <;> clear hK K) | ((with_reducible refine awCond fun A B hA hB => ?_); simp (maxSteps := 10000000) (disch := first | omega | simp) [q2, q3, q4, q5, q6, q7, q8, q9, q10, q11, q12, isConst]; (first | refine ⟨fun h => hA ?_, fun h => hB ?_⟩ | refine hA ?_ | refine hB ?_) <;> (clear hA hB A B; (try (exfalso; omega))))
  (refine aEnR (aRes [true] fun K hK => ?_); simp (maxSteps := 10000000) (disch := first | omega | simp) []; refine hK _ ?_ (by simp); clear hK; first | done | (simp (maxSteps := 10000000) (disch := first | omega | simp) [*]; done) | (simp (maxSteps := 10000000) (disch := first | omega | simp) [*]; omega) | (simp_all []; done) | (simp_all []; omega))
theorem apply_ok11 (m : Image) (r : Record) (h : ApPre m r) (hr : ACall pg 20 [encR r] (.c .nilIface)) (hk : r.kind = 11) {cs : List V} {m' : Image} (hT : ACallM pg 25 [.own (cellsO m)] [encR r] (.c .nilIface) [.own cs]) (hpv : pvL cs = cellsM m') : ACall pg 7 [encM m, encR r] (.tup [encM m', .c .nilIface]) := by
  have hcp := copy_ok m h.pre h.small
  refine s7.call mo (by simp) fun hxs => ?_
  clear hxs
  have q2 : (r.kind == 2) = false := by simp [hk]
  have q3 : (r.kind == 3) = false := by simp [hk]
  have q4 : (r.kind == 4) = false := by simp [hk]
  have q5 : (r.kind == 5) = false := by simp [hk]
  have q6 : (r.kind == 6) = false := by simp [hk]
  have q7 : (r.kind == 7) = false := by simp [hk]
  have q8 : (r.kind == 8) = false := by simp [hk]
  have q9 : (r.kind == 9) = false := by simp [hk]
  have q10 : (r.kind == 10) = false := by simp [hk]
  have q11 : (r.kind == 11) = true := by simp [hk]
  have q12 : (r.kind == 12) = false := by simp [hk]
  simp only [cellsO_eq] at hT
  unfold c7; dsimp only [oA, oC, oD, oF, oG, oK, oL, oM, oO, oS, oU]
  repeat' first | (with_reducible first | refine thN ?_ | refine inN ?_ | refine fF ?_ | refine fS ?_ | refine fR ?_ | refine fQ ?_ | refine fC ?_ | refine awBlock ?_ | refine awRet ?_ | refine awSkip ?_) | ((with_reducible refine awReg fun K hok hK => ?_); clear hok; (try simp (maxSteps := 10000000) (disch := first | omega | simp) [q2, q3, q4, q5, q6, q7, q8, q9, q10, q11, q12, isConst]); (repeat' first | (with_reducible refine hK _ (by simp) ?_) | ((first | ((with_reducible refine callS' fun K2 hK2 => ?_); (try simp (maxSteps := 10000000) (disch := first | omega | simp) [q2, q3, q4, q5, q6, q7, q8, q9, q10, q11, q12, isConst]); (first | refine hK2 _ _ hr rfl fun hk9 => ?_ | refine hK2 _ _ hcp rfl fun hk9 => ?_ | refine hK2 _ _ hT rfl fun hk9 => ?_); clear hk9; clear hK2 K2) | ((with_reducible refine callF' fun K2 hK2 => ?_); (try simp (maxSteps := 10000000) (disch := first | omega | simp) [q2, q3, q4, q5, q6, q7, q8, q9, q10, q11, q12, isConst]); (first | refine hK2 _ _ _ hr fun _ => ?_ | refine hK2 _ _ _ hcp fun _ => ?_ | refine hK2 _ _ _ hT fun _ => ?_); clear hK2 K2) | ((with_reducible refine callM' rfl fun K2 hK2 => ?_); (try simp (maxSteps := 10000000) (disch := first | omega | simp) [q2, q3, q4, q5, q6, q7, q8, q9, q10, q11, q12, isConst]); (first | refine hK2 _ _ _ _ _ _ _ hr rfl fun _ _ => ?_ | refine hK2 _ _ _ _ _ _ _ hcp rfl fun _ _ => ?_ | refine hK2 _ _ _ _ _ _ _ hT rfl fun _ _ => ?_); clear hK2 K2)); (try simp (maxSteps := 10000000) (disch := first | omega | simp) [q2, q3, q4, q5, q6, q7, q8, q9, q10, q11, q12, isConst]))) <;> clear hK K) | ((with_reducible refine awCond fun A B hA hB => ?_); simp (maxSteps := 10000000) (disch := first | omega | simp) [q2, q3, q4, q5, q6, q7, q8, q9, q10, q11, q12, isConst]; (first | refine ⟨fun h => hA ?_, fun h => hB ?_⟩ | refine hA ?_ | refine hB ?_) <;> (clear hA hB A B; (try (exfalso; omega))))
  refine awWk (ofA [(4, .p (.own [.uq [], .uq [], .uq [], .uq [], I 0])), (7, .p (.ip (cellsM m') 0))]) ((Wk.frzB (r := 7) rfl).trans (Wk.ofA (by simp [hpv]))) ?_
  clear hpv
  repeat' first | (with_reducible first | refine thN ?_ | refine inN ?_ | refine fF ?_ | refine fS ?_ | refine fR ?_ | refine fQ ?_ | refine fC ?_ | refine awBlock ?_ | refine awRet ?_ | refine awSkip ?_) | ((with_reducible refine awReg fun K hok hK => ?_); clear hok; (try simp (maxSteps := 10000000) (disch := first | omega | simp) []); (repeat' first | (with_reducible refine hK _ (by simp) ?_)) <;> clear hK K) | ((with_reducible refine awCond fun A B hA hB => ?_); simp (maxSteps := 10000000) (disch := first | omega | simp) []; (first | refine ⟨fun h => hA ?_, fun h => hB ?_⟩ | refine hA ?_ | refine hB ?_) <;> (clear hA hB A B; (try (exfalso; omega))))
  (refine aEnR (aRes [true] fun K hK => ?_); simp (maxSteps := 10000000) (disch := first | omega | simp) []; refine hK _ ?_ (by simp); clear hK; first | done | (simp (maxSteps := 10000000) (disch := first | omega | simp) [*]; done) | (simp (maxSteps := 10000000) (disch := first | omega | simp) [*]; omega) | (simp_all []; done) | (simp_all []; omega))
theorem apply_no11 (m : Image) (r : Record) (h : ApPre m r) (hr : ACall pg 20 [encR r] (.c .nilIface)) (hk : r.kind = 11) {cs : List V} {e : Er} (hT : ACallM pg 25 [.own (cellsO m)] [encR r] (errE (some e)) [.own cs]) : ACall pg 7 [encM m, encR r] (.tup [encM m, errE (some (.fault apl r.kind e))]) := by
  have hcp := copy_ok m h.pre h.small
  have hwr := wrap_ok apl r.kind (some e)
  obtain ⟨ty, v, he⟩ := encE_if e
  obtain ⟨ty2, v2, he2⟩ := encE_if (.fault apl r.kind e)
  simp only [Option.map_some, errE_some, he, he2] at hwr hT ⊢
  refine s7.call mo (by simp) fun hxs => ?_
  clear hxs
  have q2 : (r.kind == 2) = false := by simp [hk]
  have q3 : (r.kind == 3) = false := by simp [hk]
  have q4 : (r.kind == 4) = false := by simp [hk]
  have q5 : (r.kind == 5) = false := by simp [hk]
  have q6 : (r.kind == 6) = false := by simp [hk]
  have q7 : (r.kind == 7) = false := by simp [hk]
  have q8 : (r.kind == 8) = false := by simp [hk]
  have q9 : (r.kind == 9) = false := by simp [hk]
  have q10 : (r.kind == 10) = false := by simp [hk]
  have q11 : (r.kind == 11) = true := by simp [hk]
  have q12 : (r.kind == 12) = false := by simp [hk]
  simp only [cellsO_eq] at hT
  unfold c7; dsimp only [oA, oC, oD, oF, oG, oK, oL, oM, oO, oS, oU]
  repeat' first | (with_reducible first | refine thN ?_ | refine inN ?_ | refine fF ?_ | refine fS ?_ | refine fR ?_ | refine fQ ?_ | refine fC ?_ | refine fT ?_ | refine awBlock ?_ | refine awRet ?_ | refine awSkip ?_) | ((with_reducible refine awReg fun K hok hK => ?_); clear hok; (try simp (maxSteps := 10000000) (disch := first | omega | simp) [q2, q3, q4, q5, q6, q7, q8, q9, q10, q11, q12, isConst]); (repeat' first | (with_reducible refine hK _ (by simp) ?_) | ((first | ((with_reducible refine callS' fun K2 hK2 => ?_); (try simp (maxSteps := 10000000) (disch := first | omega | simp) [q2, q3, q4, q5, q6, q7, q8, q9, q10, q11, q12, isConst]); (first | refine hK2 _ _ hr rfl fun hk9 => ?_ | refine hK2 _ _ hcp rfl fun hk9 => ?_ | refine hK2 _ _ hT rfl fun hk9 => ?_ | refine hK2 _ _ hwr rfl fun hk9 => ?_); clear hk9; clear hK2 K2) | ((with_reducible refine callF' fun K2 hK2 => ?_); (try simp (maxSteps := 10000000) (disch := first | omega | simp) [q2, q3, q4, q5, q6, q7, q8, q9, q10, q11, q12, isConst]); (first | refine hK2 _ _ _ hr fun _ => ?_ | refine hK2 _ _ _ hcp fun _ => ?_ | refine hK2 _ _ _ hT fun _ => ?_ | refine hK2 _ _ _ hwr fun _ => ?_); clear hK2 K2) | ((with_reducible refine sideS' fun K2 hK2 => ?_); (try simp (maxSteps := 10000000) (disch := first | omega | simp) [q2, q3, q4, q5, q6, q7, q8, q9, q10, q11, q12, isConst]); (first | refine hK2 _ _ (hr) rfl ?_ | refine hK2 _ _ (hcp) rfl ?_ | refine hK2 _ _ (hT) rfl ?_ | refine hK2 _ _ (hwr) rfl ?_); clear hK2 K2) | ((with_reducible refine callM' rfl fun K2 hK2 => ?_); (try simp (maxSteps := 10000000) (disch := first | omega | simp) [q2, q3, q4, q5, q6, q7, q8, q9, q10, q11, q12, isConst]); (first | refine hK2 _ _ _ _ _ _ _ hr rfl fun _ _ => ?_ | refine hK2 _ _ _ _ _ _ _ hcp rfl fun _ _ => ?_ | refine hK2 _ _ _ _ _ _ _ hT rfl fun _ _ => ?_ | refine hK2 _ _ _ _ _ _ _ hwr rfl fun _ _ => ?_); clear hK2 K2) | ((with_reducible refine sideQ' ?_ ?_ fun K2 hK2 => ?_); exact rfl; exact rfl; (try simp (maxSteps := 10000000) (disch := first | omega | simp) [q2, q3, q4, q5, q6, q7, q8, q9, q10, q11, q12, isConst]); with_reducible refine hK2 _ _ ?_; clear hK2 K2)); (try simp (maxSteps := 10000000) (disch := first | omega | simp) [q2, q3, q4, q5, q6, q7, q8, q9, q10, q11, q12, isConst]))) <;> clear hK K) | ((with_reducible refine awCond fun A B hA hB => ?_); simp (maxSteps := 10000000) (disch := first | omega | simp) [q2, q3, q4, q5, q6, q7, q8, q9, q10, q11, q12, isConst]; (first | refine ⟨fun h => hA ?_, fun h => hB ?_⟩ | refine hA ?_ | refine hB ?_) <;> (clear hA hB A B; (try (exfalso; omega))))
  (refine aEnR (aRes [true] fun K hK => ?_); simp (maxSteps := 10000000) (disch := first | omega | simp) []; refine hK _ ?_ (by simp); clear hK; first | done | (simp (maxSteps := 10000000) (disch := first | omega | simp) [*]; done) | (simp (maxSteps := 10000000) (disch := first | omega | simp) [*]; omega) | (simp_all []; done) | (simp_all []; omega))
theorem apply_ok12 (m : Image) (r : Record) (h : ApPre m r) (hr : ACall pg 20 [encR r] (.c .nilIface)) (hk : r.kind = 12) {cs : List V} {m' : Image} (hT : ACallM pg 27 [.own (cellsO m)] [encR r] (.c .nilIface) [.own cs]) (hpv : pvL cs = cellsM m') : ACall pg 7 [encM m, encR r] (.tup [encM m', .c .nilIface]) := by
  have hcp := copy_ok m h.pre h.small
  refine s7.call mo (by simp) fun hxs => ?_
  clear hxs
  have q2 : (r.kind == 2) = false := by simp [hk]
  have q3 : (r.kind == 3) = false := by simp [hk]
  have q4 : (r.kind == 4) = false := by simp [hk]
  have q5 : (r.kind == 5) = false := by simp [hk]
  have q6 : (r.kind == 6) = false := by simp [hk]
  have q7 : (r.kind == 7) = false := by simp [hk]
  have q8 : (r.kind == 8) = false := by simp [hk]
  have q9 : (r.kind == 9) = false := by simp [hk]
  have q10 : (r.kind == 10) = false := by simp [hk]
  have q11 : (r.kind == 11) = false := by simp [hk]
  have q12 : (r.kind == 12) = true := by simp [hk]
  simp only [cellsO_eq] at hT
  unfold c7; dsimp only [oA, oC, oD, oF, oG, oK, oL, oM, oO, oS, oU]
  repeat' first | (with_reducible first | refine thN ?_ | refine inN ?_ | refine fF ?_ | refine fS ?_ | refine fR ?_ | refine fQ ?_ | refine fC ?_ | refine awBlock ?_ | refine awRet ?_ | refine awSkip ?_) | ((with_reducible refine awReg fun K hok hK => ?_); clear hok; (try simp (maxSteps := 10000000) (disch := first | omega | simp) [q2, q3, q4, q5, q6, q7, q8, q9, q10, q11, q12, isConst]); (repeat' first | (with_reducible refine hK _ (by simp) ?_) | ((first | ((with_reducible refine callS' fun K2 hK2 => ?_); (try simp (maxSteps := 10000000) (disch := first | omega | simp) [q2, q3, q4, q5, q6, q7, q8, q9, q10, q11, q12, isConst]); (first | refine hK2 _ _ hr rfl fun hk9 => ?_ | refine hK2 _ _ hcp rfl fun hk9 => ?_ | refine hK2 _ _ hT rfl fun hk9 => ?_); clear hk9; clear hK2 K2) | ((with_reducible refine callF' fun K2 hK2 => ?_); (try simp (maxSteps := 10000000) (disch := first | omega | simp) [q2, q3, q4, q5, q6, q7, q8, q9, q10, q11, q12, isConst]); (first | refine hK2 _ _ _ hr fun _ => ?_ | refine hK2 _ _ _ hcp fun _ => ?_ | refine hK2 _ _ _ hT fun _ => ?_); clear hK2 K2) | ((with_reducible refine callM' rfl fun K2 hK2 => ?_); (try simp (maxSteps := 10000000) (disch := first | omega | simp) [q2, q3, q4, q5, q6, q7, q8, q9, q10, q11, q12, isConst]); (first | refine hK2 _ _ _ _ _ _ _ hr rfl fun _ _ => ?_ | refine hK2 _ _ _ _ _ _ _ hcp rfl fun _ _ => ?_ | refine hK2 _ _ _ _ _ _ _ hT rfl fun _ _ => ?_); clear hK2 K2)); (try simp (maxSteps := 10000000) (disch := first | omega | simp) [q2, q3, q4, q5, q6, q7, q8, q9, q10, q11, q12, isConst]))) <;> clear hK K) | ((with_reducible refine awCond fun A B hA hB => ?_); simp (maxSteps := 10000000) (disch := first | omega | simp) [q2, q3, q4, q5, q6, q7, q8, q9, q10, q11, q12, isConst]; (first | refine ⟨fun h => hA ?_, fun h => hB ?_⟩ | refine hA ?_ | refine hB ?_) <;> (clear hA hB A B; (try (exfalso; omega))))
  refine awWk (ofA [(4, .p (.own [.uq [], .uq [], .uq [], .uq [], I 0])), (7, .p (.ip (cellsM m') 0))]) ((Wk.frzB (r := 7) rfl).trans (Wk.ofA (by simp [hpv]))) ?_
  clear hpv
  repeat' first | (with_reducible first | refine thN ?_ | refine inN ?_ | refine fF ?_ | refine fS ?_ | refine fR ?_ | refine fQ ?_ | refine fC ?_ | refine awBlock ?_ | refine awRet ?_ | refine awSkip ?_) | ((with_reducible refine awReg fun K hok hK => ?_); clear hok; (try simp (maxSteps := 10000000) (disch := first | omega | simp) []); (repeat' first | (with_reducible refine hK _ (by simp) ?_)) <;> clear hK K) | ((with_reducible refine awCond fun A B hA hB => ?_); simp (maxSteps := 10000000) (disch := first | omega | simp) []; (first | refine ⟨fun h => hA ?_, fun h => hB ?_⟩ | refine hA ?_ | refine hB ?_) <;> (clear hA hB A B; (try (exfalso; omega))))
  (refine aEnR (aRes [true] fun K hK => ?_); simp (maxSteps := 10000000) (disch := first | omega | simp) []; refine hK _ ?_ (by simp); clear hK; first | done | (simp (maxSteps := 10000000) (disch := first | omega | simp) [*]; done) | (simp (maxSteps := 10000000) (disch := first | omega | simp) [*]; omega) | (simp_all []; done) | (simp_all []; omega))
theorem apply_no12 (m : Image) (r : Record) (h : ApPre m r) (hr : ACall pg 20 [encR r] (.c .nilIface)) (hk : r.kind = 12) {cs : List V} {e : Er} (hT : ACallM pg 27 [.own (cellsO m)] [encR r] (errE (some e)) [.own cs]) : ACall pg 7 [encM m, encR r] (.tup [encM m, errE (some (.fault apl r.kind e))]) := by
  have hcp := copy_ok m h.pre h.small
  have hwr := wrap_ok apl r.kind (some e)
  obtain ⟨ty, v, he⟩ := encE_if e
  obtain ⟨ty2, v2, he2⟩ := encE_if (.fault apl r.kind e)
  simp only [Option.map_some, errE_some, he, he2] at hwr hT ⊢
  refine s7.call mo (by simp) fun hxs => ?_
  clear hxs
  have q2 : (r.kind == 2) = false := by simp [hk]
  have q3 : (r.kind == 3) = false := by simp [hk]
  have q4 : (r.kind == 4) = false := by simp [hk]
  have q5 : (r.kind == 5) = false := by simp [hk]
  have q6 : (r.kind == 6) = false := by simp [hk]
  have q7 : (r.kind == 7) = false := by simp [hk]
  have q8 : (r.kind == 8) = false := by simp [hk]
  have q9 : (r.kind == 9) = false := by simp [hk]
  have q10 : (r.kind == 10) = false := by simp [hk]
  have q11 : (r.kind == 11) = false := by simp [hk]
  have q12 : (r.kind == 12) = true := by simp [hk]
  simp only [cellsO_eq] at hT
  unfold c7; dsimp only [oA, oC, oD, oF, oG, oK, oL, oM, oO, oS, oU]
  repeat' first | (with_reducible first | refine thN ?_ | refine inN ?_ | refine fF ?_ | refine fS ?_ | refine fR ?_ | refine fQ ?_ | refine fC ?_ | refine fT ?_ | refine awBlock ?_ | refine awRet ?_ | refine awSkip ?_) | ((with_reducible refine awReg fun K hok hK => ?_); clear hok; (try simp (maxSteps := 10000000) (disch := first | omega | simp) [q2, q3, q4, q5, q6, q7, q8, q9, q10, q11, q12, isConst]); (repeat' first | (with_reducible refine hK _ (by simp) ?_) | ((first | ((with_reducible refine callS' fun K2 hK2 => ?_); (try simp (maxSteps := 10000000) (disch := first | omega | simp) [q2, q3, q4, q5, q6, q7, q8, q9, q10, q11, q12, isConst]); (first | refine hK2 _ _ hr rfl fun hk9 => ?_ | refine hK2 _ _ hcp rfl fun hk9 => ?_ | refine hK2 _ _ hT rfl fun hk9 => ?_ | refine hK2 _ _ hwr rfl fun hk9 => ?_); clear hk9; clear hK2 K2) | ((with_reducible refine callF' fun K2 hK2 => ?_); (try simp (maxSteps := 10000000) (disch := first | omega | simp) [q2, q3, q4, q5, q6, q7, q8, q9, q10, q11, q12, isConst]); (first | refine hK2 _ _ _ hr fun _ => ?_ | refine hK2 _ _ _ hcp fun _ => ?_ | refine hK2 _ _ _ hT fun _ => ?_ | refine hK2 _ _ _ hwr fun _ => ?_); clear hK2 K2) | ((with_reducible refine sideS' fun K2 hK2 => ?_); (try simp (maxSteps := 10000000) (disch := first | omega | simp) [q2, q3, q4, q5, q6, q7, q8, q9, q10, q11, q12, isConst]); (first | refine hK2 _ _ (hr) rfl ?_ | refine hK2 _ _ (hcp) rfl ?_ | refine hK2 _ _ (hT) rfl ?_ | refine hK2 _ _ (hwr) rfl ?_); clear hK2 K2) | ((with_reducible refine callM' rfl fun K2 hK2 => ?_); (try simp (maxSteps := 10000000) (disch := first | omega | simp) [q2, q3, q4, q5, q6, q7, q8, q9, q10, q11, q12, isConst]); (first | refine hK2 _ _ _ _ _ _ _ hr rfl fun _ _ => ?_ | refine hK2 _ _ _ _ _ _ _ hcp rfl fun _ _ => ?_ | refine hK2 _ _ _ _ _ _ _ hT rfl fun _ _ => ?_ | refine hK2 _ _ _ _ _ _ _ hwr rfl fun _ _ => ?_); clear hK2 K2) | ((with_reducible refine sideQ' ?_ ?_ fun K2 hK2 => ?_); exact rfl; exact rfl; (try simp (maxSteps := 10000000) (disch := first | omega | simp) [q2, q3, q4, q5, q6, q7, q8, q9, q10, q11, q12, isConst]); with_reducible refine hK2 _ _ ?_; clear hK2 K2)); (try simp (maxSteps := 10000000) (disch := first | omega | simp) [q2, q3, q4, q5, q6, q7, q8, q9, q10, q11, q12, isConst]))) <;> clear hK K) | ((with_reducible refine awCond fun A B hA hB => ?_); simp (maxSteps := 10000000) (disch := first | omega | simp) [q2, q3, q4, q5, q6, q7, q8, q9, q10, q11, q12, isConst]; (first | refine ⟨fun h => hA ?_, fun h => hB ?_⟩ | refine hA ?_ | refine hB ?_) <;> (clear hA hB A B; (try (exfalso; omega))))
  (refine aEnR (aRes [true] fun K hK => ?_); simp (maxSteps := 10000000) (disch := first | omega | simp) []; refine hK _ ?_ (by simp); clear hK; first | done | (simp (maxSteps := 10000000) (disch := first | omega | simp) [*]; done) | (simp (maxSteps := 10000000) (disch := first | omega | simp) [*]; omega) | (simp_all []; done) | (simp_all []; omega))
end
end Go.Am
end
section
set_option maxRecDepth 100000
set_option maxHeartbeats 0
namespace Go.Am
open Go
noncomputable section
theorem num_b {x : Int} {a : Bool} {lo hi : Int} (h : numB x a lo hi = true) (h0 : 0 ≤ lo) (h1 : 0 ≤ hi) : 0 ≤ x ∧ x ≤ hi := by
  unfold numB at h
  split at h
  · simp only [Bool.and_eq_true, decide_eq_true_eq] at h; omega
  · have : x = 0 := by simpa using h
    omega
theorem row_b {l : List Int} {a : Bool} (h : rwB l a = true) : l.length ≤ 7 ∧ ∀ n ∈ l, 1 ≤ n ∧ n ≤ 64 := by
  unfold rwB at h
  split at h
  · simp only [brokersB, decide_eq_true_eq] at h; exact ⟨h.1, h.2.1⟩
  · have : l = [] := by simpa using h
    subst this; simp
structure RecB (r : Record) : Prop where
  broker : 0 ≤ r.broker ∧ r.broker ≤ 64
  topic : 0 ≤ r.topic ∧ r.topic ≤ 1073741824
  part : 0 ≤ r.part
  big : r.toPart.Big
theorem rec_b {r : Record} (h : (checkW r).code = 0) : RecB r := by
  have c := (check_iff r).1 h
  obtain ⟨n1, n2, n3, n4, n5, _⟩ := c.nums
  obtain ⟨r1, r2, r3, r4⟩ := c.rows
  have hlo : 0 ≤ lowT r.kind := by unfold lowT; split <;> omega
  have l := num_b n5 (by omega) (by omega)
  refine ⟨num_b n1 (by omega) (by omega), num_b n3 hlo (by omega), (num_b n4 (by omega) (by omega)).1, ⟨fun n hn => ?_, ?_, ?_, ?_, ?_, ?_⟩⟩
  · have := (row_b r1).2 n hn; unfold big62; omega
  · unfold big62; simp only [Record.toPart]; omega
  · have := (row_b r1).1; simp only [Record.toPart]; omega
  · have := (row_b r2).1; simp only [Record.toPart]; omega
  · have := (row_b r3).1; simp only [Record.toPart]; omega
  · have := (row_b r4).1; simp only [Record.toPart]; omega
structure ImOk (m : Image) (n : Nat) : Prop where
  inv : m.Inv n
  cs : srtC m.configs
  ct : ∀ c ∈ m.configs, 0 ≤ c.topic ∧ c.topic ≤ 1073741824
theorem small_rows {p : Part} {n : Nat} (h : p.Rows n) : p.Small := by
  have hb : ∀ l, brokersB l = true → l.length ≤ 1000000 := fun l h => by simp only [brokersB, decide_eq_true_eq] at h; omega
  exact ⟨hb _ h.ids, hb _ h.isr, hb _ h.add, hb _ h.drop⟩
section
variable {m : Image} {n : Nat} {r : Record}
theorem ImOk.parts (h : ImOk m n) (hn : n ≤ 1000) (hb : RecB r) : PartsPre m r where
  bs := h.inv.bs
  br := fun b hb => by have := h.inv.br b hb; omega
  bl := by have := h.inv.bl; omega
  ts := h.inv.ti
  ti := fun t ht => by have := h.inv.tr t ht; have := h.inv.la; omega
  tl := by have := h.inv.tl; omega
  pl := fun t ht => by have := h.inv.pl t ht; omega
  big := hb.big
  tn := by have := hb.topic; unfold big62; omega
  pn := hb.part
  ep := fun t ht p hp => by have := (h.inv.pr t ht p hp).2.ep; omega
theorem ImOk.small (h : ImOk m n) : ∀ t ∈ m.topics, ∀ p ∈ t.parts, p.Small := fun t ht p hp => small_rows (h.inv.pr t ht p hp).2
theorem ImOk.brok (h : ImOk m n) (hn : n ≤ 1000) (hb : RecB r) : BrPre m r where
  bs := h.inv.bs
  br := fun b hb => by have := h.inv.br b hb; omega
  bl := by have := h.inv.bl; omega
  tl := by have := h.inv.tl; omega
  pl := fun t ht => by have := h.inv.pl t ht; omega
  bn := by have := hb.broker; unfold big62; omega
theorem ImOk.conf (h : ImOk m n) (hn : n ≤ 1000) (hb : RecB r) : CfPre m r where
  ts := h.inv.ti
  ti := fun t ht => by have := h.inv.tr t ht; have := h.inv.la; omega
  tl := by have := h.inv.tl; omega
  cs := h.cs
  ct := h.ct
  cl := by have := h.inv.cl; omega
  tn := hb.topic
theorem ImOk.ap (h : ImOk m n) (hn : n ≤ 1000) : ApPre m r := ⟨h.inv.pre hn, h.small⟩
theorem turns_kind (h : ImOk m n) (hn : n ≤ 1000) (hc : (checkW r).code = 0) (HB : r.kind = 3 ∨ r.kind = 4 ∨ r.kind = 5 ∨ r.kind = 6 → TurnsE pg 23 m r (m.brokerRec r)) :
    (r.kind = 1 → True) ∧ (r.kind = 2 → TurnsE pg 23 m r (m.apply r)) ∧ (r.kind = 3 ∨ r.kind = 4 ∨ r.kind = 5 ∨ r.kind = 6 → TurnsE pg 23 m r (m.apply r)) ∧
    (r.kind = 8 ∨ r.kind = 9 → TurnsE pg 24 m r (m.apply r)) ∧ (r.kind = 7 ∨ r.kind = 11 → TurnsE pg 25 m r (m.apply r)) ∧
    (r.kind = 10 → TurnsE pg 26 m r (m.apply r)) ∧ (r.kind = 12 → TurnsE pg 27 m r (m.apply r)) := by
  have hb := rec_b hc
  have e0 : m.apply r = if r.kind = 2 then m.register r else if r.kind = 3 ∨ r.kind = 4 ∨ r.kind = 5 ∨ r.kind = 6 then m.brokerRec r else if r.kind = 8 ∨ r.kind = 9 then m.partRec r else if r.kind = 7 then m.addTopic r else if r.kind = 11 then m.dropRec r.topic else if r.kind = 10 then m.configRec r else if r.kind = 12 then m.doneRec r else (m, 0) := by
    unfold Image.apply; rw [if_neg (by simp [hc])]
  refine ⟨fun _ => trivial, fun hk => ?_, fun hk => ?_, fun hk => ?_, fun hk => ?_, fun hk => ?_, fun hk => ?_⟩ <;> rw [e0]
  · rw [if_pos hk]; exact iregister_ok m r (h.brok hn hb) hk
  · rw [if_neg (by omega), if_pos hk]; exact HB hk
  · rw [if_neg (by omega), if_neg (by omega), if_pos hk]; exact parts_ok m r (h.parts hn hb) h.small
  · rw [if_neg (by omega), if_neg (by omega), if_neg (by omega)]
    have htl := h.inv.tl
    rcases hk with hk | hk
    · rw [if_pos hk]; exact turns_E (topics_new m r hk (by omega) (by have := h.inv.la; omega))
    · rw [if_neg (by omega), if_pos hk]
      have hp := h.parts hn hb
      exact turns_E (topics_drop m r (by omega) hp.ts hp.ti hp.tl (by have := h.inv.cl; omega) hp.tn)
  · rw [if_neg (by omega), if_neg (by omega), if_neg (by omega), if_neg (by omega), if_neg (by omega), if_pos hk]; exact turns_E (configs_ok m r (h.conf hn hb))
  · rw [if_neg (by omega), if_neg (by omega), if_neg (by omega), if_neg (by omega), if_neg (by omega), if_neg (by omega), if_pos hk]; exact turns_E (done_ok m r (by have := h.inv.dl; omega))
end
end
end Go.Am
end
section
set_option maxRecDepth 100000
set_option maxHeartbeats 0
namespace Go.Am
open Go
noncomputable section
theorem apply_ok1 (m : Image) (r : Record) (h : ApPre m r) (hr : ACall pg 20 [encR r] (.c .nilIface)) (hk : r.kind = 1) : ACall pg 7 [encM m, encR r] (.tup [encM m, .c .nilIface]) := by
  have hcp := copy_ok m h.pre h.small
  refine s7.call mo (by simp) fun hxs => ?_
  clear hxs
  have q2 : (r.kind == 2) = false := by simp [hk]
  have q3 : (r.kind == 3) = false := by simp [hk]
  have q4 : (r.kind == 4) = false := by simp [hk]
  have q5 : (r.kind == 5) = false := by simp [hk]
  have q6 : (r.kind == 6) = false := by simp [hk]
  have q7 : (r.kind == 7) = false := by simp [hk]
  have q8 : (r.kind == 8) = false := by simp [hk]
  have q9 : (r.kind == 9) = false := by simp [hk]
  have q10 : (r.kind == 10) = false := by simp [hk]
  have q11 : (r.kind == 11) = false := by simp [hk]
  have q12 : (r.kind == 12) = false := by simp [hk]
  unfold c7; dsimp only [oA, oC, oD, oF, oG, oK, oL, oM, oO, oS, oU]
  have F := And.intro q2 (And.intro q3 (And.intro q4 (And.intro q5 (And.intro q6 (And.intro q7 (And.intro q8 (And.intro q9 (And.intro q10 (And.intro q11 q12)))))))))
  refine wkF ?_
  exact fn1
theorem cd_ne (e : Er) : e.cd ≠ 0 := by
  induction e with
  | code n => unfold Er.cd; split <;> omega
  | fault op a e ih => exact ih
theorem via {m : Image} {n : Nat} {r : Record} {f : FuncId} (h : ImOk m n) (hT : TurnsE pg f m r (m.apply r)) (hsame : (m.apply r).2 ≠ 0 → (m.apply r).1 = m)
    (hok : ∀ cs m', ACallM pg f [.own (cellsO m)] [encR r] (.c .nilIface) [.own cs] → pvL cs = cellsM m' → ACall pg 7 [encM m, encR r] (.tup [encM m', .c .nilIface]))
    (hno : ∀ cs e, ACallM pg f [.own (cellsO m)] [encR r] (errE (some e)) [.own cs] → ACall pg 7 [encM m, encR r] (.tup [encM m, errE (some (.fault apl r.kind e))])) :
    ∃ E : Option Er, ACall pg 7 [encM m, encR r] (.tup [encM (m.apply r).1, errE E]) ∧ cdE E = (m.apply r).2 := by
  obtain ⟨E, cs, h1, h2, h3⟩ := hT
  cases E with
  | none => exact ⟨none, hok cs _ h1 h2, h3⟩
  | some e =>
    have hne : (m.apply r).2 ≠ 0 := by rw [← h3]; exact cd_ne e
    exact ⟨some (.fault apl r.kind e), by rw [hsame hne]; exact hno cs e h1, h3⟩
theorem iapply_ok {m : Image} {n : Nat} (h : ImOk m n) (hn : n ≤ 1000) (r : Record) (HC : ACall pg 20 [encR r] (errO (recE r))) (HB : (checkW r).code = 0 → r.kind = 3 ∨ r.kind = 4 ∨ r.kind = 5 ∨ r.kind = 6 → TurnsE pg 23 m r (m.brokerRec r)) (hsame : (m.apply r).2 ≠ 0 → (m.apply r).1 = m) :
    ∃ E : Option Er, ACall pg 7 [encM m, encR r] (.tup [encM (m.apply r).1, errE E]) ∧ cdE E = (m.apply r).2 := by
  by_cases hc : (checkW r).code = 0
  · have er : recE r = none := by unfold recE; rw [if_neg (by simp [hc])]
    rw [er, errO_none] at HC
    have ck := (check_iff r).1 hc
    have ha := h.ap (r := r) hn
    obtain ⟨_, t2, t3, t8, t7, t10, t12⟩ := turns_kind h hn hc (HB hc)
    have hk := ck.kind
    by_cases k1 : r.kind = 1
    · have e : m.apply r = (m, 0) := by
        unfold Image.apply
        rw [if_neg (by simp [hc]), if_neg (by omega), if_neg (by omega), if_neg (by omega), if_neg (by omega), if_neg (by omega), if_neg (by omega), if_neg (by omega)]
      rw [e]
      exact ⟨none, apply_ok1 m r ha HC k1, rfl⟩
    by_cases k2 : r.kind = 2
    · exact via h (t2 k2) hsame (fun cs m' a b => apply_ok2 m r ha HC k2 a b) (fun cs e a => apply_no2 m r ha HC k2 a)
    by_cases k3 : r.kind = 3
    · exact via h (t3 (by omega)) hsame (fun cs m' a b => apply_ok3 m r ha HC k3 a b) (fun cs e a => apply_no3 m r ha HC k3 a)
    by_cases k4 : r.kind = 4
    · exact via h (t3 (by omega)) hsame (fun cs m' a b => apply_ok4 m r ha HC k4 a b) (fun cs e a => apply_no4 m r ha HC k4 a)
    by_cases k5 : r.kind = 5
    · exact via h (t3 (by omega)) hsame (fun cs m' a b => apply_ok5 m r ha HC k5 a b) (fun cs e a => apply_no5 m r ha HC k5 a)
    by_cases k6 : r.kind = 6
    · exact via h (t3 (by omega)) hsame (fun cs m' a b => apply_ok6 m r ha HC k6 a b) (fun cs e a => apply_no6 m r ha HC k6 a)
    by_cases k7 : r.kind = 7
    · exact via h (t7 (by omega)) hsame (fun cs m' a b => apply_ok7 m r ha HC k7 a b) (fun cs e a => apply_no7 m r ha HC k7 a)
    by_cases k8 : r.kind = 8
    · exact via h (t8 (by omega)) hsame (fun cs m' a b => apply_ok8 m r ha HC k8 a b) (fun cs e a => apply_no8 m r ha HC k8 a)
    by_cases k9 : r.kind = 9
    · exact via h (t8 (by omega)) hsame (fun cs m' a b => apply_ok9 m r ha HC k9 a b) (fun cs e a => apply_no9 m r ha HC k9 a)
    by_cases k10 : r.kind = 10
    · exact via h (t10 k10) hsame (fun cs m' a b => apply_ok10 m r ha HC k10 a b) (fun cs e a => apply_no10 m r ha HC k10 a)
    by_cases k11 : r.kind = 11
    · exact via h (t7 (by omega)) hsame (fun cs m' a b => apply_ok11 m r ha HC k11 a b) (fun cs e a => apply_no11 m r ha HC k11 a)
    · have k12 : r.kind = 12 := by omega
      exact via h (t12 k12) hsame (fun cs m' a b => apply_ok12 m r ha HC k12 a b) (fun cs e a => apply_no12 m r ha HC k12 a)
  · have er : recE r = some ((checkW r).op, (checkW r).at', (checkW r).code) := by unfold recE; rw [if_pos hc]
    rw [er] at HC
    have e : m.apply r = (m, (checkW r).code) := by unfold Image.apply; rw [if_pos hc]
    rw [e]
    obtain ⟨E, h1, h2, _⟩ := apply_bad m r HC hc
    exact ⟨E, h1, h2⟩
end
end Go.Am
end
section
set_option maxRecDepth 100000
set_option maxHeartbeats 0
namespace Go.Am
open Go
noncomputable section
theorem conf_step (m : Image) (r : Record) : (m.apply r).1.configs = m.configs ∨ ((checkW r).code = 0 ∧ (m.apply r).1.configs = putC m.configs r) ∨ ∃ q, (m.apply r).1.configs = m.configs.filter q := by
  unfold Image.apply
  split
  · exact .inl rfl
  rename_i hc
  have hc : (checkW r).code = 0 := by simpa using hc
  split
  · left; unfold Image.register; (repeat' split) <;> rfl
  split
  · left; unfold Image.brokerRec; (repeat' split) <;> rfl
  split
  · left; unfold Image.partRec; (repeat' split) <;> rfl
  split
  · left; unfold Image.addTopic; (repeat' split) <;> rfl
  split
  · unfold Image.dropRec
    split
    · exact .inl rfl
    · exact .inr (.inr ⟨_, rfl⟩)
  split
  · unfold Image.configRec
    split
    · exact .inl rfl
    · split
      · exact .inl rfl
      · exact .inr (.inl ⟨hc, rfl⟩)
  split
  · left; unfold Image.doneRec; (repeat' split) <;> rfl
  · exact .inl rfl
theorem putC_mem {l : List Config} {r : Record} (hs : srtC l) {c : Config} (h : c ∈ putC l r) : c ∈ l ∨ c = newC r := by
  cases hf : r.flag with
  | true => rw [putC_del r hf] at h; exact .inl (List.mem_filter.1 h).1
  | false =>
    rw [putC_put r hs hf] at h
    rcases List.mem_append.1 h with h | h
    · exact .inl (List.mem_filter.1 h).1
    · rcases List.mem_cons.1 h with h | h
      · exact .inr h
      · exact .inl (List.mem_filter.1 h).1
theorem ImOk.step {m : Image} {n : Nat} (h : ImOk m n) (hn : n ≤ 1000000) (r : Record) : ImOk (m.apply r).1 (n + 1) := by
  refine ⟨h.inv.apply hn r, ?_, ?_⟩
  · rcases conf_step m r with e | ⟨_, e⟩ | ⟨q, e⟩ <;> rw [e]
    · exact h.cs
    · exact srtC_put r h.cs
    · exact srtC_filter h.cs q
  · rcases conf_step m r with e | ⟨hc, e⟩ | ⟨q, e⟩ <;> rw [e]
    · exact h.ct
    · intro c hcm
      rcases putC_mem h.cs hcm with hm | rfl
      · exact h.ct c hm
      · have := (rec_b hc).topic; exact this
    · exact fun c hcm => h.ct c (List.mem_filter.1 hcm).1
theorem ImOk.zero : ImOk zM 0 where
  inv := made_inv [] (by simp)
  cs := List.Pairwise.nil
  ct := by intro c h; cases h
theorem apply_same (m : Image) (r : Record) : (m.apply r).2 ≠ 0 → (m.apply r).1 = m := by
  unfold Image.apply
  split
  · intro _; rfl
  split
  · unfold Image.register; (repeat' split) <;> simp
  split
  · unfold Image.brokerRec; (repeat' split) <;> simp
  split
  · unfold Image.partRec; (repeat' split) <;> simp
  split
  · unfold Image.addTopic; (repeat' split) <;> simp
  split
  · unfold Image.dropRec; (repeat' split) <;> simp
  split
  · unfold Image.configRec; (repeat' split) <;> simp
  split
  · unfold Image.doneRec; (repeat' split) <;> simp
  · intro _; rfl
end
end Go.Am
end
