/- Part of the proof of a law of moving. -/
import Derived.Test.YtmnheledelnbfaaGreatDoorQEB
import Derived.Test.YtmnheledelnbfaaGreatDoorQEC
import Derived.Test.YtmnheledelnbfaaGreatDoorQED
import Derived.Test.YtmnheledelnbfaaGreatDoorQIN
import Derived.Test.YtmnheledelnbfaaGreatDoorQIx
import Derived.Test.YtmnheledelnbfaaGreatDoorQPK
set_option linter.all false
section
set_option maxRecDepth 100000
set_option maxHeartbeats 0
namespace Go.Am
open Go
noncomputable section
def c103 : SC := (.seq (.reg [oO 1 123 0,oZ 2 false] [1]) (.seq (.reg [oF 3 123 1 3,oL 4 4 3,oD 5 (.unOp .not 4 (.tmp 4)),oM 6 5,oW 6 true (oF 7 123 1 4),oW 6 true (oL 8 4 7),oW 6 true (oD 9 (.unOp .not 4 (.tmp 8))),oQ 10 6 9 false,oG 2 10] [2,5,6,9,10]) .ret))
theorem s103 : TextK Proofs.Tryz.prog 0 103 11 [ResultVar.tmp 2] c103 := .mk' Proofs.Tryz.f103 _ (by kernel_rfl) rfl rfl rfl (by kernel_rfl) rfl (by kernel_rfl)
def c109 : SC := (.seq (.reg [oZ 2 false] [0]) (.seq (.reg [oM 3 0,oM 4 0,oB 5 .neq 9 3 4 9,oG 2 5] [2,5]) .ret))
theorem s109 : TextK Proofs.Tryz.prog 0 109 6 [ResultVar.tmp 2] c109 := .mk' Proofs.Tryz.f109 _ (by kernel_rfl) rfl rfl rfl (by kernel_rfl) rfl (by kernel_rfl)
def c106 : SC := (.seq (.reg [oI 4 0] [0,1]) (.seq (.reg [oM 7 0,oC 8 109 #[.tmp 7] #[9],oG 5 8] [0,1,5,8]) (.seq (.reg [oM 9 1,oC 10 109 #[.tmp 9] #[9],oG 6 10] [0,1,5,6,8,10]) (.seq (.reg [oM 11 5] [0,1,5,6,8,10,11]) (.seq (.cond (.tmp 11) (.seq (.reg [oM 12 6] [6,10,12]) (.seq (.cond (.tmp 12) (.seq (.reg [oI 4 0] [4]) .ret) .skip) (.seq (.reg [oD 4 (.assign (.const (.int .i64 (-1))))] [4]) .ret))) .skip) (.seq (.reg [oM 13 6] [0,1,6,10,13]) (.seq (.cond (.tmp 13) (.seq (.reg [oI 4 1] [4]) .ret) .skip) (.seq (.reg [oM 14 0,oM 15 1,oB 16 .lss 9 14 15 9] [0,1,16]) (.seq (.cond (.tmp 16) (.seq (.reg [oD 4 (.assign (.const (.int .i64 (-1))))] [4]) .ret) .skip) (.seq (.reg [oM 17 0,oM 18 1,oB 19 .gtr 9 17 18 9] [19]) (.seq (.cond (.tmp 19) (.seq (.reg [oI 4 1] [4]) .ret) .skip) (.seq (.reg [oI 4 0] [4]) .ret))))))))))))
theorem s106 : TextK Proofs.Tryz.prog 0 106 20 [ResultVar.tmp 4] c106 := .mk' Proofs.Tryz.f106 _ (by kernel_rfl) rfl rfl rfl (by kernel_rfl) rfl (by kernel_rfl)
def c105 : SC := (.seq (.reg [oO 2 161 0,oI 4 0] [1,2]) (.seq (.reg [oF 5 161 2 0,oL 6 9 5,oM 7 1,oC 8 106 #[.tmp 6,.tmp 7] #[9,9],oG 4 8] [4,8]) .ret))
theorem s105 : TextK Proofs.Tryz.prog 0 105 9 [ResultVar.tmp 4] c105 := .mk' Proofs.Tryz.f105 _ (by kernel_rfl) rfl rfl rfl (by kernel_rfl) rfl (by kernel_rfl)
def c104 : SC := (.seq (.reg [oI 6 0,oZ 7 false] [0,1,2,33]) (.seq (.reg [oM 12 0,oN 13 12 158,oG 8 13] [0,1,2,8,13,33]) (.seq (.reg [oM 14 8,oI 9 0,oG 10 14] [0,1,2,8,9,10,11,13,14,23,33,34]) (.seq (.block 0 (.seq (.loop (.seq (.reg [oM 15 9,oM 16 10,oB 17 .lss 3 15 16 3] [0,1,2,8,9,10,11,13,14,17,23,33,34]) (.seq (.cond (.tmp 17) .skip (.exit 0)) (.seq (.block 1 (.seq (.reg [oM 18 9,oM 19 10,oB 20 .add 3 18 19 3,oD 21 (.convert 3 176 (.tmp 20)),oD 22 (.binOp .shr 176 (.tmp 21) (.const (.int .u64 1)) 176),oD 23 (.convert 176 3 (.tmp 22)),oG 11 23] [0,1,2,8,9,10,11,13,14,23,33,34]) (.seq (.reg [oM 24 2,oM 25 0,oM 26 11,oJ 27 158 25 26,oL 28 161 27,oM 29 1,oD 30 (.call { callee := .value (.tmp 24),args := #[.tmp 28,.tmp 29],argTypes := #[161,9] }),oK 31 .lss 3 30 0 3] [0,1,2,8,9,10,11,13,14,23,31,33,34]) (.seq (.cond (.tmp 31) (.seq (.reg [oM 32 11,oK 33 .add 3 32 1 3,oG 9 33] [0,1,2,8,9,10,11,13,14,23,33,34]) .skip) (.seq (.reg [oM 34 11,oG 10 34] [0,1,2,8,9,10,11,13,14,23,33,34]) .skip)) .skip)))) .skip)))) .skip)) (.seq (.reg [oM 35 9,oM 36 9,oM 37 8,oB 38 .lss 3 36 37 3,oM 39 38,oW 39 true (oM 40 2),oW 39 true (oM 41 0),oW 39 true (oM 42 9),oW 39 true (oJ 43 158 41 42),oW 39 true (oL 44 161 43),oW 39 true (oM 45 1),oW 39 true (oD 46 (.call { callee := .value (.tmp 40),args := #[.tmp 44,.tmp 45],argTypes := #[161,9] })),oW 39 true (oK 47 .eql 3 46 0 3),oQ 48 39 47 false,oG 6 35,oG 7 48] [6,7,9,33,35,38,39,47,48]) .ret)))))
theorem s104 : TextK Proofs.Tryz.prog 0 104 49 [ResultVar.tmp 6, ResultVar.tmp 7] c104 := .mk' Proofs.Tryz.f104 _ (by kernel_rfl) rfl rfl rfl (by kernel_rfl) rfl (by kernel_rfl)
def c94 : SC := (.seq (.reg [oO 1 36 0,oD 2 (.assign (.const (.slice none 0 0)))] [1,33]) (.seq (.reg [oD 3 (.assign (.const (.slice none 0 0)))] [1,3,33]) (.seq (.reg [oF 8 36 1 0,oL 9 31 8,oN 10 9 31,oD 11 (.move (.const (.int .i64 0)))] [1,3,8,9,10,11,33,47]) (.seq (.block 0 (.seq (.loop (.seq (.reg [oB 12 .lss 3 11 10 3] [1,3,8,9,10,11,12,33,47]) (.seq (.cond (.tmp 12) .skip (.exit 0)) (.seq (.block 1 (.seq (.reg [oJ 13 31 9 11,oL 14 123 13,oA 5 123,oS 123 5 14] [1,3,5,8,9,10,11,33,47]) (.seq (.reg [oL 15 123 5,oC 16 103 #[.tmp 15] #[123],oD 17 (.unOp .not 4 (.tmp 16))] [1,3,5,8,9,10,11,17,33,47]) (.seq (.cond (.tmp 17) (.exit 1) .skip) (.seq (.reg [oM 19 3,oF 20 123 5 2,oL 21 9 20,oC 22 104 #[.tmp 19,.tmp 21,.func 105] #[158,9,174],oM 18 22,oX 23 18 0,oX 24 18 1,oG 6 23,oG 7 24] [1,3,5,6,7,8,9,10,11,18,22,23,24,33,47]) (.seq (.reg [oM 25 7,oD 26 (.unOp .not 4 (.tmp 25))] [1,3,5,6,8,9,10,11,18,22,23,26,33,47]) (.seq (.cond (.tmp 26) (.seq (.reg [oM 27 3,oM 28 6,oF 29 123 5 2,oL 30 9 29,oD 31 (.build 161 #[(0,.tmp 30)]),oD 32 (.buildSlice 158 1 #[(0,.tmp 31)]),oC 33 107 #[.tmp 27,.tmp 28,.tmp 32] #[158,3,158],oG 3 33] [1,3,5,6,8,9,10,11,18,22,23,33,47]) .skip) .skip) (.seq (.reg [oM 34 3,oM 35 6,oM 36 3,oM 37 6,oU (oJ 38 158 36 37) [41,42,43],oU (oF 39 161 38 1) [41,42,43],oU (oL 40 23 39) [41,42,43],oU (oF 41 123 5 0) [38,39,40],oU (oL 42 3 41) [38,39,40],oU (oD 43 (.buildSlice 23 1 #[(0,.tmp 42)])) [38,39,40],oP 44 #[.tmp 40,.tmp 43] #[23,23],oJ 45 158 34 35,oF 46 161 45 1,oS 23 46 44] [1,3,8,9,10,11,33,47]) .skip)))))))) (.seq (.reg [oK 47 .add 3 11 1 3,oM 11 47] [1,3,8,9,10,11,33,47]) .skip))))) .skip)) (.seq (.reg [oM 48 3,oG 2 48] [2,3,33,48]) .ret)))))
theorem s94 : TextK Proofs.Tryz.prog 0 94 49 [ResultVar.tmp 2] c94 := .mk' Proofs.Tryz.f94 _ (by kernel_rfl) rfl rfl rfl (by kernel_rfl) rfl (by kernel_rfl)
def encK (r : Rack) : V := .agg [St r.name, .uq (r.ids.map I)]
def encKf (r : Rack) : V := .agg [St r.name, Li r.ids]
@[simp] theorem encK_eq (r : Rack) : encK r = .agg [St r.name, .uq (r.ids.map I)] := rfl
@[simp] theorem encKf_eq (r : Rack) : encKf r = .agg [St r.name, Li r.ids] := rfl
@[simp] theorem pvL_encK (l : List Rack) : pvL (l.map encK) = l.map encKf := by
  induction l with
  | nil => rfl
  | cons r l ih => simp [ih, pvL_eq]
theorem placeReady_ok (b : Broker) : ACall pg 103 [encB b] (B (readyB b)) := by
  refine s103.call mo (by simp) fun hxs => ?_
  clear hxs
  unfold c103; dsimp only [oD, oF, oG, oL, oM, oO, oQ, oW, oZ]
  repeat' first | (with_reducible first | refine awRet ?_) | ((with_reducible refine awReg fun K hok hK => ?_); clear hok; (try simp (maxSteps := 10000000) (disch := first | omega | simp) []); (repeat' first | (with_reducible refine hK _ (by simp) ?_) | ((with_reducible refine gdT (fun h => ?_) (fun h => ?_)) <;> (simp (maxSteps := 10000000) (disch := first | omega | simp) [h]; (try simp at h); (try (exfalso; omega))))) <;> clear hK K) | ((with_reducible refine awCond fun A B hA hB => ?_); simp (maxSteps := 10000000) (disch := first | omega | simp) []; (first | refine ⟨fun h => hA ?_, fun h => hB ?_⟩ | refine hA ?_ | refine hB ?_) <;> (clear hA hB A B; (try (exfalso; omega))))
  all_goals (refine aEnR (aRes [] fun K hK => ?_); simp (maxSteps := 10000000) (disch := first | omega | simp) [readyB]; refine hK _ ?_ (by simp); clear hK; first | done | (simp (maxSteps := 10000000) (disch := first | omega | simp) [readyB, *]; done) | (simp (maxSteps := 10000000) (disch := first | omega | simp) [readyB, *]; omega) | (simp_all [readyB]; done) | (simp_all [readyB]; omega))
theorem isNaNS_ok (s : ByteArray) : ACall pg 109 [St s] (B false) := by
  refine s109.call mo (by simp) fun hxs => ?_
  clear hxs
  unfold c109; dsimp only [oB, oG, oM, oZ]
  repeat' first | (with_reducible first | refine awRet ?_) | ((with_reducible refine awReg fun K hok hK => ?_); clear hok; (try simp (maxSteps := 10000000) (disch := first | omega | simp) []); (repeat' first | (with_reducible refine hK _ (by simp) ?_)) <;> clear hK K) | ((with_reducible refine awCond fun A B hA hB => ?_); simp (maxSteps := 10000000) (disch := first | omega | simp) []; (first | refine ⟨fun h => hA ?_, fun h => hB ?_⟩ | refine hA ?_ | refine hB ?_) <;> (clear hA hB A B; (try (exfalso; omega))))
  all_goals (refine aEnR (aRes [] fun K hK => ?_); simp (maxSteps := 10000000) (disch := first | omega | simp) []; refine hK _ ?_ (by simp); clear hK; first | done | (simp (maxSteps := 10000000) (disch := first | omega | simp) [*]; done) | (simp (maxSteps := 10000000) (disch := first | omega | simp) [*]; omega) | (simp_all []; done) | (simp_all []; omega))
theorem compareS_ok (a b : ByteArray) : ACall pg 106 [St a, St b] (I (cmpS a b)) := by
  refine s106.call mo (by simp) fun hxs => ?_
  clear hxs
  unfold c106; dsimp only [oB, oC, oD, oG, oI, oM]
  by_cases h1 : Op.bytesLess a.toList b.toList = true
  · have e : cmpS a b = -1 := by simp [cmpS, h1]
    repeat' first | (with_reducible first | refine fS ?_ | refine fR ?_ | refine fQ ?_ | refine fT ?_ | refine awRet ?_) | ((with_reducible refine awReg fun K hok hK => ?_); clear hok; (try simp (maxSteps := 10000000) (disch := first | omega | simp) [h1]); (repeat' first | (with_reducible refine hK _ (by simp) ?_) | ((with_reducible refine callS' fun K2 hK2 => ?_); (try simp (maxSteps := 10000000) (disch := first | omega | simp) [h1]); (first | refine hK2 _ _ (isNaNS_ok a) rfl fun hk9 => ?_ | refine hK2 _ _ (isNaNS_ok b) rfl fun hk9 => ?_); clear hk9; clear hK2 K2; (try simp (maxSteps := 10000000) (disch := first | omega | simp) [h1]))) <;> clear hK K) | ((with_reducible refine awCond fun A B hA hB => ?_); simp (maxSteps := 10000000) (disch := first | omega | simp) [h1]; (first | refine ⟨fun h => hA ?_, fun h => hB ?_⟩ | refine hA ?_ | refine hB ?_) <;> (clear hA hB A B; (try (exfalso; omega))))
    all_goals (refine aEnR (aRes [] fun K hK => ?_); simp (maxSteps := 10000000) (disch := first | omega | simp) [e]; refine hK _ ?_ (by simp); clear hK; first | done | (simp (maxSteps := 10000000) (disch := first | omega | simp) [e, *]; done) | (simp (maxSteps := 10000000) (disch := first | omega | simp) [e, *]; omega) | (simp_all [e]; done) | (simp_all [e]; omega))
  · have h1 : Op.bytesLess a.toList b.toList = false := by simpa using h1
    by_cases h2 : (a.toList == b.toList) = true
    · have e : cmpS a b = 0 := by simp only [cmpS, lessS, eqS, h1, h2]; rfl
      repeat' first | (with_reducible first | refine fS ?_ | refine fR ?_ | refine fQ ?_ | refine fT ?_ | refine awRet ?_) | ((with_reducible refine awReg fun K hok hK => ?_); clear hok; (try simp (maxSteps := 10000000) (disch := first | omega | simp) [h1, h2]); (repeat' first | (with_reducible refine hK _ (by simp) ?_) | ((with_reducible refine callS' fun K2 hK2 => ?_); (try simp (maxSteps := 10000000) (disch := first | omega | simp) [h1, h2]); (first | refine hK2 _ _ (isNaNS_ok a) rfl fun hk9 => ?_ | refine hK2 _ _ (isNaNS_ok b) rfl fun hk9 => ?_); clear hk9; clear hK2 K2; (try simp (maxSteps := 10000000) (disch := first | omega | simp) [h1, h2]))) <;> clear hK K) | ((with_reducible refine awCond fun A B hA hB => ?_); simp (maxSteps := 10000000) (disch := first | omega | simp) [h1, h2]; (first | refine ⟨fun h => hA ?_, fun h => hB ?_⟩ | refine hA ?_ | refine hB ?_) <;> (clear hA hB A B; (try (exfalso; omega))))
      all_goals (refine aEnR (aRes [] fun K hK => ?_); simp (maxSteps := 10000000) (disch := first | omega | simp) [e]; refine hK _ ?_ (by simp); clear hK; first | done | (simp (maxSteps := 10000000) (disch := first | omega | simp) [e, *]; done) | (simp (maxSteps := 10000000) (disch := first | omega | simp) [e, *]; omega) | (simp_all [e]; done) | (simp_all [e]; omega))
    · have h2 : (a.toList == b.toList) = false := by simpa using h2
      have e : cmpS a b = 1 := by simp only [cmpS, lessS, eqS, h1, h2]; rfl
      repeat' first | (with_reducible first | refine fS ?_ | refine fR ?_ | refine fQ ?_ | refine fT ?_ | refine awRet ?_) | ((with_reducible refine awReg fun K hok hK => ?_); clear hok; (try simp (maxSteps := 10000000) (disch := first | omega | simp) [h1, h2]); (repeat' first | (with_reducible refine hK _ (by simp) ?_) | ((with_reducible refine callS' fun K2 hK2 => ?_); (try simp (maxSteps := 10000000) (disch := first | omega | simp) [h1, h2]); (first | refine hK2 _ _ (isNaNS_ok a) rfl fun hk9 => ?_ | refine hK2 _ _ (isNaNS_ok b) rfl fun hk9 => ?_); clear hk9; clear hK2 K2; (try simp (maxSteps := 10000000) (disch := first | omega | simp) [h1, h2]))) <;> clear hK K) | ((with_reducible refine awCond fun A B hA hB => ?_); simp (maxSteps := 10000000) (disch := first | omega | simp) [h1, h2]; (first | refine ⟨fun h => hA ?_, fun h => hB ?_⟩ | refine hA ?_ | refine hB ?_) <;> (clear hA hB A B; (try (exfalso; omega))))
      all_goals (refine aEnR (aRes [] fun K hK => ?_); simp (maxSteps := 10000000) (disch := first | omega | simp) [e]; refine hK _ ?_ (by simp); clear hK; first | done | (simp (maxSteps := 10000000) (disch := first | omega | simp) [e, *]; done) | (simp (maxSteps := 10000000) (disch := first | omega | simp) [e, *]; omega) | (simp_all [e]; done) | (simp_all [e]; omega))
theorem racks1_ok (r : Rack) (s : ByteArray) : ACall pg 105 [encKf r, St s] (I (cmpS r.name s)) := by
  refine s105.call mo (by simp) fun hxs => ?_
  clear hxs
  unfold c105; dsimp only [oC, oF, oG, oI, oL, oM, oO]
  repeat' first | (with_reducible first | refine awRet ?_) | ((with_reducible refine awReg fun K hok hK => ?_); clear hok; (try simp (maxSteps := 10000000) (disch := first | omega | simp) []); (repeat' first | (with_reducible refine hK _ (by simp) ?_) | ((with_reducible refine callS' fun K2 hK2 => ?_); (try simp (maxSteps := 10000000) (disch := first | omega | simp) []); (refine hK2 _ _ (compareS_ok r.name s) rfl fun hk9 => ?_); clear hk9; clear hK2 K2; (try simp (maxSteps := 10000000) (disch := first | omega | simp) []))) <;> clear hK K) | ((with_reducible refine awCond fun A B hA hB => ?_); simp (maxSteps := 10000000) (disch := first | omega | simp) []; (first | refine ⟨fun h => hA ?_, fun h => hB ?_⟩ | refine hA ?_ | refine hB ?_) <;> (clear hA hB A B; (try (exfalso; omega))))
  all_goals (refine aEnR (aRes [] fun K hK => ?_); simp (maxSteps := 10000000) (disch := first | omega | simp) []; refine hK _ ?_ (by simp); clear hK; first | done | (simp (maxSteps := 10000000) (disch := first | omega | simp) [*]; done) | (simp (maxSteps := 10000000) (disch := first | omega | simp) [*]; omega) | (simp_all []; done) | (simp_all []; omega))
theorem bsearchK_ok (l : List Rack) (s : ByteArray) (hs : srtK l) (hl : l.length ≤ 1000000) :
    ACall pg 104 [.sl (l.map encKf), St s, .clo 105 []] (.tup [I (rpos l s), B (rthere l s)]) := by
  refine s104.call mo (by simp) fun hxs => ?_
  clear hxs
  unfold c104; dsimp only [oB, oD, oG, oI, oJ, oK, oL, oM, oN, oQ, oW, oZ]
  have hk := rpos_le l s
  have hi := rpos_iff s hs
  have ht : rthere l s = (if h : rpos l s < l.length then cmpS l[rpos l s].name s == 0 else false) := by
    unfold rthere
    split
    · rename_i r hr
      have h : rpos l s < l.length := by
        rcases Nat.lt_or_ge (rpos l s) l.length with h' | h'
        · exact h'
        · rw [List.getElem?_eq_none h'] at hr; cases hr
      rw [dif_pos h, cmpS_zero]
      rw [List.getElem?_eq_getElem h] at hr; cases hr; rfl
    · rename_i hr
      rw [dif_neg]
      intro h; rw [List.getElem?_eq_getElem h] at hr; cases hr
  rw [ht]
  clear ht
  generalize rpos l s = k at *
  repeat' first | (with_reducible first | refine thN ?_ | refine thE ?_ | refine inN ?_ | refine inH ?_ | refine fS ?_ | refine fR ?_ | refine fQ ?_ | refine fE ?_ | refine awBlock ?_ | refine awExit ?_ | refine awRet ?_ | refine awSkip ?_) | ((with_reducible refine awReg fun K hok hK => ?_); clear hok; (try simp (maxSteps := 10000000) (disch := first | omega | simp) []); (repeat' first | (with_reducible refine hK _ (by simp) ?_) | ((with_reducible refine gdT (fun h => ?_) (fun h => ?_)) <;> (simp (maxSteps := 10000000) (disch := first | omega | simp) [h]; (try simp at h); (try (exfalso; omega))))) <;> clear hK K) | ((with_reducible refine awCond fun A B hA hB => ?_); simp (maxSteps := 10000000) (disch := first | omega | simp) []; (first | refine ⟨fun h => hA ?_, fun h => hB ?_⟩ | refine hA ?_ | refine hB ?_) <;> (clear hA hB A B; (try (exfalso; omega))))
  refine awWhile (fun (s : Nat × Nat) => s.2 - s.1) (fun s => s.1 ≤ k ∧ k ≤ s.2 ∧ s.2 ≤ l.length) (fun z => [(10, .p (I z.2)), (9, .p (I z.1)), (8, .p (I l.length)), (2, .p (.clo 105 [])), (1, .p (St s)), (0, .p (.sl (l.map encKf)))]) (0, l.length) (Wk.ofA (by simp)) ⟨by simp, hk, by simp⟩ fun z hs => ?_
  obtain ⟨i, j⟩ := z
  simp only at hs
  by_cases hlt : i < j
  · have e1 : IntKind.u64.wrap ((i : Int) + j) = i + j := by simp [IntKind.wrap, IntKind.bits, IntKind.signed]; omega
    obtain ⟨t, ht1, ht2, e2⟩ : ∃ t : Nat, i ≤ t ∧ t < j ∧ IntKind.i64.wrap (((i : Int) + j).fdiv (2 ^ min 1 IntKind.u64.bits)) = t := by
      refine ⟨(i + j) / 2, by omega, by omega, ?_⟩
      have : (2 : Int) ^ min 1 IntKind.u64.bits = 2 := by decide
      rw [this, Int.fdiv_eq_ediv_of_nonneg _ (by omega), i64_wrap (by omega)]; omega
    have hmid : t < l.length := by omega
    have hik := hi t hmid
    rw [← cmpS_neg] at hik
    repeat' first | (with_reducible first | refine thN ?_ | refine thE ?_ | refine inN ?_ | refine inH ?_ | refine fS ?_ | refine fR ?_ | refine fQ ?_ | refine fE ?_ | refine awBlock ?_ | refine awExit ?_ | refine awRet ?_ | refine awSkip ?_) | ((with_reducible refine awReg fun K hok hK => ?_); clear hok; (try simp (maxSteps := 10000000) (disch := first | omega | simp) [e1, e2]); (repeat' first | (with_reducible refine hK _ (by simp) ?_) | ((with_reducible refine gdT (fun h => ?_) (fun h => ?_)) <;> (simp (maxSteps := 10000000) (disch := first | omega | simp) [h, e1, e2]; (try simp at h); (try (exfalso; omega)))) | ((with_reducible refine callCS' fun K2 hK2 => ?_); (try simp (maxSteps := 10000000) (disch := first | omega | simp) [e1, e2]); (refine hK2 _ _ _ _ (racks1_ok l[t] s) rfl fun hk9 => ?_); clear hk9; clear hK2 K2; (try simp (maxSteps := 10000000) (disch := first | omega | simp) [e1, e2]))) <;> clear hK K) | ((with_reducible refine awCond fun A B hA hB => ?_); simp (maxSteps := 10000000) (disch := first | omega | simp) [e1, e2]; (first | refine ⟨fun h => hA ?_, fun h => hB ?_⟩ | refine hA ?_ | refine hB ?_) <;> (clear hA hB A B; (try (exfalso; omega))))
    · have := hik.2 h
      refine ⟨(t + 1, j), by simp only; omega, by simp only; omega, Wk.ofA (by simp)⟩
    · have : ¬ t < k := fun hh => by have := hik.1 hh; omega
      refine ⟨(i, t), by simp only; omega, by simp only; omega, Wk.ofA (by simp)⟩
  · have : i = k ∧ j = k := by omega
    obtain ⟨rfl, rfl⟩ := this
    by_cases hkl : j < l.length
    · repeat' first | (with_reducible first | refine thN ?_ | refine thE ?_ | refine inN ?_ | refine inH ?_ | refine fS ?_ | refine fR ?_ | refine fQ ?_ | refine fE ?_ | refine awBlock ?_ | refine awExit ?_ | refine awRet ?_ | refine awSkip ?_) | ((with_reducible refine awReg fun K hok hK => ?_); clear hok; (try simp (maxSteps := 10000000) (disch := first | omega | simp) []); (repeat' first | (with_reducible refine hK _ (by simp) ?_) | ((with_reducible refine gdT (fun h => ?_) (fun h => ?_)) <;> (simp (maxSteps := 10000000) (disch := first | omega | simp) [h]; (try simp at h); (try (exfalso; omega)))) | ((with_reducible refine callCS' fun K2 hK2 => ?_); (try simp (maxSteps := 10000000) (disch := first | omega | simp) []); (refine hK2 _ _ _ _ (racks1_ok l[j] s) rfl fun hk9 => ?_); clear hk9; clear hK2 K2; (try simp (maxSteps := 10000000) (disch := first | omega | simp) []))) <;> clear hK K) | ((with_reducible refine awCond fun A B hA hB => ?_); simp (maxSteps := 10000000) (disch := first | omega | simp) []; (first | refine ⟨fun h => hA ?_, fun h => hB ?_⟩ | refine hA ?_ | refine hB ?_) <;> (clear hA hB A B; (try (exfalso; omega))))
      (refine aEnR (aRes [] fun K hK => ?_); simp (maxSteps := 10000000) (disch := first | omega | simp) [hkl]; refine hK _ ?_ (by simp); clear hK; first | done | (simp (maxSteps := 10000000) (disch := first | omega | simp) [hkl, *]; done) | (simp (maxSteps := 10000000) (disch := first | omega | simp) [hkl, *]; omega) | (simp_all [hkl]; done) | (simp_all [hkl]; omega))
    · repeat' first | (with_reducible first | refine thN ?_ | refine thE ?_ | refine inN ?_ | refine inH ?_ | refine fS ?_ | refine fR ?_ | refine fQ ?_ | refine fE ?_ | refine awBlock ?_ | refine awExit ?_ | refine awRet ?_ | refine awSkip ?_) | ((with_reducible refine awReg fun K hok hK => ?_); clear hok; (try simp (maxSteps := 10000000) (disch := first | omega | simp) []); (repeat' first | (with_reducible refine hK _ (by simp) ?_) | ((with_reducible refine gdT (fun h => ?_) (fun h => ?_)) <;> (simp (maxSteps := 10000000) (disch := first | omega | simp) [h]; (try simp at h); (try (exfalso; omega))))) <;> clear hK K) | ((with_reducible refine awCond fun A B hA hB => ?_); simp (maxSteps := 10000000) (disch := first | omega | simp) []; (first | refine ⟨fun h => hA ?_, fun h => hB ?_⟩ | refine hA ?_ | refine hB ?_) <;> (clear hA hB A B; (try (exfalso; omega))))
      (refine aEnR (aRes [] fun K hK => ?_); simp (maxSteps := 10000000) (disch := first | omega | simp) [hkl]; refine hK _ ?_ (by simp); clear hK; first | done | (simp (maxSteps := 10000000) (disch := first | omega | simp) [hkl, *]; done) | (simp (maxSteps := 10000000) (disch := first | omega | simp) [hkl, *]; omega) | (simp_all [hkl]; done) | (simp_all [hkl]; omega))
end
end Go.Am
end
section
set_option maxRecDepth 100000
set_option maxHeartbeats 0
namespace Go.Am
open Go
noncomputable section
theorem insR_ok (l : List Rack) (s : ByteArray) (i : Nat) (hi : i ≤ l.length) (hl : l.length ≤ 1000000) :
    ACallM pg 107 [.uq (l.map encK), I i, .uq [.agg [St s, .uq []]]] [] (.uq ((l.take i ++ ⟨s, []⟩ :: l.drop i).map encK)) [.any, .any, .any] := by
  have := rackIns_ok (l.map encK) (.agg [St s, .uq []]) i (by simpa using hi) (by simpa using hl) (by simp)
  simpa [List.map_take, List.map_drop] using this
theorem map_mixL {α : Type} (f : α → V) (l : List α) (i : Nat) : l.map f = mixL f f l i := by rw [mixL, ← List.map_append, List.take_append_drop]
@[simp] theorem setCell_map {α : Type} (f : α → V) (l : List α) (i j : Nat) (y : V) (h : i < l.length) : (V.uq (l.map f)).setCell i j y = .uq (mixM f f l i ((f l[i]).recell ((f l[i]).cells.set j y))) := by
  rw [map_mixL f l i, setCell_mixL h]
theorem radd_map (L : List Rack) (k : Nat) (id : Int) (h : k < L.length) : (radd L k id).map encK = mixM encK encK L k (.agg [St L[k].name, .uq (L[k].ids.map I ++ [I id])]) := by
  unfold radd mixM
  rw [List.modify_eq_take_cons_drop h]
  simp
theorem ids_le_put {s : List Rack} {n : ByteArray} {i : Nat} (h : ∀ r ∈ s, r.ids.length ≤ i) : ∀ r ∈ rput s n, r.ids.length ≤ i := by
  intro r hr
  unfold rput at hr
  split at hr
  · exact h r hr
  · rcases List.mem_append.1 hr with hr | hr
    · exact h r (List.mem_of_mem_take hr)
    · rcases List.mem_cons.1 hr with rfl | hr
      · simp
      · exact h r (List.mem_of_mem_drop hr)
theorem ids_le_add {s : List Rack} {k : Nat} {id : Int} {i : Nat} (h : ∀ r ∈ s, r.ids.length ≤ i) : ∀ r ∈ radd s k id, r.ids.length ≤ i + 1 := by
  intro r hr
  obtain ⟨j, hj, rfl⟩ := List.getElem_of_mem hr
  simp only [radd, List.length_modify] at hj
  simp only [radd, List.getElem_modify]
  have := h s[j] (List.getElem_mem hj)
  split
  · simp; omega
  · omega
theorem racks_ok (m : Image) (hb : m.brokers.length ≤ 1000) : ACall pg 94 [encM m] (.uq ((racksOf m.brokers).map encK)) := by
  refine s94.call mo (by simp) fun hxs => ?_
  clear hxs
  unfold c94; dsimp only [oA, oB, oC, oD, oF, oG, oJ, oK, oL, oM, oN, oO, oP, oS, oU, oX]
  repeat' first | (with_reducible first | refine thN ?_ | refine thE ?_ | refine inN ?_ | refine inH ?_ | refine fS ?_ | refine fR ?_ | refine fQ ?_ | refine fE ?_ | refine awBlock ?_ | refine awExit ?_ | refine awRet ?_ | refine awSkip ?_) | ((with_reducible refine awReg fun K hok hK => ?_); clear hok; (try simp (maxSteps := 10000000) (disch := first | omega | simp) []); (repeat' first | (with_reducible refine hK _ (by simp) ?_) | ((first | ((with_reducible refine sideQ' ?_ ?_ fun K2 hK2 => ?_); exact rfl; exact rfl; (try simp (maxSteps := 10000000) (disch := first | omega | simp) []); with_reducible refine hK2 _ _ ?_; clear hK2 K2) | ((with_reducible refine side' ?_ fun K2 hK2 => ?_); exact rfl; (try simp (maxSteps := 10000000) (disch := first | omega | simp) []); refine hK2 _ _ (by simp) ?_; clear hK2 K2)); (try simp (maxSteps := 10000000) (disch := first | omega | simp) []))) <;> clear hK K) | ((with_reducible refine awCond fun A B hA hB => ?_); simp (maxSteps := 10000000) (disch := first | omega | simp) []; (first | refine ⟨fun h => hA ?_, fun h => hB ?_⟩ | refine hA ?_ | refine hB ?_) <;> (clear hA hB A B; (try (exfalso; omega))))
  refine awFor m.brokers.length (fun i (s : List Rack) => (m.brokers.drop i).foldl rackStep s = racksOf m.brokers ∧ srtK s ∧ s.length ≤ i ∧ ∀ r ∈ s, r.ids.length ≤ i) (fun i s => [(11, .p (I i)), (10, .p (I m.brokers.length)), (9, .p (.sl (m.brokers.map encB))), (3, .p (.uq (s.map encK)))]) [] (Wk.ofA (by simp)) ⟨rfl, by simp, by simp, by simp⟩ fun i s hi hs => ?_
  obtain ⟨hs, hsr, hsl, hid⟩ := hs
  by_cases hlt : i < m.brokers.length
  · rw [foldl_drop hlt] at hs
    generalize hbb : m.brokers[i] = b at hs
    cases hrd : readyB b with
    | false =>
      have e : rackStep s b = s := by simp [rackStep, hrd]
      rw [e] at hs
      have hre := placeReady_ok b
      rw [hrd] at hre
      repeat' first | (with_reducible first | refine thN ?_ | refine thE ?_ | refine inN ?_ | refine inH ?_ | refine fS ?_ | refine fR ?_ | refine fQ ?_ | refine fE ?_ | refine awBlock ?_ | refine awExit ?_ | refine awRet ?_ | refine awSkip ?_) | ((with_reducible refine awReg fun K hok hK => ?_); clear hok; (try simp (maxSteps := 10000000) (disch := first | omega | simp) [hbb]); (repeat' first | (with_reducible refine hK _ (by simp) ?_) | ((first | ((with_reducible refine callS' fun K2 hK2 => ?_); (try simp (maxSteps := 10000000) (disch := first | omega | simp) [hbb]); (refine hK2 _ _ hre rfl fun hk9 => ?_); clear hk9; clear hK2 K2) | ((with_reducible refine callA' fun K2 hK2 => ?_); (try simp (maxSteps := 10000000) (disch := first | omega | simp) [hbb]); (refine hK2 _ _ _ _ hre fun _ => ?_); clear hK2 K2) | ((with_reducible refine sideQ' ?_ ?_ fun K2 hK2 => ?_); exact rfl; exact rfl; (try simp (maxSteps := 10000000) (disch := first | omega | simp) [hbb]); with_reducible refine hK2 _ _ ?_; clear hK2 K2) | ((with_reducible refine side' ?_ fun K2 hK2 => ?_); exact rfl; (try simp (maxSteps := 10000000) (disch := first | omega | simp) [hbb]); refine hK2 _ _ (by simp) ?_; clear hK2 K2)); (try simp (maxSteps := 10000000) (disch := first | omega | simp) [hbb]))) <;> clear hK K) | ((with_reducible refine awCond fun A B hA hB => ?_); simp (maxSteps := 10000000) (disch := first | omega | simp) [hbb]; (first | refine ⟨fun h => hA ?_, fun h => hB ?_⟩ | refine hA ?_ | refine hB ?_) <;> (clear hA hB A B; (try (exfalso; omega))))
      (refine ⟨?_, s, ?_, Wk.ofA ?_⟩; assumption; rotate_left; focus (simp []; done))
      exact ⟨hs, hsr, by omega, fun r hr => by have := hid r hr; omega⟩
    | true =>
      have hre := placeReady_ok b
      rw [hrd] at hre
      have e : rackStep s b = radd (rput s b.rack) (rpos s b.rack) b.id := by simp [rackStep, hrd]
      have hbs := bsearchK_ok s b.rack hsr (by omega)
      have hk := rput_at s b.rack
      have hkl := rput_len s b.rack
      have hss := rackStep_srt b hsr
      have hsl' := rackStep_len s b
      have hin := insR_ok s b.rack (rpos s b.rack) (rpos_le _ _) (by omega)
      have hid2 := ids_le_put (n := b.rack) hid
      generalize hL : rput s b.rack = L at *
      generalize hkk : rpos s b.rack = k at *
      have hid3 := hid2 L[k] (List.getElem_mem hk)
      have hrm := radd_map L k b.id hk
      have hid4 := ids_le_add (k := k) (id := b.id) hid2
      rw [← e] at hrm hid4
      cases hth : rthere s b.rack with
      | true =>
        rw [hth] at hbs
        have eL : L = s := by rw [← hL]; simp [rput, hth]
        subst eL
        repeat' first | (with_reducible first | refine thN ?_ | refine thE ?_ | refine inN ?_ | refine inH ?_ | refine fS ?_ | refine fR ?_ | refine fQ ?_ | refine fE ?_ | refine awBlock ?_ | refine awExit ?_ | refine awRet ?_ | refine awSkip ?_) | ((with_reducible refine awReg fun K hok hK => ?_); clear hok; (try simp (maxSteps := 10000000) (disch := first | omega | simp) [hbb, hk]); (repeat' first | (with_reducible refine hK _ (by simp) ?_) | ((first | ((with_reducible refine callS' fun K2 hK2 => ?_); (try simp (maxSteps := 10000000) (disch := first | omega | simp) [hbb, hk]); (first | refine hK2 _ _ hre rfl fun hk9 => ?_ | refine hK2 _ _ hbs rfl fun hk9 => ?_); clear hk9; clear hK2 K2) | ((with_reducible refine callA' fun K2 hK2 => ?_); (try simp (maxSteps := 10000000) (disch := first | omega | simp) [hbb, hk]); (first | refine hK2 _ _ _ _ hre fun _ => ?_ | refine hK2 _ _ _ _ hbs fun _ => ?_); clear hK2 K2) | ((with_reducible refine sideQ' ?_ ?_ fun K2 hK2 => ?_); exact rfl; exact rfl; (try simp (maxSteps := 10000000) (disch := first | omega | simp) [hbb, hk]); with_reducible refine hK2 _ _ ?_; clear hK2 K2) | ((with_reducible refine side' ?_ fun K2 hK2 => ?_); exact rfl; (try simp (maxSteps := 10000000) (disch := first | omega | simp) [hbb, hk]); refine hK2 _ _ (by simp) ?_; clear hK2 K2)); (try simp (maxSteps := 10000000) (disch := first | omega | simp) [hbb, hk]))) <;> clear hK K) | ((with_reducible refine awCond fun A B hA hB => ?_); simp (maxSteps := 10000000) (disch := first | omega | simp) [hbb, hk]; (first | refine ⟨fun h => hA ?_, fun h => hB ?_⟩ | refine hA ?_ | refine hB ?_) <;> (clear hA hB A B; (try (exfalso; omega))))
        (refine ⟨?_, rackStep L b, ?_, Wk.ofA ?_⟩; assumption; rotate_left; focus (simp [hrm]; done))
        exact ⟨hs, hss, by omega, hid4⟩
      | false =>
        rw [hth] at hbs
        have eL : s.take k ++ ⟨b.rack, []⟩ :: s.drop k = L := by rw [← hL]; simp [rput, hth, hkk]
        rw [eL] at hin
        repeat' first | (with_reducible first | refine thN ?_ | refine thE ?_ | refine inN ?_ | refine inH ?_ | refine fS ?_ | refine fR ?_ | refine fQ ?_ | refine fE ?_ | refine awBlock ?_ | refine awExit ?_ | refine awRet ?_ | refine awSkip ?_) | ((with_reducible refine awReg fun K hok hK => ?_); clear hok; (try simp (maxSteps := 10000000) (disch := first | omega | simp) [hbb, hk]); (repeat' first | (with_reducible refine hK _ (by simp) ?_) | ((first | ((with_reducible refine callS' fun K2 hK2 => ?_); (try simp (maxSteps := 10000000) (disch := first | omega | simp) [hbb, hk]); (first | refine hK2 _ _ hre rfl fun hk9 => ?_ | refine hK2 _ _ hbs rfl fun hk9 => ?_ | refine hK2 _ _ hin rfl fun hk9 => ?_); clear hk9; clear hK2 K2) | ((with_reducible refine callA' fun K2 hK2 => ?_); (try simp (maxSteps := 10000000) (disch := first | omega | simp) [hbb, hk]); (first | refine hK2 _ _ _ _ hre fun _ => ?_ | refine hK2 _ _ _ _ hbs fun _ => ?_ | refine hK2 _ _ _ _ hin fun _ => ?_); clear hK2 K2) | ((with_reducible refine sideQ' ?_ ?_ fun K2 hK2 => ?_); exact rfl; exact rfl; (try simp (maxSteps := 10000000) (disch := first | omega | simp) [hbb, hk]); with_reducible refine hK2 _ _ ?_; clear hK2 K2) | ((with_reducible refine side' ?_ fun K2 hK2 => ?_); exact rfl; (try simp (maxSteps := 10000000) (disch := first | omega | simp) [hbb, hk]); refine hK2 _ _ (by simp) ?_; clear hK2 K2)); (try simp (maxSteps := 10000000) (disch := first | omega | simp) [hbb, hk]))) <;> clear hK K) | ((with_reducible refine awCond fun A B hA hB => ?_); simp (maxSteps := 10000000) (disch := first | omega | simp) [hbb, hk]; (first | refine ⟨fun h => hA ?_, fun h => hB ?_⟩ | refine hA ?_ | refine hB ?_) <;> (clear hA hB A B; (try (exfalso; omega))))
        (refine ⟨?_, rackStep s b, ?_, Wk.ofA ?_⟩; assumption; rotate_left; focus (simp [hrm]; done))
        exact ⟨hs, hss, by omega, hid4⟩
  · have e : racksOf m.brokers = s := by rw [drop_nil (by omega)] at hs; exact hs.symm
    repeat' first | (with_reducible first | refine thN ?_ | refine thE ?_ | refine inN ?_ | refine inH ?_ | refine fS ?_ | refine fR ?_ | refine fQ ?_ | refine fE ?_ | refine awBlock ?_ | refine awExit ?_ | refine awRet ?_ | refine awSkip ?_) | ((with_reducible refine awReg fun K hok hK => ?_); clear hok; (try simp (maxSteps := 10000000) (disch := first | omega | simp) []); (repeat' first | (with_reducible refine hK _ (by simp) ?_) | ((first | ((with_reducible refine sideQ' ?_ ?_ fun K2 hK2 => ?_); exact rfl; exact rfl; (try simp (maxSteps := 10000000) (disch := first | omega | simp) []); with_reducible refine hK2 _ _ ?_; clear hK2 K2) | ((with_reducible refine side' ?_ fun K2 hK2 => ?_); exact rfl; (try simp (maxSteps := 10000000) (disch := first | omega | simp) []); refine hK2 _ _ (by simp) ?_; clear hK2 K2)); (try simp (maxSteps := 10000000) (disch := first | omega | simp) []))) <;> clear hK K) | ((with_reducible refine awCond fun A B hA hB => ?_); simp (maxSteps := 10000000) (disch := first | omega | simp) []; (first | refine ⟨fun h => hA ?_, fun h => hB ?_⟩ | refine hA ?_ | refine hB ?_) <;> (clear hA hB A B; (try (exfalso; omega))))
    (refine aEnR (aRes [] fun K hK => ?_); simp (maxSteps := 10000000) (disch := first | omega | simp) [e]; refine hK _ ?_ (by simp); clear hK; first | done | (simp (maxSteps := 10000000) (disch := first | omega | simp) [e, *]; done) | (simp (maxSteps := 10000000) (disch := first | omega | simp) [e, *]; omega) | (simp_all [e]; done) | (simp_all [e]; omega))
end
end Go.Am
end
section
set_option maxRecDepth 100000
set_option maxHeartbeats 0
namespace Go.Am
open Go
noncomputable section
def c71 : SC := (.seq (.reg [oO 1 36 0,oD 2 (.assign (.const (.slice none 0 0)))] [1,32]) (.seq (.reg [oD 3 (.assign (.const (.slice none 0 0)))] [1,3,32]) (.seq (.reg [oL 9 36 1,oC 10 94 #[.tmp 9] #[36],oG 4 10] [3,4,10,32]) (.seq (.reg [oZ 5 true,oI 6 0] [3,4,5,6,10,13,32]) (.seq (.block 0 (.seq (.loop (.seq (.reg [oM 11 5] [3,4,5,6,10,11,13,32]) (.seq (.cond (.tmp 11) .skip (.exit 0)) (.seq (.block 1 (.seq (.reg [oZ 5 false] [3,4,5,6,10,13,32]) (.seq (.reg [oM 14 4,oN 15 14 158,oD 16 (.move (.const (.int .i64 0)))] [3,4,5,6,10,13,14,15,16,32,33]) (.seq (.block 2 (.seq (.loop (.seq (.reg [oB 17 .lss 3 16 15 3] [3,4,5,6,10,13,14,15,16,17,32,33]) (.seq (.cond (.tmp 17) .skip (.exit 2)) (.seq (.block 3 (.seq (.reg [oJ 18 158 14 16,oL 19 161 18,oA 8 161,oS 161 8 19] [3,4,5,6,8,10,13,14,15,16,32,33]) (.seq (.reg [oM 20 6,oF 21 161 8 1,oL 22 23 21,oN 23 22 23,oB 24 .lss 3 20 23 3] [3,4,5,6,8,10,13,14,15,16,24,32,33]) (.seq (.cond (.tmp 24) (.seq (.reg [oM 25 3,oF 26 161 8 1,oL 27 23 26,oM 28 6,oJ 29 23 27 28,oL 30 3 29,oD 31 (.buildSlice 23 1 #[(0,.tmp 30)]),oP 32 #[.tmp 25,.tmp 31] #[23,23],oG 3 32] [3,4,6,10,13,14,15,16,32,33]) (.seq (.reg [oZ 5 true] [3,4,5,6,10,13,14,15,16,32,33]) .skip)) .skip) .skip)))) (.seq (.reg [oK 33 .add 3 16 1 3,oM 16 33] [3,4,5,6,10,13,14,15,16,32,33]) .skip))))) .skip)) .skip)))) (.seq (.reg [oM 12 6,oK 13 .add 3 12 1 3,oG 6 13] [3,4,5,6,10,13,32]) .skip))))) .skip)) (.seq (.reg [oM 34 3,oG 2 34] [2,3,32,34]) .ret))))))
theorem s71 : TextK Proofs.Tryz.prog 0 71 35 [ResultVar.tmp 2] c71 := .mk' Proofs.Tryz.f71 _ (by kernel_rfl) rfl rfl rfl (by kernel_rfl) rfl (by kernel_rfl)
theorem Wk.frz0 {l : List (Nat × E)} {r : Nat} {X : List V} (h : Am.ofA l r = .p (.uq X)) : Wk (Am.ofA l) (Am.ofA ((r, .p (.sl (pvL X))) :: blurK r [] l)) := by
  have hc : cont (Am.ofA l) r = .uq X := by simp [cont, h]
  have := Wk.freeze (Γ := Am.ofA l) (r := r) (q := []) (D := .uq X) (by rw [hc]; rfl) (by simp)
  rw [upd_ofA, hc] at this
  exact this
theorem order_ok (m : Image) (hb : m.brokers.length ≤ 100) : ACall pg 71 [encM m] (.uq (m.order.map I)) := by
  refine s71.call mo (by simp) fun hxs => ?_
  clear hxs
  unfold c71; dsimp only [oA, oB, oC, oD, oF, oG, oI, oJ, oK, oL, oM, oN, oO, oP, oS, oZ]
  have hra := racks_ok m (by omega)
  have hl0 := racksOf_len m.brokers [] 0 (by simp) (by simp)
  unfold Image.order
  change ACall _ _ _ (.uq ((racksOf m.brokers).map encK)) at hra
  have hll : (racksOf m.brokers).length ≤ 100 := by have := hl0.1; unfold racksOf; omega
  have hil : ∀ r ∈ racksOf m.brokers, r.ids.length ≤ 100 := fun r hr => by have := hl0.2 r hr; omega
  clear hl0
  generalize racksOf m.brokers = l at *
  have hol := orderOf_len l
  repeat' first | (with_reducible first | refine thN ?_ | refine thE ?_ | refine inN ?_ | refine inH ?_ | refine fS ?_ | refine fR ?_ | refine fQ ?_ | refine fE ?_ | refine awBlock ?_ | refine awExit ?_ | refine awRet ?_ | refine awSkip ?_) | ((with_reducible refine awReg fun K hok hK => ?_); clear hok; (try simp (maxSteps := 10000000) (disch := first | omega | simp) []); (repeat' first | (with_reducible refine hK _ (by simp) ?_) | ((with_reducible refine callF' fun K2 hK2 => ?_); (try simp (maxSteps := 10000000) (disch := first | omega | simp) []); (refine hK2 _ _ _ hra fun _ => ?_); clear hK2 K2; (try simp (maxSteps := 10000000) (disch := first | omega | simp) []))) <;> clear hK K) | ((with_reducible refine awCond fun A B hA hB => ?_); simp (maxSteps := 10000000) (disch := first | omega | simp) []; (first | refine ⟨fun h => hA ?_, fun h => hB ?_⟩ | refine hA ?_ | refine hB ?_) <;> (clear hA hB A B; (try (exfalso; omega))))
  refine awWhile (fun (s : List Int × Bool × Nat) => 102 - s.2.2) (fun s => s.1 ++ ((List.range 1000).drop s.2.2).flatMap (roundK l) = orderOf l ∧ (s.2.1 = false → ∀ r ∈ l, r.ids.length ≤ s.2.2) ∧ s.2.2 ≤ 101 ∧ (s.2.1 = true → s.2.2 ≤ 100))
    (fun s => [(6, .p (I s.2.2)), (5, .p (B s.2.1)), (4, .p (.sl (l.map encKf))), (3, .p (.uq (s.1.map I)))]) ([], true, 0) (((Wk.frz0 (r := 4) rfl).trans (Wk.ofA (by simp)))) ⟨by simp [orderOf], by simp, by simp, by simp⟩ fun s hs => ?_
  obtain ⟨out, more, i⟩ := s
  simp only at hs
  obtain ⟨hs, hf, hi1, hi2⟩ := hs
  cases more with
  | false =>
    have e : orderOf l = out := by rw [rest_nil (hf rfl), List.append_nil] at hs; exact hs.symm
    repeat' first | (with_reducible first | refine thN ?_ | refine thE ?_ | refine inN ?_ | refine inH ?_ | refine fS ?_ | refine fR ?_ | refine fQ ?_ | refine fE ?_ | refine awBlock ?_ | refine awExit ?_ | refine awRet ?_ | refine awSkip ?_) | ((with_reducible refine awReg fun K hok hK => ?_); clear hok; (try simp (maxSteps := 10000000) (disch := first | omega | simp) []); (repeat' first | (with_reducible refine hK _ (by simp) ?_)) <;> clear hK K) | ((with_reducible refine awCond fun A B hA hB => ?_); simp (maxSteps := 10000000) (disch := first | omega | simp) []; (first | refine ⟨fun h => hA ?_, fun h => hB ?_⟩ | refine hA ?_ | refine hB ?_) <;> (clear hA hB A B; (try (exfalso; omega))))
    (refine aEnR (aRes [] fun K hK => ?_); simp (maxSteps := 10000000) (disch := first | omega | simp) [e]; refine hK _ ?_ (by simp); clear hK; first | done | (simp (maxSteps := 10000000) (disch := first | omega | simp) [e, *]; done) | (simp (maxSteps := 10000000) (disch := first | omega | simp) [e, *]; omega) | (simp_all [e]; done) | (simp_all [e]; omega))
  | true =>
    have hi := hi2 rfl
    rw [drop_cons (show i < (List.range 1000).length by simp; omega)] at hs
    simp only [List.getElem_range, List.flatMap_cons] at hs
    generalize hrest : ((List.range 1000).drop (i + 1)).flatMap (roundK l) = rest at hs
    repeat' first | (with_reducible first | refine thN ?_ | refine thE ?_ | refine inN ?_ | refine inH ?_ | refine fS ?_ | refine fR ?_ | refine fQ ?_ | refine fE ?_ | refine awBlock ?_ | refine awExit ?_ | refine awRet ?_ | refine awSkip ?_) | ((with_reducible refine awReg fun K hok hK => ?_); clear hok; (try simp (maxSteps := 10000000) (disch := first | omega | simp) []); (repeat' first | (with_reducible refine hK _ (by simp) ?_)) <;> clear hK K) | ((with_reducible refine awCond fun A B hA hB => ?_); simp (maxSteps := 10000000) (disch := first | omega | simp) []; (first | refine ⟨fun h => hA ?_, fun h => hB ?_⟩ | refine hA ?_ | refine hB ?_) <;> (clear hA hB A B; (try (exfalso; omega))))
    refine awFor l.length (fun k (s : List Int × Bool) => s.1 ++ (roundK (l.drop k) i ++ rest) = orderOf l ∧ (s.2 = false → ∀ r ∈ l.take k, r.ids.length ≤ i) ∧ (s.2 = true → i + 1 ≤ 100)) (fun k s => [(16, .p (I k)), (15, .p (I l.length)), (14, .p (.sl (l.map encKf))), (6, .p (I i)), (5, .p (B s.2)), (4, .p (.sl (l.map encKf))), (3, .p (.uq (s.1.map I)))]) (out, false) (Wk.ofA (by simp)) ⟨by simpa using hs, by simp, by simp⟩ fun k s hk hs2 => ?_
    obtain ⟨o2, more⟩ := s
    simp only at hs2
    obtain ⟨h1, h2, h3⟩ := hs2
    have ho2 : o2.length ≤ 100000 := by
      have := congrArg List.length h1
      simp only [List.length_append] at this
      omega
    by_cases hlt : k < l.length
    · rw [drop_cons hlt] at h1
      simp only [roundK, List.flatMap_cons] at h1
      have hrl := hil _ (List.getElem_mem hlt)
      generalize hr : l[k] = r at *
      by_cases hir : i < r.ids.length
      · rw [List.getElem?_eq_getElem hir] at h1
        repeat' first | (with_reducible first | refine thN ?_ | refine thE ?_ | refine inN ?_ | refine inH ?_ | refine fS ?_ | refine fR ?_ | refine fQ ?_ | refine fE ?_ | refine awBlock ?_ | refine awExit ?_ | refine awRet ?_ | refine awSkip ?_) | ((with_reducible refine awReg fun K hok hK => ?_); clear hok; (try simp (maxSteps := 10000000) (disch := first | omega | simp) [hr, hir]); (repeat' first | (with_reducible refine hK _ (by simp) ?_)) <;> clear hK K) | ((with_reducible refine awCond fun A B hA hB => ?_); simp (maxSteps := 10000000) (disch := first | omega | simp) [hr, hir]; (first | refine ⟨fun h => hA ?_, fun h => hB ?_⟩ | refine hA ?_ | refine hB ?_) <;> (clear hA hB A B; (try (exfalso; omega))))
        (refine ⟨?_, (o2 ++ [r.ids[i]], true), ?_, Wk.ofA ?_⟩; assumption; rotate_left; focus (simp []; done))
        exact ⟨by simp only [roundK]; simpa using h1, by simp, fun _ => by omega⟩
      · rw [List.getElem?_eq_none (by omega)] at h1
        repeat' first | (with_reducible first | refine thN ?_ | refine thE ?_ | refine inN ?_ | refine inH ?_ | refine fS ?_ | refine fR ?_ | refine fQ ?_ | refine fE ?_ | refine awBlock ?_ | refine awExit ?_ | refine awRet ?_ | refine awSkip ?_) | ((with_reducible refine awReg fun K hok hK => ?_); clear hok; (try simp (maxSteps := 10000000) (disch := first | omega | simp) [hr]); (repeat' first | (with_reducible refine hK _ (by simp) ?_)) <;> clear hK K) | ((with_reducible refine awCond fun A B hA hB => ?_); simp (maxSteps := 10000000) (disch := first | omega | simp) [hr]; (first | refine ⟨fun h => hA ?_, fun h => hB ?_⟩ | refine hA ?_ | refine hB ?_) <;> (clear hA hB A B; (try (exfalso; omega))))
        (refine ⟨?_, (o2, more), ?_, Wk.ofA ?_⟩; assumption; rotate_left; focus (simp []; done))
        refine ⟨by simp only [roundK]; simpa using h1, fun e q hq => ?_, h3⟩
        rw [List.take_add_one, List.getElem?_eq_getElem hlt, hr] at hq
        rcases List.mem_append.1 hq with hq | hq
        · exact h2 e q hq
        · have : q = r := by simpa using hq
          subst this; omega
    · have e : l.drop k = [] := drop_nil (by omega)
      rw [e] at h1
      simp only [roundK, List.flatMap_nil, List.nil_append] at h1
      repeat' first | (with_reducible first | refine thN ?_ | refine thE ?_ | refine inN ?_ | refine inH ?_ | refine fS ?_ | refine fR ?_ | refine fQ ?_ | refine fE ?_ | refine awBlock ?_ | refine awExit ?_ | refine awRet ?_ | refine awSkip ?_) | ((with_reducible refine awReg fun K hok hK => ?_); clear hok; (try simp (maxSteps := 10000000) (disch := first | omega | simp) []); (repeat' first | (with_reducible refine hK _ (by simp) ?_)) <;> clear hK K) | ((with_reducible refine awCond fun A B hA hB => ?_); simp (maxSteps := 10000000) (disch := first | omega | simp) []; (first | refine ⟨fun h => hA ?_, fun h => hB ?_⟩ | refine hA ?_ | refine hB ?_) <;> (clear hA hB A B; (try (exfalso; omega))))
      refine ⟨(o2, more, i + 1), by simp only; omega, ⟨by simp only; rw [hrest]; exact h1, fun em r hr => ?_, by simp only; omega, fun em => h3 em⟩, Wk.ofA (by simp)⟩
      have := h2 em r (by rw [List.take_of_length_le (by omega)]; exact hr)
      simp only; omega
end
end Go.Am
end
section
set_option maxRecDepth 100000
set_option maxHeartbeats 0
namespace Go.Am
open Go
noncomputable section
end
end Go.Am
end
section
set_option maxRecDepth 100000
set_option maxHeartbeats 0
namespace Go.Am
open Go
noncomputable section
def mE (l : List (ByteArray × Int)) : List (Value × Value) := l.map fun e => (.string e.1, .int .i64 e.2)
end
end Go.Am
end
section
set_option maxRecDepth 100000
set_option maxHeartbeats 0
namespace Go.Am
open Go
noncomputable section
end
end Go.Am
end
section
set_option maxRecDepth 100000
set_option maxHeartbeats 0
namespace Go.Am
open Go
noncomputable section
def c42 : SC := (.seq (.reg [oO 2 36 0,oD 4 (.assign (.const .nilIface))] [1,2,18,40]) (.seq (.reg [oM 8 1,oN 9 8 23,oK 10 .lss 3 9 1 3,oM 11 10,oW 11 false (oM 12 1),oW 11 false (oN 13 12 23),oW 11 false (oK 14 .gtr 3 13 7 3),oR 15 11 true 14] [1,2,10,11,14,15,18,40]) (.seq (.cond (.tmp 15) (.seq (.reg [oM 16 1,oN 17 16 23,oD 18 (.call { callee := .value (.func 33),args := #[.const (.string ⟨#[114,101,112,108,105,99,97,115]⟩),.tmp 17,.const (.int .i64 18)],argTypes := #[9,3,42] }),oG 4 18] [4,18,40]) .ret) .skip) (.seq (.reg [oL 19 36 2,oC 20 71 #[.tmp 19] #[36],oG 5 20] [1,5,18,20,40]) (.seq (.reg [oM 21 1,oN 22 21 23,oD 23 (.move (.const (.int .i64 0)))] [1,5,18,20,21,22,23,40,41]) (.seq (.block 0 (.seq (.loop (.seq (.reg [oB 24 .lss 3 23 22 3] [1,5,18,20,21,22,23,24,40,41]) (.seq (.cond (.tmp 24) .skip (.exit 0)) (.seq (.block 1 (.seq (.reg [oM 25 23,oJ 26 23 21 23,oL 27 3 26,oG 6 25,oG 7 27] [1,5,6,7,18,20,21,22,23,25,26,27,40,41]) (.seq (.reg [oM 28 5,oM 29 7,oC 30 72 #[.tmp 28,.tmp 29] #[23,3],oD 31 (.unOp .not 4 (.tmp 30)),oM 32 31,oW 32 false (oM 33 1),oW 32 false (oM 34 6),oW 32 false (oD 35 (.slice 23 (.tmp 33) none (some (.tmp 34)) none)),oW 32 false (oM 36 7),oW 32 false (oC 37 72 #[.tmp 35,.tmp 36] #[23,3]),oR 38 32 true 37] [1,5,6,18,20,21,22,23,25,31,32,37,38,40,41]) (.seq (.cond (.tmp 38) (.seq (.reg [oM 39 6,oD 40 (.call { callee := .value (.func 33),args := #[.const (.string ⟨#[114,101,112,108,105,99,97]⟩),.tmp 39,.const (.int .i64 18)],argTypes := #[9,3,42] }),oG 4 40] [4,18,40]) .ret) .skip) .skip)))) (.seq (.reg [oK 41 .add 3 23 1 3,oM 23 41] [1,5,18,20,21,22,23,40,41]) .skip))))) .skip)) (.seq (.reg [oD 4 (.assign (.const .nilIface))] [4,18,40]) .ret)))))))
theorem s42 : TextK Proofs.Tryz.prog 0 42 42 [ResultVar.tmp 4] c42 := .mk' Proofs.Tryz.f42 _ (by kernel_rfl) rfl rfl rfl (by kernel_rfl) rfl (by kernel_rfl)
theorem check_ok (m : Image) (ids : List Int) (hb : m.brokers.length ≤ 100) (hid : ids.length ≤ 1000000) : ACall pg 42 [encM m, Li ids] (errO (ckP m.order ids)) := by
  refine s42.call mo (by simp) fun hxs => ?_
  clear hxs
  unfold c42; dsimp only [oB, oC, oD, oG, oJ, oK, oL, oM, oN, oO, oR, oW]
  have hro := order_ok m hb
  have hol : m.order.length ≤ 1000 := by
    have := (order_perm m (by omega)).length_eq
    rw [this, List.length_map]
    have := List.length_filter_le readyB m.brokers
    omega
  generalize m.order = order at *
  have hne := new_ok (bs [114, 101, 112, 108, 105, 99, 97, 115]) ids.length 18
  by_cases h1 : (ids.length : Int) < 1
  · have e : ckP order ids = some (bs [114, 101, 112, 108, 105, 99, 97, 115], (ids.length : Int), 18) := by unfold ckP; rw [if_pos (by omega)]
    rw [e]
    repeat' first | (with_reducible first | refine thN ?_ | refine thR ?_ | refine thE ?_ | refine inN ?_ | refine inR ?_ | refine inH ?_ | refine fS ?_ | refine fR ?_ | refine fQ ?_ | refine fE ?_ | refine fT ?_ | refine awBlock ?_ | refine awExit ?_ | refine awRet ?_ | refine awSkip ?_) | ((with_reducible refine awReg fun K hok hK => ?_); clear hok; (try simp (maxSteps := 10000000) (disch := first | omega | simp) [h1]); (repeat' first | (with_reducible refine hK _ (by simp) ?_) | ((first | ((with_reducible refine callS' fun K2 hK2 => ?_); (try simp (maxSteps := 10000000) (disch := first | omega | simp) [h1]); (refine hK2 _ _ hne rfl fun hk9 => ?_); clear hk9; clear hK2 K2) | ((with_reducible refine callF' fun K2 hK2 => ?_); (try simp (maxSteps := 10000000) (disch := first | omega | simp) [h1]); (refine hK2 _ _ _ hne fun _ => ?_); clear hK2 K2)); (try simp (maxSteps := 10000000) (disch := first | omega | simp) [h1]))) <;> clear hK K) | ((with_reducible refine awCond fun A B hA hB => ?_); simp (maxSteps := 10000000) (disch := first | omega | simp) [h1]; (first | refine ⟨fun h => hA ?_, fun h => hB ?_⟩ | refine hA ?_ | refine hB ?_) <;> (clear hA hB A B; (try (exfalso; omega))))
    all_goals (refine aEnR (aRes [] fun K hK => ?_); simp (maxSteps := 10000000) (disch := first | omega | simp) []; refine hK _ ?_ (by simp); clear hK; first | done | (simp (maxSteps := 10000000) (disch := first | omega | simp) [*]; done) | (simp (maxSteps := 10000000) (disch := first | omega | simp) [*]; omega) | (simp_all []; done) | (simp_all []; omega))
  by_cases h2 : 7 < (ids.length : Int)
  · have e : ckP order ids = some (bs [114, 101, 112, 108, 105, 99, 97, 115], (ids.length : Int), 18) := by unfold ckP; rw [if_pos (by omega)]
    rw [e]
    repeat' first | (with_reducible first | refine thN ?_ | refine thR ?_ | refine thE ?_ | refine inN ?_ | refine inR ?_ | refine inH ?_ | refine fS ?_ | refine fR ?_ | refine fQ ?_ | refine fE ?_ | refine fT ?_ | refine awBlock ?_ | refine awExit ?_ | refine awRet ?_ | refine awSkip ?_) | ((with_reducible refine awReg fun K hok hK => ?_); clear hok; (try simp (maxSteps := 10000000) (disch := first | omega | simp) [h1, h2]); (repeat' first | (with_reducible refine hK _ (by simp) ?_) | ((first | ((with_reducible refine callS' fun K2 hK2 => ?_); (try simp (maxSteps := 10000000) (disch := first | omega | simp) [h1, h2]); (refine hK2 _ _ hne rfl fun hk9 => ?_); clear hk9; clear hK2 K2) | ((with_reducible refine callF' fun K2 hK2 => ?_); (try simp (maxSteps := 10000000) (disch := first | omega | simp) [h1, h2]); (refine hK2 _ _ _ hne fun _ => ?_); clear hK2 K2)); (try simp (maxSteps := 10000000) (disch := first | omega | simp) [h1, h2]))) <;> clear hK K) | ((with_reducible refine awCond fun A B hA hB => ?_); simp (maxSteps := 10000000) (disch := first | omega | simp) [h1, h2]; (first | refine ⟨fun h => hA ?_, fun h => hB ?_⟩ | refine hA ?_ | refine hB ?_) <;> (clear hA hB A B; (try (exfalso; omega))))
    all_goals (refine aEnR (aRes [] fun K hK => ?_); simp (maxSteps := 10000000) (disch := first | omega | simp) []; refine hK _ ?_ (by simp); clear hK; first | done | (simp (maxSteps := 10000000) (disch := first | omega | simp) [*]; done) | (simp (maxSteps := 10000000) (disch := first | omega | simp) [*]; omega) | (simp_all []; done) | (simp_all []; omega))
  clear hne
  have e : ckP order ids = ((List.range ids.length).find? (ckBad order ids)).map fun i : Nat => (bs [114, 101, 112, 108, 105, 99, 97], (i : Int), 18) := by unfold ckP; rw [if_neg (by omega)]
  rw [e]
  clear e
  repeat' first | (with_reducible first | refine thN ?_ | refine thR ?_ | refine thE ?_ | refine inN ?_ | refine inR ?_ | refine inH ?_ | refine fS ?_ | refine fR ?_ | refine fQ ?_ | refine fE ?_ | refine fT ?_ | refine awBlock ?_ | refine awExit ?_ | refine awRet ?_ | refine awSkip ?_) | ((with_reducible refine awReg fun K hok hK => ?_); clear hok; (try simp (maxSteps := 10000000) (disch := first | omega | simp) [h1, h2]); (repeat' first | (with_reducible refine hK _ (by simp) ?_) | ((first | ((with_reducible refine callS' fun K2 hK2 => ?_); (try simp (maxSteps := 10000000) (disch := first | omega | simp) [h1, h2]); (refine hK2 _ _ hro rfl fun hk9 => ?_); clear hk9; clear hK2 K2) | ((with_reducible refine callF' fun K2 hK2 => ?_); (try simp (maxSteps := 10000000) (disch := first | omega | simp) [h1, h2]); (refine hK2 _ _ _ hro fun _ => ?_); clear hK2 K2)); (try simp (maxSteps := 10000000) (disch := first | omega | simp) [h1, h2]))) <;> clear hK K) | ((with_reducible refine awCond fun A B hA hB => ?_); simp (maxSteps := 10000000) (disch := first | omega | simp) [h1, h2]; (first | refine ⟨fun h => hA ?_, fun h => hB ?_⟩ | refine hA ?_ | refine hB ?_) <;> (clear hA hB A B; (try (exfalso; omega))))
  refine awFor ids.length (fun i (_ : Unit) => ((List.range ids.length).drop i).find? (ckBad order ids) = (List.range ids.length).find? (ckBad order ids))
    (fun i _ => [(23, .p (I i)), (22, .p (I ids.length)), (21, .p (Li ids)), (1, .p (Li ids)), (5, .p (.sl (order.map I)))]) ()
    ((Wk.frz0 (r := 5) rfl).trans (Wk.ofA (by simp))) rfl fun i _ hi hs => ?_
  by_cases hlt : i < ids.length
  · rw [drop_cons (show i < (List.range ids.length).length by simpa using hlt)] at hs
    simp only [List.getElem_range, List.find?_cons] at hs
    have hg : ids.getD i 0 = ids[i] := by rw [List.getD_eq_getElem?_getD, List.getElem?_eq_getElem hlt]; rfl
    have hck : ckBad order ids i = (!order.contains ids[i] || (ids.take i).contains ids[i]) := by unfold ckBad; rw [hg]
    rw [hck] at hs
    have hc1 := contains_ok order ids[i] (by omega)
    have hc2 : ACall pg 72 [.sl ((ids.map I).take i), I ids[i]] (B ((ids.take i).contains ids[i])) := by rw [← List.map_take]; exact contains_ok (ids.take i) ids[i] (by rw [List.length_take]; omega)
    have hne := new_ok (bs [114, 101, 112, 108, 105, 99, 97]) i 18
    cases ht1 : order.contains ids[i] with
    | false =>
      rw [ht1] at hs hc1
      simp only [Bool.not_false, Bool.true_or] at hs
      rw [← hs]
      clear hs
      first | simp only [Option.map_some] | simp only [Option.map_none]
      repeat' first | (with_reducible first | refine thN ?_ | refine thR ?_ | refine thE ?_ | refine inN ?_ | refine inR ?_ | refine inH ?_ | refine fS ?_ | refine fR ?_ | refine fQ ?_ | refine fE ?_ | refine fT ?_ | refine awBlock ?_ | refine awExit ?_ | refine awRet ?_ | refine awSkip ?_) | ((with_reducible refine awReg fun K hok hK => ?_); clear hok; (try simp (maxSteps := 10000000) (disch := first | omega | simp) [hlt]); (repeat' first | (with_reducible refine hK _ (by simp) ?_) | ((first | ((with_reducible refine callS' fun K2 hK2 => ?_); (try simp (maxSteps := 10000000) (disch := first | omega | simp) [hlt]); (first | refine hK2 _ _ hc1 rfl fun hk9 => ?_ | refine hK2 _ _ hne rfl fun hk9 => ?_); clear hk9; clear hK2 K2) | ((with_reducible refine callF' fun K2 hK2 => ?_); (try simp (maxSteps := 10000000) (disch := first | omega | simp) [hlt]); (first | refine hK2 _ _ _ hc1 fun _ => ?_ | refine hK2 _ _ _ hne fun _ => ?_); clear hK2 K2)); (try simp (maxSteps := 10000000) (disch := first | omega | simp) [hlt]))) <;> clear hK K) | ((with_reducible refine awCond fun A B hA hB => ?_); simp (maxSteps := 10000000) (disch := first | omega | simp) [hlt]; (first | refine ⟨fun h => hA ?_, fun h => hB ?_⟩ | refine hA ?_ | refine hB ?_) <;> (clear hA hB A B; (try (exfalso; omega))))
      all_goals (refine aEnR (aRes [] fun K hK => ?_); simp (maxSteps := 10000000) (disch := first | omega | simp) []; refine hK _ ?_ (by simp); clear hK; first | done | (simp (maxSteps := 10000000) (disch := first | omega | simp) [*]; done) | (simp (maxSteps := 10000000) (disch := first | omega | simp) [*]; omega) | (simp_all []; done) | (simp_all []; omega))
    | true =>
      rw [ht1] at hs hc1
      cases ht2 : (ids.take i).contains ids[i] with
      | true =>
        rw [ht2] at hs hc2
        simp only [Bool.not_true, Bool.false_or] at hs
        rw [← hs]
        clear hs
        first | simp only [Option.map_some] | simp only [Option.map_none]
        repeat' first | (with_reducible first | refine thN ?_ | refine thR ?_ | refine thE ?_ | refine inN ?_ | refine inR ?_ | refine inH ?_ | refine fS ?_ | refine fR ?_ | refine fQ ?_ | refine fE ?_ | refine fT ?_ | refine awBlock ?_ | refine awExit ?_ | refine awRet ?_ | refine awSkip ?_) | ((with_reducible refine awReg fun K hok hK => ?_); clear hok; (try simp (maxSteps := 10000000) (disch := first | omega | simp) [hlt]); (repeat' first | (with_reducible refine hK _ (by simp) ?_) | ((first | ((with_reducible refine callS' fun K2 hK2 => ?_); (try simp (maxSteps := 10000000) (disch := first | omega | simp) [hlt]); (first | refine hK2 _ _ hc1 rfl fun hk9 => ?_ | refine hK2 _ _ hc2 rfl fun hk9 => ?_ | refine hK2 _ _ hne rfl fun hk9 => ?_); clear hk9; clear hK2 K2) | ((with_reducible refine callF' fun K2 hK2 => ?_); (try simp (maxSteps := 10000000) (disch := first | omega | simp) [hlt]); (first | refine hK2 _ _ _ hc1 fun _ => ?_ | refine hK2 _ _ _ hc2 fun _ => ?_ | refine hK2 _ _ _ hne fun _ => ?_); clear hK2 K2)); (try simp (maxSteps := 10000000) (disch := first | omega | simp) [hlt]))) <;> clear hK K) | ((with_reducible refine awCond fun A B hA hB => ?_); simp (maxSteps := 10000000) (disch := first | omega | simp) [hlt]; (first | refine ⟨fun h => hA ?_, fun h => hB ?_⟩ | refine hA ?_ | refine hB ?_) <;> (clear hA hB A B; (try (exfalso; omega))))
        all_goals (refine aEnR (aRes [] fun K hK => ?_); simp (maxSteps := 10000000) (disch := first | omega | simp) []; refine hK _ ?_ (by simp); clear hK; first | done | (simp (maxSteps := 10000000) (disch := first | omega | simp) [*]; done) | (simp (maxSteps := 10000000) (disch := first | omega | simp) [*]; omega) | (simp_all []; done) | (simp_all []; omega))
      | false =>
        rw [ht2] at hs hc2
        simp only [Bool.not_true, Bool.false_or] at hs
        repeat' first | (with_reducible first | refine thN ?_ | refine thR ?_ | refine thE ?_ | refine inN ?_ | refine inR ?_ | refine inH ?_ | refine fS ?_ | refine fR ?_ | refine fQ ?_ | refine fE ?_ | refine fT ?_ | refine awBlock ?_ | refine awExit ?_ | refine awRet ?_ | refine awSkip ?_) | ((with_reducible refine awReg fun K hok hK => ?_); clear hok; (try simp (maxSteps := 10000000) (disch := first | omega | simp) [hlt]); (repeat' first | (with_reducible refine hK _ (by simp) ?_) | ((first | ((with_reducible refine callS' fun K2 hK2 => ?_); (try simp (maxSteps := 10000000) (disch := first | omega | simp) [hlt]); (first | refine hK2 _ _ hc1 rfl fun hk9 => ?_ | refine hK2 _ _ hc2 rfl fun hk9 => ?_); clear hk9; clear hK2 K2) | ((with_reducible refine callF' fun K2 hK2 => ?_); (try simp (maxSteps := 10000000) (disch := first | omega | simp) [hlt]); (first | refine hK2 _ _ _ hc1 fun _ => ?_ | refine hK2 _ _ _ hc2 fun _ => ?_); clear hK2 K2)); (try simp (maxSteps := 10000000) (disch := first | omega | simp) [hlt]))) <;> clear hK K) | ((with_reducible refine awCond fun A B hA hB => ?_); simp (maxSteps := 10000000) (disch := first | omega | simp) [hlt]; (first | refine ⟨fun h => hA ?_, fun h => hB ?_⟩ | refine hA ?_ | refine hB ?_) <;> (clear hA hB A B; (try (exfalso; omega))))
        (refine ⟨?_, (), ?_, Wk.ofA ?_⟩; assumption; rotate_left; focus (simp []; done))
        exact hs
  · rw [drop_nil (by simp; omega)] at hs
    simp only [List.find?_nil] at hs
    rw [← hs]
    clear hs
    first | simp only [Option.map_some] | simp only [Option.map_none]
    repeat' first | (with_reducible first | refine thN ?_ | refine thR ?_ | refine thE ?_ | refine inN ?_ | refine inR ?_ | refine inH ?_ | refine fS ?_ | refine fR ?_ | refine fQ ?_ | refine fE ?_ | refine fT ?_ | refine awBlock ?_ | refine awExit ?_ | refine awRet ?_ | refine awSkip ?_) | ((with_reducible refine awReg fun K hok hK => ?_); clear hok; (try simp (maxSteps := 10000000) (disch := first | omega | simp) []); (repeat' first | (with_reducible refine hK _ (by simp) ?_)) <;> clear hK K) | ((with_reducible refine awCond fun A B hA hB => ?_); simp (maxSteps := 10000000) (disch := first | omega | simp) []; (first | refine ⟨fun h => hA ?_, fun h => hB ?_⟩ | refine hA ?_ | refine hB ?_) <;> (clear hA hB A B; (try (exfalso; omega))))
    all_goals (refine aEnR (aRes [] fun K hK => ?_); simp (maxSteps := 10000000) (disch := first | omega | simp) []; refine hK _ ?_ (by simp); clear hK; first | done | (simp (maxSteps := 10000000) (disch := first | omega | simp) [*]; done) | (simp (maxSteps := 10000000) (disch := first | omega | simp) [*]; omega) | (simp_all []; done) | (simp_all []; omega))
end
end Go.Am
end
