/- Part of the proof of a law of the image. -/
import Derived.Test.YtfgfjgbggkdobaaGreatQAA
import Derived.Test.YtfgfjgbggkdobaaGreatQE0
import Derived.Test.YtfgfjgbggkdobaaGreatQEB
import Derived.Test.YtfgfjgbggkdobaaGreatQED
import Derived.Test.YtfgfjgbggkdobaaGreatQPK
import Derived.Test.YtfgfjgbggkdobaaGreatQPU
import Derived.Test.YtfgfjgbggkdobaaGreatQW0
import Derived.Test.YtfgfjgbggkdobaaGreatChecked
import Derived.WalkKit
import Derived.Laws.IdiomStrings
set_option linter.all false
section
set_option maxRecDepth 100000
set_option maxHeartbeats 0
namespace Go.Am
open Go
noncomputable section
def c30 : SC := (.seq (.reg [oZ 2 false] [0]) (.seq (.reg [oM 5 0,oN 6 5 35,oK 7 .gtr 3 6 7 3] [0,7]) (.seq (.cond (.tmp 7) (.seq (.reg [oZ 2 false] [2]) .ret) .skip) (.seq (.reg [oI 3 0] [0,3,13]) (.seq (.block 0 (.seq (.loop (.seq (.reg [oM 8 3,oM 9 0,oN 10 9 35,oB 11 .lss 3 8 10 3] [0,3,11,13]) (.seq (.cond (.tmp 11) .skip (.exit 0)) (.seq (.block 1 (.seq (.reg [oM 14 0,oM 15 3,oJ 16 35 14 15,oL 17 3 16,oK 18 .lss 3 17 1 3,oM 19 18,oW 19 false (oM 20 0),oW 19 false (oM 21 3),oW 19 false (oJ 22 35 20 21),oW 19 false (oL 23 3 22),oW 19 false (oK 24 .gtr 3 23 64 3),oR 25 19 true 24] [0,3,13,18,19,24,25]) (.seq (.cond (.tmp 25) (.seq (.reg [oZ 2 false] [2]) .ret) .skip) (.seq (.reg [oI 4 0] [0,3,4,13,30]) (.seq (.block 2 (.seq (.loop (.seq (.reg [oM 26 4,oM 27 3,oB 28 .lss 3 26 27 3] [0,3,4,13,28,30]) (.seq (.cond (.tmp 28) .skip (.exit 2)) (.seq (.block 3 (.seq (.reg [oU (oM 31 0) [32,35,36,37,38],oU (oM 32 4) [31,35,36,37,38],oU (oJ 33 35 31 32) [35,36,37,38],oU (oL 34 3 33) [35,36,37,38],oU (oM 35 0) [31,32,33,34,36],oU (oM 36 3) [31,32,33,34,35],oU (oJ 37 35 35 36) [31,32,33,34],oU (oL 38 3 37) [31,32,33,34],oB 39 .eql 3 34 38 3] [0,3,4,13,30,39]) (.seq (.cond (.tmp 39) (.seq (.reg [oZ 2 false] [2]) .ret) .skip) .skip))) (.seq (.reg [oM 29 4,oK 30 .add 3 29 1 3,oG 4 30] [0,3,4,13,30]) .skip))))) .skip)) .skip))))) (.seq (.reg [oM 12 3,oK 13 .add 3 12 1 3,oG 3 13] [0,3,13]) .skip))))) .skip)) (.seq (.reg [oZ 2 true] [2]) .ret))))))
theorem s30 : TextK Proofs.Tryz.prog 0 30 40 [ResultVar.tmp 2] c30 := .mk' Proofs.Tryz.f30 _ (by kernel_rfl) rfl rfl rfl (by kernel_rfl) rfl (by kernel_rfl)
@[simp] theorem ba_size (l : List UInt8) : (⟨⟨l⟩⟩ : ByteArray).size = l.length := rfl
theorem ref05_Brokers_ok (l : List Int) : ACall pg 30 [Li l] (B (brokersB l)) := by
  refine s30.call mo (by simp) fun hxs => ?_
  have hlen := okLenI hxs.1
  clear hxs
  unfold c30; dsimp only [oB, oG, oI, oJ, oK, oL, oM, oN, oR, oU, oW, oZ]
  repeat' first | (with_reducible first | refine thN ?_ | refine thR ?_ | refine thE ?_ | refine inN ?_ | refine inR ?_ | refine inH ?_ | refine fS ?_ | refine fR ?_ | refine fQ ?_ | refine fE ?_ | refine fT ?_ | refine awBlock ?_ | refine awExit ?_ | refine awRet ?_ | refine awSkip ?_) | ((with_reducible refine awReg fun K hok hK => ?_); clear hok; (try simp (maxSteps := 10000000) (disch := first | omega | simp) []); (repeat' first | (with_reducible refine hK _ (by simp) ?_) | ((with_reducible refine gdF (fun h => ?_) (fun h => ?_)) <;> (simp (maxSteps := 10000000) (disch := first | omega | simp) [h]; (try simp at h); (try (exfalso; omega)))) | ((with_reducible refine sideQ' ?_ ?_ fun K2 hK2 => ?_); exact rfl; exact rfl; (try simp (maxSteps := 10000000) (disch := first | omega | simp) []); with_reducible refine hK2 _ _ ?_; clear hK2 K2; (try simp (maxSteps := 10000000) (disch := first | omega | simp) []))) <;> clear hK K) | ((with_reducible refine awCond fun A B hA hB => ?_); simp (maxSteps := 10000000) (disch := first | omega | simp) []; (first | refine ⟨fun h => hA ?_, fun h => hB ?_⟩ | refine hA ?_ | refine hB ?_) <;> (clear hA hB A B; (try (exfalso; omega))))
  · (refine aEnR (aRes [] fun K hK => ?_); simp (maxSteps := 10000000) (disch := first | omega | simp) [brokersB]; refine hK _ ?_ (by simp); clear hK; first | done | (simp (maxSteps := 10000000) (disch := first | omega | simp) [brokersB, *]; done) | (simp (maxSteps := 10000000) (disch := first | omega | simp) [brokersB, *]; omega) | (simp_all [brokersB]; done) | (simp_all [brokersB]; omega))
  refine awFor l.length (fun i (_ : Unit) => (∀ n ∈ l.take i, 1 ≤ n ∧ n ≤ 64) ∧ (l.take i).Nodup) (fun i _ => [(3, .p (I i)), (0, .p (Li l))]) () (Wk.ofA ?_) (by simp) fun i _ hi hni => ?_
  · simp
  repeat' first | (with_reducible first | refine thN ?_ | refine thR ?_ | refine thE ?_ | refine inN ?_ | refine inR ?_ | refine inH ?_ | refine fS ?_ | refine fR ?_ | refine fQ ?_ | refine fE ?_ | refine fT ?_ | refine awBlock ?_ | refine awExit ?_ | refine awRet ?_ | refine awSkip ?_) | ((with_reducible refine awReg fun K hok hK => ?_); clear hok; (try simp (maxSteps := 10000000) (disch := first | omega | simp) []); (repeat' first | (with_reducible refine hK _ (by simp) ?_) | ((with_reducible refine gdF (fun h => ?_) (fun h => ?_)) <;> (simp (maxSteps := 10000000) (disch := first | omega | simp) [h]; (try simp at h); (try (exfalso; omega)))) | ((with_reducible refine sideQ' ?_ ?_ fun K2 hK2 => ?_); exact rfl; exact rfl; (try simp (maxSteps := 10000000) (disch := first | omega | simp) []); with_reducible refine hK2 _ _ ?_; clear hK2 K2; (try simp (maxSteps := 10000000) (disch := first | omega | simp) []))) <;> clear hK K) | ((with_reducible refine awCond fun A B hA hB => ?_); simp (maxSteps := 10000000) (disch := first | omega | simp) []; (first | refine ⟨fun h => hA ?_, fun h => hB ?_⟩ | refine hA ?_ | refine hB ?_) <;> (clear hA hB A B; (try (exfalso; omega))))
  rotate_left 1
  · have hi2 : i < l.length := by assumption
    have hm := List.getElem_mem hi2
    refine awFor i (fun k (_ : Unit) => ∀ x ∈ (l.take i).take k, (x == l[i]) = false) (fun k _ => [(4, .p (I k)), (3, .p (I i)), (0, .p (Li l))]) () (Wk.ofA ?_) (by simp) fun k _ hk hnk => ?_
    · simp
    repeat' first | (with_reducible first | refine thN ?_ | refine thR ?_ | refine thE ?_ | refine inN ?_ | refine inR ?_ | refine inH ?_ | refine fS ?_ | refine fR ?_ | refine fQ ?_ | refine fE ?_ | refine fT ?_ | refine awBlock ?_ | refine awExit ?_ | refine awRet ?_ | refine awSkip ?_) | ((with_reducible refine awReg fun K hok hK => ?_); clear hok; (try simp (maxSteps := 10000000) (disch := first | omega | simp) []); (repeat' first | (with_reducible refine hK _ (by simp) ?_) | ((with_reducible refine gdF (fun h => ?_) (fun h => ?_)) <;> (simp (maxSteps := 10000000) (disch := first | omega | simp) [h]; (try simp at h); (try (exfalso; omega)))) | ((with_reducible refine sideQ' ?_ ?_ fun K2 hK2 => ?_); exact rfl; exact rfl; (try simp (maxSteps := 10000000) (disch := first | omega | simp) []); with_reducible refine hK2 _ _ ?_; clear hK2 K2; (try simp (maxSteps := 10000000) (disch := first | omega | simp) []))) <;> clear hK K) | ((with_reducible refine awCond fun A B hA hB => ?_); simp (maxSteps := 10000000) (disch := first | omega | simp) []; (first | refine ⟨fun h => hA ?_, fun h => hB ?_⟩ | refine hA ?_ | refine hB ?_) <;> (clear hA hB A B; (try (exfalso; omega))))
    · have e : brokersB l = false := by
        simp only [brokersB, decide_eq_false_iff_not]
        rintro ⟨_, _, hn⟩
        exact (List.pairwise_iff_getElem.1 hn) k i (by omega) hi2 (by assumption) (by assumption)
      (refine aEnR (aRes [] fun K hK => ?_); simp (maxSteps := 10000000) (disch := first | omega | simp) [e]; refine hK _ ?_ (by simp); clear hK; first | done | (simp (maxSteps := 10000000) (disch := first | omega | simp) [e, *]; done) | (simp (maxSteps := 10000000) (disch := first | omega | simp) [e, *]; omega) | (simp_all [e]; done) | (simp_all [e]; omega))
    · refine ⟨by assumption, (), all_take (by simp; omega) hnk (by simpa using h), Wk.ofA (by simp)⟩
    · have e : (l.take i).take k = l.take i := by rw [List.take_of_length_le]; simp; omega
      rw [e] at hnk
      refine ⟨by assumption, (), ⟨take_all hi2 hni.1 ⟨by assumption, by assumption⟩, ?_⟩, Wk.ofA (by simp)⟩
      rw [List.take_add_one, List.getElem?_eq_getElem hi2, List.nodup_append]
      refine ⟨hni.2, by simp, ?_⟩
      intro x hx y hy
      simp at hy; subst hy
      simpa using hnk x hx
  rotate_left 1
  · have e : brokersB l = true := by
      simp only [brokersB, decide_eq_true_eq]
      rw [List.take_of_length_le (by assumption)] at hni
      exact ⟨by omega, hni.1, hni.2⟩
    (refine aEnR (aRes [] fun K hK => ?_); simp (maxSteps := 10000000) (disch := first | omega | simp) [e]; refine hK _ ?_ (by simp); clear hK; first | done | (simp (maxSteps := 10000000) (disch := first | omega | simp) [e, *]; done) | (simp (maxSteps := 10000000) (disch := first | omega | simp) [e, *]; omega) | (simp_all [e]; done) | (simp_all [e]; omega))
  all_goals
    have hm := List.getElem_mem (show i < l.length by assumption)
    have e : brokersB l = false := by
      simp only [brokersB, decide_eq_false_iff_not]
      rintro ⟨_, h2, _⟩
      have := h2 _ hm
      omega
    (refine aEnR (aRes [] fun K hK => ?_); simp (maxSteps := 10000000) (disch := first | omega | simp) [e]; refine hK _ ?_ (by simp); clear hK; first | done | (simp (maxSteps := 10000000) (disch := first | omega | simp) [e, *]; done) | (simp (maxSteps := 10000000) (disch := first | omega | simp) [e, *]; omega) | (simp_all [e]; done) | (simp_all [e]; omega))
def encW (w : Wrong) : V := .agg [St w.op, I w.at', I w.code]
@[simp] theorem encW_eq (w : Wrong) : encW w = .agg [St w.op, I w.at', I w.code] := rfl
end
end Go.Am
end
section
set_option maxRecDepth 100000
set_option maxHeartbeats 0
namespace Go.Am
open Go
noncomputable section
def c41 : SC := (.seq (.reg [oI 2 0] [0]) (.seq (.reg [oM 3 0] [0,3]) (.seq (.block 0 (.seq (.reg [oK 5 .eql 3 3 2 3,oG 4 5] [0,3,4,5]) (.seq (.cond (.tmp 4) (.seq (.reg [oI 2 1027] [2]) .ret) (.seq (.reg [oK 7 .eql 3 3 3 3,oG 6 7] [0,3,6,7,8,9,10]) (.seq (.cond (.tmp 6) .skip (.seq (.reg [oK 8 .eql 3 3 4 3,oG 6 8] [0,3,6,7,8,9,10]) (.seq (.cond (.tmp 6) .skip (.seq (.reg [oK 9 .eql 3 3 5 3,oG 6 9] [0,3,6,7,8,9,10]) (.seq (.cond (.tmp 6) .skip (.seq (.reg [oK 10 .eql 3 3 6 3,oG 6 10] [0,3,6,7,8,9,10]) .skip)) .skip))) .skip))) (.seq (.cond (.tmp 6) (.seq (.reg [oI 2 3] [2]) .ret) (.seq (.reg [oK 12 .eql 3 3 7 3,oG 11 12] [0,3,11,12]) (.seq (.cond (.tmp 11) (.seq (.reg [oI 2 132] [2]) .ret) (.seq (.reg [oK 14 .eql 3 3 8 3,oG 13 14] [0,3,13,14]) (.seq (.cond (.tmp 13) (.seq (.reg [oI 2 6172] [2]) .ret) (.seq (.reg [oK 16 .eql 3 3 9 3,oG 15 16] [0,3,15,16]) (.seq (.cond (.tmp 15) (.seq (.reg [oI 2 14366] [2]) .ret) (.seq (.reg [oK 18 .eql 3 3 10 3,oG 17 18] [0,3,17,18]) (.seq (.cond (.tmp 17) (.seq (.reg [oI 2 836] [2]) .ret) (.seq (.reg [oK 20 .eql 3 3 11 3,oG 19 20] [0,3,19,20]) (.seq (.cond (.tmp 19) (.seq (.reg [oI 2 4] [2]) .ret) (.seq (.reg [oK 22 .eql 3 3 12 3,oG 21 22] [21,22]) (.seq (.cond (.tmp 21) (.seq (.reg [oI 2 32] [2]) .ret) .skip) .skip))) .skip))) .skip))) .skip))) .skip))) .skip))) .skip)))) .skip))) (.seq (.reg [oI 2 0] [2]) .ret))))
theorem s41 : TextK Proofs.Tryz.prog 0 41 23 [ResultVar.tmp 2] c41 := .mk' Proofs.Tryz.f41 _ (by kernel_rfl) rfl rfl rfl (by kernel_rfl) rfl (by kernel_rfl)
def c40 : SC := (.seq (.reg [oZ 3 false] [0,1]) (.seq (.reg [oF 4 37 1 0,oL 5 3 4,oC 6 41 #[.tmp 5] #[3],oM 7 0,oB 8 .and 3 6 7 3,oK 9 .neq 3 8 0 3,oG 3 9] [3,9]) .ret))
theorem s40 : TextK Proofs.Tryz.prog 0 40 10 [ResultVar.tmp 3] c40 := .mk' Proofs.Tryz.f40 _ (by kernel_rfl) rfl rfl rfl (by kernel_rfl) rfl (by kernel_rfl)
def c42 : SC := (.seq (.reg [oZ 2 false] [0]) (.seq (.reg [oM 3 0,oN 4 3 9,oK 5 .leq 3 4 256 3,oG 2 5] [2,5]) .ret))
theorem s42 : TextK Proofs.Tryz.prog 0 42 6 [ResultVar.tmp 2] c42 := .mk' Proofs.Tryz.f42 _ (by kernel_rfl) rfl rfl rfl (by kernel_rfl) rfl (by kernel_rfl)
def c43 : SC := (.seq (.reg [oZ 8 false] [0,1,2,3,12,15,16,19,20]) (.seq (.reg [oM 9 1,oD 10 (.unOp .not 4 (.tmp 9))] [0,2,3,10,12,15,16,19,20]) (.seq (.cond (.tmp 10) (.seq (.reg [oM 11 0,oK 12 .eql 3 11 0 3,oG 8 12] [8,12,15,16,19,20]) .ret) .skip) (.seq (.reg [oM 13 0,oM 14 2,oB 15 .geq 3 13 14 3,oM 16 15,oW 16 true (oM 17 0),oW 16 true (oM 18 3),oW 16 true (oB 19 .leq 3 17 18 3),oQ 20 16 19 false,oG 8 20] [8,12,15,16,19,20]) .ret))))
theorem s43 : TextK Proofs.Tryz.prog 0 43 21 [ResultVar.tmp 8] c43 := .mk' Proofs.Tryz.f43 _ (by kernel_rfl) rfl rfl rfl (by kernel_rfl) rfl (by kernel_rfl)
def c44 : SC := (.seq (.reg [oZ 6 false] [0,1,2,10,13]) (.seq (.reg [oM 7 1,oD 8 (.unOp .not 4 (.tmp 7))] [0,2,8,10,13]) (.seq (.cond (.tmp 8) (.seq (.reg [oM 9 0,oD 10 (.binOp .eql 9 (.tmp 9) (.const (.string ⟨#[]⟩)) 9),oG 6 10] [6,10,13]) .ret) .skip) (.seq (.reg [oM 11 2,oM 12 0,oD 13 (.call { callee := .value (.tmp 11),args := #[.tmp 12],argTypes := #[9] }),oG 6 13] [6,10,13]) .ret))))
theorem s44 : TextK Proofs.Tryz.prog 0 44 14 [ResultVar.tmp 6] c44 := .mk' Proofs.Tryz.f44 _ (by kernel_rfl) rfl rfl rfl (by kernel_rfl) rfl (by kernel_rfl)
def c46 : SC := (.seq (.reg [oZ 4 false] [0,1,9,11]) (.seq (.reg [oM 5 1,oD 6 (.unOp .not 4 (.tmp 5))] [0,6,9,11]) (.seq (.cond (.tmp 6) (.seq (.reg [oM 7 0,oN 8 7 35,oK 9 .eql 3 8 0 3,oG 4 9] [4,9,11]) .ret) .skip) (.seq (.reg [oM 10 0,oC 11 80 #[.tmp 10] #[35],oG 4 11] [4,9,11]) .ret))))
theorem s46 : TextK Proofs.Tryz.prog 0 46 12 [ResultVar.tmp 4] c46 := .mk' Proofs.Tryz.f46 _ (by kernel_rfl) rfl rfl rfl (by kernel_rfl) rfl (by kernel_rfl)
def c80 : SC := (.seq (.reg [oZ 2 false] [0]) (.seq (.reg [oM 5 0,oN 6 5 35,oK 7 .gtr 3 6 7 3] [0,7]) (.seq (.cond (.tmp 7) (.seq (.reg [oZ 2 false] [2]) .ret) .skip) (.seq (.reg [oM 8 0,oN 9 8 35,oD 10 (.move (.const (.int .i64 0)))] [0,8,9,10,28]) (.seq (.block 0 (.seq (.loop (.seq (.reg [oB 11 .lss 3 10 9 3] [0,8,9,10,11,28]) (.seq (.cond (.tmp 11) .skip (.exit 0)) (.seq (.block 1 (.seq (.reg [oM 12 10,oJ 13 35 8 10,oL 14 3 13,oG 3 12,oG 4 14] [0,3,4,8,9,10,12,13,14,28]) (.seq (.reg [oM 15 4,oK 16 .lss 3 15 1 3,oM 17 16,oW 17 false (oM 18 4),oW 17 false (oK 19 .gtr 3 18 64 3),oR 20 17 true 19,oM 21 20,oW 21 false (oM 22 0),oW 21 false (oM 23 3),oW 21 false (oD 24 (.slice 35 (.tmp 22) none (some (.tmp 23)) none)),oW 21 false (oM 25 4),oW 21 false (oC 26 56 #[.tmp 24,.tmp 25] #[35,3]),oR 27 21 true 26] [0,8,9,10,16,17,19,20,21,26,27,28]) (.seq (.cond (.tmp 27) (.seq (.reg [oZ 2 false] [2]) .ret) .skip) .skip)))) (.seq (.reg [oK 28 .add 3 10 1 3,oM 10 28] [0,8,9,10,28]) .skip))))) .skip)) (.seq (.reg [oZ 2 true] [2]) .ret))))))
theorem s80 : TextK Proofs.Tryz.prog 0 80 29 [ResultVar.tmp 2] c80 := .mk' Proofs.Tryz.f80 _ (by kernel_rfl) rfl rfl rfl (by kernel_rfl) rfl (by kernel_rfl)
def aboutN (k : Int) : Int :=
  if k = 2 then 1027
  else if k = 3 ∨ k = 4 ∨ k = 5 ∨ k = 6 then 3
  else if k = 7 then 132
  else if k = 8 then 6172
  else if k = 9 then 14366
  else if k = 10 then 836
  else if k = 11 then 4
  else if k = 12 then 32
  else 0
theorem about_ok (k : Int) : ACall pg 41 [I k] (I (aboutN k)) := by
  refine s41.call mo (by simp) fun hxs => ?_
  clear hxs
  unfold c41; dsimp only [oG, oI, oK, oM]
  repeat' first | (with_reducible first | refine thN ?_ | refine thR ?_ | refine inN ?_ | refine inR ?_ | refine fF ?_ | refine fS ?_ | refine fR ?_ | refine fQ ?_ | refine fC ?_ | refine fT ?_ | refine awBlock ?_ | refine awRet ?_ | refine awSkip ?_) | ((with_reducible refine awReg fun K hok hK => ?_); clear hok; (try simp (maxSteps := 10000000) (disch := first | omega | simp) []); (repeat' first | (with_reducible refine hK _ (by simp) ?_)) <;> clear hK K) | ((with_reducible refine awCond fun A B hA hB => ?_); simp (maxSteps := 10000000) (disch := first | omega | simp) [*]; (first | refine ⟨fun h => hA ?_, fun h => hB ?_⟩ | refine hA ?_ | refine hB ?_) <;> (clear hA hB A B; (try (exfalso; omega))))
  all_goals (refine aEnR (aRes [] fun K hK => ?_); simp (maxSteps := 10000000) (disch := first | omega | simp) []; refine hK _ ?_ (by simp); clear hK; (try simp only [aboutN]); ((repeat' split) <;> first | with_reducible rfl | contradiction | (exfalso; omega) | (simp []; done) | grind))
def hasW (k what : Int) : Bool := IntKind.i64.wrap (BitVec.ofInt 64 (aboutN k) &&& BitVec.ofInt 64 what).toNat != 0
theorem has_ok' (r : Record) (what : Int) : ACall pg 40 ([I what] ++ [.ip (encR r).cells 0]) (B (hasW r.kind what)) := by
  refine s40.call mo (by simp) fun hxs => ?_
  clear hxs
  unfold c40; dsimp only [oB, oC, oF, oG, oK, oL, oM, oZ]
  have ha := about_ok r.kind
  refine wk ?_
  (refine aEnR (aRes [] fun K hK => ?_); simp (maxSteps := 10000000) (disch := first | omega | simp) []; exact hK _ rfl (by simp))
theorem short_ok (s : ByteArray) : ACall pg 42 [St s] (B (decide ((s.size : Int) ≤ 256))) := by
  refine s42.call mo (by simp) fun hxs => ?_
  clear hxs
  unfold c42; dsimp only [oG, oK, oM, oN, oZ]
  refine wk ?_
  exact fn0
theorem number_ok (n : Int) (a : Bool) (lo hi : Int) : ACall pg 43 [I n, B a, I lo, I hi] (B (numB n a lo hi)) := by
  refine s43.call mo (by simp) fun hxs => ?_
  clear hxs
  unfold c43; dsimp only [oB, oD, oG, oK, oM, oQ, oW, oZ]
  repeat' first | (with_reducible first | refine fS ?_ | refine fR ?_ | refine fQ ?_ | refine fT ?_ | refine awRet ?_) | ((with_reducible refine awReg fun K hok hK => ?_); clear hok; (try simp (maxSteps := 10000000) (disch := first | omega | simp) []); (repeat' first | (with_reducible refine hK _ (by simp) ?_) | ((with_reducible refine gdT (fun h => ?_) (fun h => ?_)) <;> (simp (maxSteps := 10000000) (disch := first | omega | simp) [h]; (try simp at h); (try (exfalso; omega))))) <;> clear hK K) | ((with_reducible refine awCond fun A B hA hB => ?_); simp (maxSteps := 10000000) (disch := first | omega | simp) []; (first | refine ⟨fun h => hA ?_, fun h => hB ?_⟩ | refine hA ?_ | refine hB ?_) <;> (clear hA hB A B; (try (exfalso; omega))))
  all_goals (refine aEnR (aRes [] fun K hK => ?_); simp (maxSteps := 10000000) (disch := first | omega | simp) [numB]; refine hK _ ?_ (by simp); clear hK; first | done | (simp (maxSteps := 10000000) (disch := first | omega | simp) [numB, *]; done) | (simp (maxSteps := 10000000) (disch := first | omega | simp) [numB, *]; omega) | (simp_all [numB]; done) | (simp_all [numB]; omega))
theorem text_ok (s : ByteArray) (a : Bool) (f : FuncId) (may : ByteArray → Bool) (hf : ACall pg f [St s] (B (may s))) : ACall pg 44 [St s, B a, .clo f []] (B (if a then may s else s.toList == [])) := by
  refine s44.call mo (by simp) fun hxs => ?_
  clear hxs
  unfold c44; dsimp only [oD, oG, oM, oZ]
  have hf' : ACall pg f ([St s] ++ []) (B (may s)) := hf
  cases a
  · refine wk ?_
    exact fn0
  · refine wk ?_
    exact fn0
theorem rBrokers_ok (l : List Int) : ACall pg 80 [Li l] (B (brokersB l)) := by
  refine s80.call mo (by simp) fun hxs => ?_
  clear hxs
  unfold c80; dsimp only [oB, oC, oD, oG, oJ, oK, oL, oM, oN, oR, oW, oZ]
  by_cases h7 : 7 < l.length
  · have e : brokersB l = false := by simp only [brokersB, decide_eq_false_iff_not]; omega
    have h7' : 7 < (l.length : Int) := by omega
    have F := h7'
    refine wkF ?_
    (refine aEnR (aRes [] fun K hK => ?_); simp (maxSteps := 10000000) (disch := first | omega | simp) [e]; refine hK _ ?_ (by simp); clear hK; first | done | (simp (maxSteps := 10000000) (disch := first | omega | simp) [e, *]; done) | (simp (maxSteps := 10000000) (disch := first | omega | simp) [e, *]; omega) | (simp_all [e]; done) | (simp_all [e]; omega))
  · have h7' : ¬ 7 < (l.length : Int) := by omega
    have F := h7'
    refine wkF ?_
    refine awFor l.length (fun i (_ : Unit) => (∀ n ∈ l.take i, 1 ≤ n ∧ n ≤ 64) ∧ (l.take i).Nodup) (fun i _ => [(10, .p (I i)), (9, .p (I l.length)), (8, .p (Li l)), (0, .p (Li l))]) () (Wk.ofA (by simp)) (by simp) fun i _ hi hni => ?_
    by_cases hlt : i < l.length
    · have hm := List.getElem_mem hlt
      by_cases h1 : l[i] < 1
      · have e : brokersB l = false := by
          simp only [brokersB, decide_eq_false_iff_not]; rintro ⟨_, h2, _⟩; have := h2 _ hm; omega
        have F := And.intro hlt h1
        refine wkF ?_
        (refine aEnR (aRes [] fun K hK => ?_); simp (maxSteps := 10000000) (disch := first | omega | simp) [e]; refine hK _ ?_ (by simp); clear hK; first | done | (simp (maxSteps := 10000000) (disch := first | omega | simp) [e, *]; done) | (simp (maxSteps := 10000000) (disch := first | omega | simp) [e, *]; omega) | (simp_all [e]; done) | (simp_all [e]; omega))
      · by_cases h64 : 64 < l[i]
        · have e : brokersB l = false := by
            simp only [brokersB, decide_eq_false_iff_not]; rintro ⟨_, h2, _⟩; have := h2 _ hm; omega
          have F := And.intro hlt (And.intro h1 h64)
          refine wkF ?_
          (refine aEnR (aRes [] fun K hK => ?_); simp (maxSteps := 10000000) (disch := first | omega | simp) [e]; refine hK _ ?_ (by simp); clear hK; first | done | (simp (maxSteps := 10000000) (disch := first | omega | simp) [e, *]; done) | (simp (maxSteps := 10000000) (disch := first | omega | simp) [e, *]; omega) | (simp_all [e]; done) | (simp_all [e]; omega))
        · have hcn := contains_ok (l.take i) l[i] (by simp; omega)
          have e2 : Li (l.take i) = .sl ((l.map I).take i) := by simp [List.map_take]
          rw [e2] at hcn
          cases hct : (l.take i).contains l[i] with
          | true =>
            rw [hct] at hcn
            have e : brokersB l = false := by
              simp only [brokersB, decide_eq_false_iff_not]
              rintro ⟨_, _, hn⟩
              rw [List.contains_iff_mem] at hct
              obtain ⟨k, hk, hke⟩ := List.getElem_of_mem hct
              rw [List.length_take] at hk
              rw [List.getElem_take] at hke
              exact (List.pairwise_iff_getElem.1 hn) k i (by omega) hlt (by omega) hke
            have F := And.intro hlt (And.intro h1 h64)
            refine wkF ?_
            (refine aEnR (aRes [] fun K hK => ?_); simp (maxSteps := 10000000) (disch := first | omega | simp) [e]; refine hK _ ?_ (by simp); clear hK; first | done | (simp (maxSteps := 10000000) (disch := first | omega | simp) [e, *]; done) | (simp (maxSteps := 10000000) (disch := first | omega | simp) [e, *]; omega) | (simp_all [e]; done) | (simp_all [e]; omega))
          | false =>
            rw [hct] at hcn
            have F := And.intro hlt (And.intro h1 h64)
            refine wkF ?_
            (refine ⟨?_, (), ?_, Wk.ofA ?_⟩; assumption; rotate_left; focus (simp []; done))
            refine ⟨take_all hlt hni.1 ⟨by omega, by omega⟩, ?_⟩
            rw [List.take_add_one, List.getElem?_eq_getElem hlt, List.nodup_append]
            refine ⟨hni.2, by simp, ?_⟩
            intro x hx y hy
            simp at hy; subst hy
            intro e
            subst e
            have : (l.take i).contains l[i] = true := by rw [List.contains_iff_mem]; exact hx
            rw [hct] at this; cases this
    · have e : brokersB l = true := by
        simp only [brokersB, decide_eq_true_eq]
        rw [List.take_of_length_le (by omega)] at hni
        exact ⟨by omega, hni.1, hni.2⟩
      have F := hlt
      refine wkF ?_
      (refine aEnR (aRes [] fun K hK => ?_); simp (maxSteps := 10000000) (disch := first | omega | simp) [e]; refine hK _ ?_ (by simp); clear hK; first | done | (simp (maxSteps := 10000000) (disch := first | omega | simp) [e, *]; done) | (simp (maxSteps := 10000000) (disch := first | omega | simp) [e, *]; omega) | (simp_all [e]; done) | (simp_all [e]; omega))
theorem row_ok (l : List Int) (a : Bool) : ACall pg 46 [Li l, B a] (B (rwB l a)) := by
  refine s46.call mo (by simp) fun hxs => ?_
  clear hxs
  unfold c46; dsimp only [oC, oD, oG, oK, oM, oN, oZ]
  have hb := rBrokers_ok l
  cases a
  · have e : rwB l false = ((l.length : Int) == 0) := by simp only [rwB, Bool.false_eq_true, if_false]; rw [Bool.eq_iff_iff]; simp
    rw [e]
    refine wk ?_
    exact fn0
  · refine wk ?_
    (refine aEnR (aRes [] fun K hK => ?_); simp (maxSteps := 10000000) (disch := first | omega | simp) [rwB]; refine hK _ ?_ (by simp); clear hK; first | done | (simp (maxSteps := 10000000) (disch := first | omega | simp) [rwB, *]; done) | (simp (maxSteps := 10000000) (disch := first | omega | simp) [rwB, *]; omega) | (simp_all [rwB]; done) | (simp_all [rwB]; omega))
end
end Go.Am
end
section
set_option maxRecDepth 100000
set_option maxHeartbeats 0
namespace Go.Am
open Go Go.Proofs Go.RowKit
noncomputable section
def Aside1 (p : Prop) : Prop := p
def jU (v : Value) : Nat := match v with | .int _ n => n.toNat | _ => 0
@[simp] theorem jU_int (k : IntKind) (n : Int) : jU (.int k n) = n.toNat := rfl
theorem name_run (l : List UInt8) (W : World) : Calls pg 45 #[.string ⟨⟨l⟩⟩] W fun r w' => r = .returned (.bool (nameB ⟨⟨l⟩⟩)) ∧ Far [] W w' := by
  have mixed := mo
  cases hb : (l.isEmpty || decide (40 < (l.length : Int)) || l == [46] || l == [46, 46]) with
  | true =>
    have e : nameB ⟨⟨l⟩⟩ = false := by
      simp only [nameB, ba_size]
      simp only [Bool.or_eq_true, decide_eq_true_eq, beq_iff_eq, List.isEmpty_iff] at hb
      simp
      rcases hb with ((rfl | h) | rfl) | rfl
      · simp
      · intro _ h2; omega
      · intro _ _ h3; exact absurd rfl h3
      · intro _ _ _ h4; exact absurd rfl h4
    rw [e]
    go_enter Tryz.func45, Tryz.ntmps45
    go_wp2
    all_goals (go_ret; exact ⟨rfl, Far.refl _ _⟩)
  | false =>
    have hcv := run_bytes_of_string (P := pg) W 9 124 5 ⟨⟨l⟩⟩ Tryz.underlying9 Tryz.underlying124 Tryz.underlying5
    obtain ⟨W1, hW1⟩ : ∃ W1, W1 = (W.drew.alloc (.cells (bytesRow ⟨⟨l⟩⟩ (grownCap W (⟨⟨l⟩⟩ : ByteArray).size 0 5)) 5 ((bytesRow ⟨⟨l⟩⟩ (grownCap W (⟨⟨l⟩⟩ : ByteArray).size 0 5)).size, (bytesRow ⟨⟨l⟩⟩ (grownCap W (⟨⟨l⟩⟩ : ByteArray).size 0 5)).size + 1))) := ⟨_, rfl⟩
    rw [← hW1] at hcv
    have hF : Far [] W W1 := by rw [hW1]; exact ⟨rfl, rfl, rfl, by simp, fun k hk _ => Below.heap_alloc W.drew _ k hk⟩
    have hat : ∀ i (h : i < l.length), W1.cell? ⟨W.heap.size, i, none⟩ = some (.int .u8 (l[i].toNat : Int)) := by
      intro i h
      have hb1 : W1.heap[W.heap.size]? = some (.cells (bytesRow ⟨⟨l⟩⟩ (grownCap W (⟨⟨l⟩⟩ : ByteArray).size 0 5)) 5 ((bytesRow ⟨⟨l⟩⟩ (grownCap W (⟨⟨l⟩⟩ : ByteArray).size 0 5)).size, (bytesRow ⟨⟨l⟩⟩ (grownCap W (⟨⟨l⟩⟩ : ByteArray).size 0 5)).size + 1)) := by rw [hW1]; exact heap_alloc_new W.drew _
      simp only [World.cell?, hb1]
      have := bytesRow_at ⟨⟨l⟩⟩ (grownCap W (⟨⟨l⟩⟩ : ByteArray).size 0 5) i (by simpa using h)
      simpa using this
    have hls : (⟨⟨l⟩⟩ : ByteArray).size = l.length := rfl
    rw [hls] at hcv
    generalize grownCap W l.length 0 5 = G at hcv
    clear hW1
    have hl40 : l.length ≤ 40 := by simp at hb; omega
    have hno : nameB ⟨⟨l⟩⟩ = l.all okCh := by
      simp only [nameB, ba_size]
      simp at hb
      have h1 : 1 ≤ l.length := by have := List.length_pos_iff.2 hb.1.1.1; omega
      have h2 : (⟨⟨l⟩⟩ : ByteArray).toList = l := by rw [toList_data]
      simp [h2, hb]; omega
    have hbb := hb
    simp only [Bool.or_eq_false_iff] at hbb
    obtain ⟨⟨⟨b1, b2⟩, b3⟩, b4⟩ := hbb
    have q1 : ¬ l = [] := by simpa using b1
    have q2 : ¬ 40 < (l.length : Int) := by omega
    have q3 : ¬ l = [46] := by simpa using b3
    have q4 : ¬ l = [46, 46] := by simpa using b4
    rw [hno]
    go_enter Tryz.func45, Tryz.ntmps45
    go_wp2
    go_loopw [25] (fun v wr => ∃ i : Nat, v = .int .i64 i ∧ i ≤ l.length ∧ Aside1 (wr = W1) ∧ ∀ b ∈ l.take i, okCh b = true) (fun v _ => l.length - jU v)
    case atStart => exact ⟨0, rfl, by omega, rfl, by simp⟩
    case round =>
      obtain ⟨i, rfl, hi, hwr, hok⟩ := hrel
      obtain rfl : wr = W1 := hwr
      by_cases hlt : i < l.length
      · have hc := hat i hlt
        have hw1 : IntKind.i64.wrap ((i : Int) + 1) = (i : Int) + 1 := by rw [IntKind.wrap_i64]; omega
        generalize hx : (l[i].toNat : Int) = x at hc
        have hyes : ((97 ≤ x ∧ x ≤ 122) ∨ (48 ≤ x ∧ x ≤ 57) ∨ x = 46 ∨ x = 45) → ∀ b ∈ l.take (i + 1), okCh b = true := fun h => take_all hlt hok (by
          simp only [okCh, hx, Bool.or_eq_true, Bool.and_eq_true, decide_eq_true_eq, beq_iff_eq]; omega)
        have hnot : ¬ ((97 ≤ x ∧ x ≤ 122) ∨ (48 ≤ x ∧ x ≤ 57) ∨ x = 46 ∨ x = 45) → l.all okCh = false := fun h => all_at hlt (by
          rw [Bool.eq_false_iff]; simp only [okCh, hx, ne_eq, Bool.or_eq_true, Bool.and_eq_true, decide_eq_true_eq, beq_iff_eq]; omega)
        clear hx hat
        by_cases k1 : 97 ≤ x <;> by_cases k2 : x ≤ 122 <;> by_cases k3 : 48 ≤ x <;> by_cases k4 : x ≤ 57 <;> by_cases k5 : x = 46 <;> by_cases k6 : x = 45 <;> (try (exfalso; omega))
        all_goals first
          | (have hy' : Aside1 (∀ b ∈ l.take (i + 1), okCh b = true) := hyes (by omega)
             clear hyes hnot
             go_wp2
             (try go_roundw)
             all_goals first
               | with_reducible rfl
               | exact ⟨i + 1, rfl, by omega, trivial, hy'⟩
               | exact ⟨⟨i + 1, rfl, by omega, trivial, hy'⟩, by simp; omega⟩
               | (simp; omega))
          | (have e := hnot (by omega)
             clear hyes hnot
             go_wp2
             all_goals first
               | (go_ret; exact ⟨by first | rfl | (rw [e]; rfl), hF⟩)
               | (exfalso; simp_all; done)
               | (exfalso; simp_all; omega))
      · have e : l.all okCh = true := all_no (by omega) hok
        go_wp2
        go_ret
        exact ⟨by rw [e]; rfl, hF⟩
theorem rName_ok (s : ByteArray) : ACall pg 45 [St s] (B (nameB s)) := by
  obtain ⟨⟨l⟩⟩ := s
  exact ACall.ofConst (vs := [.string ⟨⟨l⟩⟩]) (by kernel_rfl) (name_run l)
end
end Go.Am
end
section
set_option maxRecDepth 100000
set_option maxHeartbeats 0
namespace Go.Am
open Go
noncomputable section
def recE (r : Record) : Option Bad := if (checkW r).code ≠ 0 then some ((checkW r).op, (checkW r).at', (checkW r).code) else none
theorem hW_1 (k : Int) : hasW k 1 = hasB k 98 := by unfold hasW aboutN hasB abouts; (repeat' split) <;> first | (exfalso; omega) | decide +kernel
theorem hW_2 (k : Int) : hasW k 2 = hasB k 101 := by unfold hasW aboutN hasB abouts; (repeat' split) <;> first | (exfalso; omega) | decide +kernel
theorem hW_4 (k : Int) : hasW k 4 = hasB k 116 := by unfold hasW aboutN hasB abouts; (repeat' split) <;> first | (exfalso; omega) | decide +kernel
theorem hW_8 (k : Int) : hasW k 8 = hasB k 112 := by unfold hasW aboutN hasB abouts; (repeat' split) <;> first | (exfalso; omega) | decide +kernel
theorem hW_16 (k : Int) : hasW k 16 = hasB k 108 := by unfold hasW aboutN hasB abouts; (repeat' split) <;> first | (exfalso; omega) | decide +kernel
theorem hW_32 (k : Int) : hasW k 32 = hasB k 97 := by unfold hasW aboutN hasB abouts; (repeat' split) <;> first | (exfalso; omega) | decide +kernel
theorem hW_64 (k : Int) : hasW k 64 = hasB k 102 := by unfold hasW aboutN hasB abouts; (repeat' split) <;> first | (exfalso; omega) | decide +kernel
theorem hW_128 (k : Int) : hasW k 128 = hasB k 110 := by unfold hasW aboutN hasB abouts; (repeat' split) <;> first | (exfalso; omega) | decide +kernel
theorem hW_256 (k : Int) : hasW k 256 = hasB k 107 := by unfold hasW aboutN hasB abouts; (repeat' split) <;> first | (exfalso; omega) | decide +kernel
theorem hW_512 (k : Int) : hasW k 512 = hasB k 118 := by unfold hasW aboutN hasB abouts; (repeat' split) <;> first | (exfalso; omega) | decide +kernel
theorem hW_1024 (k : Int) : hasW k 1024 = hasB k 114 := by unfold hasW aboutN hasB abouts; (repeat' split) <;> first | (exfalso; omega) | decide +kernel
theorem hW_2048 (k : Int) : hasW k 2048 = hasB k 105 := by unfold hasW aboutN hasB abouts; (repeat' split) <;> first | (exfalso; omega) | decide +kernel
theorem hW_4096 (k : Int) : hasW k 4096 = hasB k 109 := by unfold hasW aboutN hasB abouts; (repeat' split) <;> first | (exfalso; omega) | decide +kernel
theorem hW_8192 (k : Int) : hasW k 8192 = hasB k 120 := by unfold hasW aboutN hasB abouts; (repeat' split) <;> first | (exfalso; omega) | decide +kernel
theorem tName_ok (s : ByteArray) (a : Bool) : ACall pg 44 [St s, B a, .clo 45 []] (B (nmB s a)) := text_ok s a _ nameB (rName_ok s)
def vlB (s : ByteArray) (a : Bool) : Bool := if a then decide ((s.size : Int) ≤ 256) else s.toList == []
theorem tVal_ok (s : ByteArray) (a : Bool) : ACall pg 44 [St s, B a, .clo 42 []] (B (vlB s a)) := text_ok s a _ (fun s => decide ((s.size : Int) ≤ 256)) (short_ok s)
end
end Go.Am
end
