/- Part of the proof of a law of the image. -/
import Derived.Test.YtfgfjgbggkdobaaGreatQData
import Derived.Test.YtfgfjgbggkdobaaGreatQED
import Derived.Test.YtfgfjgbggkdobaaGreatQW0
set_option linter.all false
section
set_option maxRecDepth 100000
set_option maxHeartbeats 0
namespace Go.Am
open Go
noncomputable section
def c61 : SC := (.seq (.reg [oO 2 47 0,oO 3 47 1,oZ 4 false] [2,3]) (.seq (.reg [oF 5 47 2 2,oL 6 3 5,oF 7 47 3 2,oL 8 3 7,oB 9 .eql 3 6 8 3,oM 10 9,oW 10 true (oF 11 47 2 3),oW 10 true (oL 12 3 11),oW 10 true (oF 13 47 3 3),oW 10 true (oL 14 3 13),oW 10 true (oB 15 .eql 3 12 14 3),oQ 16 10 15 false,oM 17 16,oW 17 true (oF 18 47 2 0),oW 17 true (oL 19 35 18),oW 17 true (oF 20 47 3 0),oW 17 true (oL 21 35 20),oW 17 true (oC 22 92 #[.tmp 19,.tmp 21] #[35,35]),oQ 23 17 22 false,oM 24 23,oW 24 true (oF 25 47 2 1),oW 24 true (oL 26 35 25),oW 24 true (oF 27 47 3 1),oW 24 true (oL 28 35 27),oW 24 true (oC 29 92 #[.tmp 26,.tmp 28] #[35,35]),oQ 30 24 29 false,oM 31 30,oW 31 true (oF 32 47 2 4),oW 31 true (oL 33 35 32),oW 31 true (oF 34 47 3 4),oW 31 true (oL 35 35 34),oW 31 true (oC 36 92 #[.tmp 33,.tmp 35] #[35,35]),oQ 37 31 36 false,oM 38 37,oW 38 true (oF 39 47 2 5),oW 38 true (oL 40 35 39),oW 38 true (oF 41 47 3 5),oW 38 true (oL 42 35 41),oW 38 true (oC 43 92 #[.tmp 40,.tmp 42] #[35,35]),oQ 44 38 43 false,oG 4 44] [4,9,10,15,16,17,22,23,24,29,30,31,36,37,38,43,44]) .ret))
theorem s61 : TextK Proofs.Tryz.prog 0 61 45 [ResultVar.tmp 4] c61 := .mk' Proofs.Tryz.f61 _ (by kernel_rfl) rfl rfl rfl (by kernel_rfl) rfl (by kernel_rfl)
theorem same_ok (a b : Part) (ha : a.Small) (hb : b.Small) : ACall pg 61 [encP a, encP b] (B (a.same b)) := by
  refine s61.call mo (by simp) fun hxs => ?_
  clear hxs
  unfold c61; dsimp only [oB, oC, oF, oG, oL, oM, oO, oQ, oW, oZ]
  repeat' first | (with_reducible first | refine awRet ?_) | ((with_reducible refine awReg fun K hok hK => ?_); clear hok; (try simp (maxSteps := 10000000) (disch := first | omega | simp) []); (repeat' first | (with_reducible refine hK _ (by simp) ?_) | ((with_reducible refine gdT (fun h => ?_) (fun h => ?_)) <;> (simp (maxSteps := 10000000) (disch := first | omega | simp) [h]; (try simp at h); (try (exfalso; omega)))) | ((with_reducible refine callS' fun K2 hK2 => ?_); (try simp (maxSteps := 10000000) (disch := first | omega | simp) []); (first | refine hK2 _ _ (equal_ok a.ids b.ids ha.ids hb.ids) rfl fun hk9 => ?_ | refine hK2 _ _ (equal_ok a.isr b.isr ha.isr hb.isr) rfl fun hk9 => ?_ | refine hK2 _ _ (equal_ok a.add b.add ha.add hb.add) rfl fun hk9 => ?_ | refine hK2 _ _ (equal_ok a.drop b.drop ha.drop hb.drop) rfl fun hk9 => ?_); clear hk9; clear hK2 K2; (try simp (maxSteps := 10000000) (disch := first | omega | simp) []))) <;> clear hK K) | ((with_reducible refine awCond fun A B hA hB => ?_); simp (maxSteps := 10000000) (disch := first | omega | simp) []; (first | refine ⟨fun h => hA ?_, fun h => hB ?_⟩ | refine hA ?_ | refine hB ?_) <;> (clear hA hB A B; (try (exfalso; omega))))
  all_goals (refine aEnR (aRes [] fun K hK => ?_); simp (maxSteps := 10000000) (disch := first | omega | simp) [Part.same]; refine hK _ ?_ (by simp); clear hK; first | done | (simp (maxSteps := 10000000) (disch := first | omega | simp) [Part.same, *]; done) | (simp (maxSteps := 10000000) (disch := first | omega | simp) [Part.same, *]; omega) | (simp_all [Part.same]; done) | (simp_all [Part.same]; omega))
end
end Go.Am
end
section
set_option maxRecDepth 100000
namespace Go.Am
open Go
noncomputable section
theorem Wk.frz1 {l : List (Nat × E)} {r j : Nat} {cs : List V} {z : V} (h : Am.ofA l r = .p (.own cs)) (hz : cs[j]? = some z) (hne : z ≠ .any) : Wk (Am.ofA l) (Am.ofA ((r, .p (.own (cs.set j (pv z)))) :: blurK r [(0, j)] l)) := by
  have hc : cont (Am.ofA l) r = .own cs := by simp [cont, h]
  have := Wk.freeze (Γ := Am.ofA l) (r := r) (q := [(0, j)]) (D := z) (by rw [hc]; simp [V.getP, V.cell, V.row, hz]) hne
  rw [upd_ofA, hc] at this
  have e : (V.own cs).setP [(0, j)] (pv z) = .own (cs.set j (pv z)) := by simp [V.setP, V.cell, V.row, hz, V.setCell, V.setRow]
  rw [e] at this
  exact this
theorem Wk.frzB {l : List (Nat × E)} {r : Nat} {X : List V} (h : Am.ofA l r = .p (.own X)) : Wk (Am.ofA l) (Am.ofA ((r, .p (.ip (pvL X) 0)) :: blurK r [] l)) := by
  have hc : cont (Am.ofA l) r = .own X := by simp [cont, h]
  have := Wk.freeze (Γ := Am.ofA l) (r := r) (q := []) (D := .own X) (by rw [hc]; rfl) (by simp)
  rw [upd_ofA, hc] at this
  exact this
end
end Go.Am
end
section
set_option maxRecDepth 100000
set_option maxHeartbeats 0
namespace Go.Am
open Go
noncomputable section
def c47 : SC := (.seq (.reg [oD 2 (.assign (.const (.slice none 0 0)))] [0,7]) (.seq (.reg [oM 3 0,oD 4 (.binOp .eql 25 (.tmp 3) (.const (.slice none 0 0)) 25)] [0,4,7]) (.seq (.cond (.tmp 4) (.seq (.reg [oD 2 (.assign (.const (.slice none 0 0)))] [2,7]) .ret) .skip) (.seq (.reg [oD 5 (.buildSlice 25 0 #[]),oM 6 0,oP 7 #[.tmp 5,.tmp 6] #[25,25],oG 2 7] [2,7]) .ret))))
theorem s47 : TextK Proofs.Tryz.prog 0 47 8 [ResultVar.tmp 2] c47 := .mk' Proofs.Tryz.f47 _ (by kernel_rfl) rfl rfl rfl (by kernel_rfl) rfl (by kernel_rfl)
theorem cloneB_ok (l : List Broker) (hl : l.length ≤ 1000000) : ACall pg 47 [.sl (l.map encB)] (.uq (l.map encB)) := by
  cases l with
  | nil =>
    refine ACall.empty fun a c => ?_
    refine s47.call mo (by simp) fun hxs => ?_
    clear hxs
    unfold c47; dsimp only [oD, oG, oM, oP]
    repeat' first | (with_reducible first | refine fS ?_ | refine fR ?_ | refine fQ ?_ | refine fT ?_ | refine awRet ?_) | ((with_reducible refine awReg fun K hok hK => ?_); clear hok; (try simp (maxSteps := 10000000) (disch := first | omega | simp) []); (repeat' first | (with_reducible refine hK _ (by simp) ?_)) <;> clear hK K) | ((with_reducible refine awCond fun A B hA hB => ?_); simp (maxSteps := 10000000) (disch := first | omega | simp) []; (first | refine ⟨fun h => hA ?_, fun h => hB ?_⟩ | refine hA ?_ | refine hB ?_) <;> (clear hA hB A B; (try (exfalso; omega))))
    all_goals exact fn0
  | cons x l =>
    have hl' : l.length + 1 ≤ 1000000 := by simpa using hl
    refine s47.call mo (by simp) fun hxs => ?_
    clear hxs
    unfold c47; dsimp only [oD, oG, oM, oP]
    refine wk ?_
    all_goals exact fn0
def c50 : SC := (.seq (.reg [oD 2 (.assign (.const (.slice none 0 0)))] [0,7]) (.seq (.reg [oM 3 0,oD 4 (.binOp .eql 26 (.tmp 3) (.const (.slice none 0 0)) 26)] [0,4,7]) (.seq (.cond (.tmp 4) (.seq (.reg [oD 2 (.assign (.const (.slice none 0 0)))] [2,7]) .ret) .skip) (.seq (.reg [oD 5 (.buildSlice 26 0 #[]),oM 6 0,oP 7 #[.tmp 5,.tmp 6] #[26,26],oG 2 7] [2,7]) .ret))))
theorem s50 : TextK Proofs.Tryz.prog 0 50 8 [ResultVar.tmp 2] c50 := .mk' Proofs.Tryz.f50 _ (by kernel_rfl) rfl rfl rfl (by kernel_rfl) rfl (by kernel_rfl)
theorem cloneT_ok (l : List Topic) (hl : l.length ≤ 1000000) : ACall pg 50 [.sl (l.map encT)] (.uq (l.map encT)) := by
  cases l with
  | nil =>
    refine ACall.empty fun a c => ?_
    refine s50.call mo (by simp) fun hxs => ?_
    clear hxs
    unfold c50; dsimp only [oD, oG, oM, oP]
    repeat' first | (with_reducible first | refine fS ?_ | refine fR ?_ | refine fQ ?_ | refine fT ?_ | refine awRet ?_) | ((with_reducible refine awReg fun K hok hK => ?_); clear hok; (try simp (maxSteps := 10000000) (disch := first | omega | simp) []); (repeat' first | (with_reducible refine hK _ (by simp) ?_)) <;> clear hK K) | ((with_reducible refine awCond fun A B hA hB => ?_); simp (maxSteps := 10000000) (disch := first | omega | simp) []; (first | refine ⟨fun h => hA ?_, fun h => hB ?_⟩ | refine hA ?_ | refine hB ?_) <;> (clear hA hB A B; (try (exfalso; omega))))
    all_goals exact fn0
  | cons x l =>
    have hl' : l.length + 1 ≤ 1000000 := by simpa using hl
    refine s50.call mo (by simp) fun hxs => ?_
    clear hxs
    unfold c50; dsimp only [oD, oG, oM, oP]
    refine wk ?_
    all_goals exact fn0
def c48 : SC := (.seq (.reg [oD 2 (.assign (.const (.slice none 0 0)))] [0,7]) (.seq (.reg [oM 3 0,oD 4 (.binOp .eql 27 (.tmp 3) (.const (.slice none 0 0)) 27)] [0,4,7]) (.seq (.cond (.tmp 4) (.seq (.reg [oD 2 (.assign (.const (.slice none 0 0)))] [2,7]) .ret) .skip) (.seq (.reg [oD 5 (.buildSlice 27 0 #[]),oM 6 0,oP 7 #[.tmp 5,.tmp 6] #[27,27],oG 2 7] [2,7]) .ret))))
theorem s48 : TextK Proofs.Tryz.prog 0 48 8 [ResultVar.tmp 2] c48 := .mk' Proofs.Tryz.f48 _ (by kernel_rfl) rfl rfl rfl (by kernel_rfl) rfl (by kernel_rfl)
theorem cloneC_ok (l : List Config) (hl : l.length ≤ 1000000) : ACall pg 48 [.sl (l.map encC)] (.uq (l.map encC)) := by
  cases l with
  | nil =>
    refine ACall.empty fun a c => ?_
    refine s48.call mo (by simp) fun hxs => ?_
    clear hxs
    unfold c48; dsimp only [oD, oG, oM, oP]
    repeat' first | (with_reducible first | refine fS ?_ | refine fR ?_ | refine fQ ?_ | refine fT ?_ | refine awRet ?_) | ((with_reducible refine awReg fun K hok hK => ?_); clear hok; (try simp (maxSteps := 10000000) (disch := first | omega | simp) []); (repeat' first | (with_reducible refine hK _ (by simp) ?_)) <;> clear hK K) | ((with_reducible refine awCond fun A B hA hB => ?_); simp (maxSteps := 10000000) (disch := first | omega | simp) []; (first | refine ⟨fun h => hA ?_, fun h => hB ?_⟩ | refine hA ?_ | refine hB ?_) <;> (clear hA hB A B; (try (exfalso; omega))))
    all_goals exact fn0
  | cons x l =>
    have hl' : l.length + 1 ≤ 1000000 := by simpa using hl
    refine s48.call mo (by simp) fun hxs => ?_
    clear hxs
    unfold c48; dsimp only [oD, oG, oM, oP]
    refine wk ?_
    all_goals exact fn0
def c49 : SC := (.seq (.reg [oD 2 (.assign (.const (.slice none 0 0)))] [0,7]) (.seq (.reg [oM 3 0,oD 4 (.binOp .eql 28 (.tmp 3) (.const (.slice none 0 0)) 28)] [0,4,7]) (.seq (.cond (.tmp 4) (.seq (.reg [oD 2 (.assign (.const (.slice none 0 0)))] [2,7]) .ret) .skip) (.seq (.reg [oD 5 (.buildSlice 28 0 #[]),oM 6 0,oP 7 #[.tmp 5,.tmp 6] #[28,28],oG 2 7] [2,7]) .ret))))
theorem s49 : TextK Proofs.Tryz.prog 0 49 8 [ResultVar.tmp 2] c49 := .mk' Proofs.Tryz.f49 _ (by kernel_rfl) rfl rfl rfl (by kernel_rfl) rfl (by kernel_rfl)
theorem cloneD_ok (l : List Done) (hl : l.length ≤ 1000000) : ACall pg 49 [.sl (l.map encD)] (.uq (l.map encD)) := by
  cases l with
  | nil =>
    refine ACall.empty fun a c => ?_
    refine s49.call mo (by simp) fun hxs => ?_
    clear hxs
    unfold c49; dsimp only [oD, oG, oM, oP]
    repeat' first | (with_reducible first | refine fS ?_ | refine fR ?_ | refine fQ ?_ | refine fT ?_ | refine awRet ?_) | ((with_reducible refine awReg fun K hok hK => ?_); clear hok; (try simp (maxSteps := 10000000) (disch := first | omega | simp) []); (repeat' first | (with_reducible refine hK _ (by simp) ?_)) <;> clear hK K) | ((with_reducible refine awCond fun A B hA hB => ?_); simp (maxSteps := 10000000) (disch := first | omega | simp) []; (first | refine ⟨fun h => hA ?_, fun h => hB ?_⟩ | refine hA ?_ | refine hB ?_) <;> (clear hA hB A B; (try (exfalso; omega))))
    all_goals exact fn0
  | cons x l =>
    have hl' : l.length + 1 ≤ 1000000 := by simpa using hl
    refine s49.call mo (by simp) fun hxs => ?_
    clear hxs
    unfold c49; dsimp only [oD, oG, oM, oP]
    refine wk ?_
    all_goals exact fn0
def c51 : SC := (.seq (.reg [oD 2 (.assign (.const (.slice none 0 0)))] [0,7]) (.seq (.reg [oM 3 0,oD 4 (.binOp .eql 63 (.tmp 3) (.const (.slice none 0 0)) 63)] [0,4,7]) (.seq (.cond (.tmp 4) (.seq (.reg [oD 2 (.assign (.const (.slice none 0 0)))] [2,7]) .ret) .skip) (.seq (.reg [oD 5 (.buildSlice 63 0 #[]),oM 6 0,oP 7 #[.tmp 5,.tmp 6] #[63,63],oG 2 7] [2,7]) .ret))))
theorem s51 : TextK Proofs.Tryz.prog 0 51 8 [ResultVar.tmp 2] c51 := .mk' Proofs.Tryz.f51 _ (by kernel_rfl) rfl rfl rfl (by kernel_rfl) rfl (by kernel_rfl)
theorem cloneP_ok (l : List Part) (hl : l.length ≤ 1000000) : ACall pg 51 [.sl (l.map encP)] (.uq (l.map encP)) := by
  cases l with
  | nil =>
    refine ACall.empty fun a c => ?_
    refine s51.call mo (by simp) fun hxs => ?_
    clear hxs
    unfold c51; dsimp only [oD, oG, oM, oP]
    repeat' first | (with_reducible first | refine fS ?_ | refine fR ?_ | refine fQ ?_ | refine fT ?_ | refine awRet ?_) | ((with_reducible refine awReg fun K hok hK => ?_); clear hok; (try simp (maxSteps := 10000000) (disch := first | omega | simp) []); (repeat' first | (with_reducible refine hK _ (by simp) ?_)) <;> clear hK K) | ((with_reducible refine awCond fun A B hA hB => ?_); simp (maxSteps := 10000000) (disch := first | omega | simp) []; (first | refine ⟨fun h => hA ?_, fun h => hB ?_⟩ | refine hA ?_ | refine hB ?_) <;> (clear hA hB A B; (try (exfalso; omega))))
    all_goals exact fn0
  | cons x l =>
    have hl' : l.length + 1 ≤ 1000000 := by simpa using hl
    refine s51.call mo (by simp) fun hxs => ?_
    clear hxs
    unfold c51; dsimp only [oD, oG, oM, oP]
    refine wk ?_
    all_goals exact fn0
end
end Go.Am
end
section
set_option maxRecDepth 100000
set_option maxHeartbeats 0
namespace Go.Am
open Go
noncomputable section
def c22 : SC := (.seq (.reg [oO 1 30 0,oA 2 30] [1,2]) (.seq (.reg [oU (oF 6 30 1 0) [9,10,12,13],oU (oL 7 25 6) [9,10,12,13],oU (oC 8 47 #[.tmp 7] #[25]) [9,10,12,13],oU (oF 9 30 1 2) [6,7,8,12,13],oU (oL 10 27 9) [6,7,8,12,13],oU (oC 11 48 #[.tmp 10] #[27]) [12,13,15],oU (oF 12 30 1 3) [6,7,8,9,10,11],oU (oL 13 28 12) [6,7,8,9,10,11],oU (oC 14 49 #[.tmp 13] #[28]) [15],oU (oF 15 30 1 0) [11,14],oS 25 15 8,oF 16 30 1 2,oS 27 16 11,oF 17 30 1 3,oS 28 17 14] [1,2]) (.seq (.reg [oF 18 30 1 1,oL 19 26 18,oC 20 50 #[.tmp 19] #[26],oF 21 30 1 1,oS 26 21 20] [1,2]) (.seq (.reg [oF 22 30 1 1,oL 23 26 22,oN 24 23 26,oD 25 (.move (.const (.int .i64 0)))] [1,2,24,25,63]) (.seq (.block 0 (.seq (.loop (.seq (.reg [oB 26 .lss 3 25 24 3] [1,2,24,25,26,63]) (.seq (.cond (.tmp 26) .skip (.exit 0)) (.seq (.block 1 (.seq (.reg [oM 27 25,oG 3 27] [1,2,3,24,25,27,63]) (.seq (.reg [oF 28 30 1 1,oL 29 26 28,oM 30 3,oJ 31 26 29 30,oG 4 31] [1,2,3,4,24,25,27,28,29,30,31,63]) (.seq (.reg [oM 32 4,oM 33 4,oD 34 (.nilCheck (.tmp 33)),oF 35 65 34 2,oL 36 63 35,oC 37 51 #[.tmp 36] #[63],oD 38 (.nilCheck (.tmp 32)),oF 39 65 38 2,oS 63 39 37] [1,2,3,4,24,25,27,28,29,30,31,63]) (.seq (.reg [oM 40 4,oD 41 (.nilCheck (.tmp 40)),oF 42 65 41 2,oL 43 63 42,oN 44 43 63,oD 45 (.move (.const (.int .i64 0)))] [1,2,3,4,24,25,27,28,29,30,31,44,45,62,63]) (.seq (.block 2 (.seq (.loop (.seq (.reg [oB 46 .lss 3 45 44 3] [1,2,3,4,24,25,27,28,29,30,31,44,45,46,62,63]) (.seq (.cond (.tmp 46) .skip (.exit 2)) (.seq (.block 3 (.seq (.reg [oM 47 45,oG 5 47] [1,2,3,4,5,24,25,27,28,29,30,31,44,45,47,62,63]) (.seq (.reg [oU (oM 48 4) [52,53,54,55,56,57,58,59,60],oU (oD 49 (.nilCheck (.tmp 48))) [52,53,54,55,56,57,58,59,60],oU (oF 50 65 49 2) [52,53,54,55,56,57,58,59,60],oU (oL 51 63 50) [52,53,54,55,56,57,58,59,60],oU (oM 52 5) [48,49,50,51,53,54,55,56,57,58,59,60],oU (oM 53 4) [48,49,50,51,52,57],oU (oD 54 (.nilCheck (.tmp 53))) [48,49,50,51,52,57],oU (oF 55 65 54 2) [48,49,50,51,52,57],oU (oL 56 63 55) [48,49,50,51,52,57],oU (oM 57 5) [48,49,50,51,52,53,54,55,56],oU (oJ 58 63 56 57) [48,49,50,51,52],oU (oL 59 47 58) [48,49,50,51,52],oU (oC 60 52 #[.tmp 59] #[47]) [48,49,50,51,52],oJ 61 63 51 52,oS 47 61 60] [1,2,3,4,24,25,27,28,29,30,31,44,45,62,63]) .skip))) (.seq (.reg [oK 62 .add 3 45 1 3,oM 45 62] [1,2,3,4,24,25,27,28,29,30,31,44,45,62,63]) .skip))))) .skip)) .skip)))))) (.seq (.reg [oK 63 .add 3 25 1 3,oM 25 63] [1,2,24,25,63]) .skip))))) .skip)) (.seq (.reg [oL 64 30 1,oS 30 2 64] [2]) .ret))))))
theorem s22 : TextK Proofs.Tryz.prog 0 22 65 [ResultVar.cell 2 30] c22 := .mk' Proofs.Tryz.f22 _ (by kernel_rfl) rfl rfl rfl (by kernel_rfl) rfl (by kernel_rfl)
def mixL {α : Type} (f g : α → V) (l : List α) (i : Nat) : List V := (l.take i).map f ++ (l.drop i).map g
def mixM {α : Type} (f g : α → V) (l : List α) (i : Nat) (x : V) : List V := (l.take i).map f ++ x :: (l.drop (i + 1)).map g
section
variable {α : Type} {f g : α → V} {l : List α} {i : Nat} {x : V}
@[simp] theorem mixL_zero : mixL f g l 0 = l.map g := by simp [mixL]
@[simp] theorem mixL_len : mixL f g l l.length = l.map f := by simp [mixL]
@[simp] theorem mixL_get (h : i < l.length) : (mixL f g l i)[i]? = some (g l[i]) := by
  simp only [mixL]
  rw [List.getElem?_append_right (by simp; omega)]
  simp [Nat.min_eq_left (Nat.le_of_lt h), h]
theorem mixL_mod (h : i < l.length) (k : V → V) : (mixL f g l i).modify i k = mixM f g l i (k (g l[i])) := by
  simp only [mixL, mixM]
  rw [List.modify_eq_take_cons_drop (by simp; omega)]
  have hl : ((l.take i).map f).length = i := by simp; omega
  have e1 : ((l.take i).map f ++ (l.drop i).map g).take i = (l.take i).map f := by rw [← hl]; simp
  have e2 : ((l.take i).map f ++ (l.drop i).map g).drop (i + 1) = (l.drop (i + 1)).map g := by
    rw [List.drop_append, hl, List.drop_eq_nil_of_le (by rw [hl]; omega)]
    simp [List.drop_drop]
  have hmin : min i l.length = i := Nat.min_eq_left (by omega)
  rw [e1, e2, List.getElem_append_right (by omega)]
  simp [hl, hmin]
@[simp] theorem mixL_mod' (h : i < l.length) (k : V → V) : (mixL f g l i).modify i k = mixM f g l i (k (g l[i])) := mixL_mod h k
@[simp] theorem mixM_length (h : i < l.length) : (mixM f g l i x).length = l.length := by simp [mixM]; omega
@[simp] theorem mixM_get (h : i < l.length) : (mixM f g l i x)[i]? = some x := by
  simp only [mixM]
  rw [List.getElem?_append_right (by simp; omega)]
  simp [Nat.min_eq_left (Nat.le_of_lt h)]
@[simp] theorem mixM_mod (h : i < l.length) (k : V → V) : (mixM f g l i x).modify i k = mixM f g l i (k x) := by
  simp only [mixM]
  have hl : ((l.take i).map f).length = i := by simp; omega
  rw [List.modify_eq_take_cons_drop (by simp; omega)]
  have e1 : ((l.take i).map f ++ x :: (l.drop (i + 1)).map g).take i = (l.take i).map f := by rw [← hl]; simp
  have e2 : ((l.take i).map f ++ x :: (l.drop (i + 1)).map g).drop (i + 1) = (l.drop (i + 1)).map g := by
    rw [List.drop_append, hl, List.drop_eq_nil_of_le (by rw [hl]; omega)]
    simp
  have hmin : min i l.length = i := Nat.min_eq_left (by omega)
  rw [e1, e2, List.getElem_append_right (by omega)]
  simp [hl, hmin]
theorem mixM_next (h : i < l.length) : mixM f g l i (f l[i]) = mixL f g l (i + 1) := by
  simp only [mixM, mixL]
  rw [List.take_add_one, List.getElem?_eq_getElem h]
  simp only [Option.toList_some, List.map_append, List.map_cons, List.map_nil, List.append_assoc, List.cons_append, List.nil_append]
@[simp] theorem mixM_ge (h : i < l.length) (h' : i < (mixM f g l i x).length) : (mixM f g l i x)[i] = x := by
  have := mixM_get (f := f) (g := g) (x := x) h
  rw [List.getElem?_eq_getElem h'] at this
  exact Option.some.inj this
@[simp] theorem setCell_mixL {j : Nat} {y : V} (h : i < l.length) : (V.uq (mixL f g l i)).setCell i j y = .uq (mixM f g l i ((g l[i]).recell ((g l[i]).cells.set j y))) := by
  simp [V.setCell, V.row, V.setRow, h]
@[simp] theorem setCell_mixM {j : Nat} {y : V} (h : i < l.length) : (V.uq (mixM f g l i x)).setCell i j y = .uq (mixM f g l i (x.recell (x.cells.set j y))) := by
  simp [V.setCell, V.row, V.setRow, h]
end
def encTO (t : Topic) : V := .agg [I t.id, St t.name, .uq (t.parts.map encPO)]
@[simp] theorem encTO_eq (t : Topic) : encTO t = .agg [I t.id, St t.name, .uq (t.parts.map encPO)] := rfl
def encMO (m : Image) : V := .agg [.uq (m.brokers.map encB), .uq (m.topics.map encTO), .uq (m.configs.map encC), .uq (m.done.map encD), I m.last]
@[simp] theorem encMO_eq (m : Image) : encMO m = .agg [.uq (m.brokers.map encB), .uq (m.topics.map encTO), .uq (m.configs.map encC), .uq (m.done.map encD), I m.last] := rfl
theorem copy_ok (m : Image) (hm : m.Pre) (hp : ∀ t ∈ m.topics, ∀ p ∈ t.parts, p.Small) : ACall pg 22 [encM m] (encMO m) := by
  refine s22.call mo (by simp) fun hxs => ?_
  clear hxs
  have hbl := hm.bl
  have htl := hm.tl
  have hcl := hm.cl
  have hdl := hm.dl
  unfold c22; dsimp only [oA, oB, oC, oD, oF, oG, oJ, oK, oL, oM, oN, oO, oS, oU]
  repeat' first | (with_reducible first | refine thN ?_ | refine thE ?_ | refine inN ?_ | refine inH ?_ | refine fS ?_ | refine fE ?_ | refine awBlock ?_ | refine awExit ?_ | refine awRet ?_ | refine awSkip ?_) | ((with_reducible refine awReg fun K hok hK => ?_); clear hok; (try simp (maxSteps := 10000000) (disch := first | omega | simp) []); (repeat' first | (with_reducible refine hK _ (by simp) ?_) | ((first | ((with_reducible refine callF' fun K2 hK2 => ?_); (try simp (maxSteps := 10000000) (disch := first | omega | simp) []); (first | refine hK2 _ _ _ (cloneB_ok m.brokers (by omega)) fun _ => ?_ | refine hK2 _ _ _ (cloneT_ok m.topics (by omega)) fun _ => ?_ | refine hK2 _ _ _ (cloneC_ok m.configs (by omega)) fun _ => ?_ | refine hK2 _ _ _ (cloneD_ok m.done (by omega)) fun _ => ?_); clear hK2 K2) | ((with_reducible refine sideF' fun K2 hK2 => ?_); (try simp (maxSteps := 10000000) (disch := first | omega | simp) []); (first | refine hK2 _ _ _ (cloneB_ok m.brokers (by omega)) (by simp) ?_ | refine hK2 _ _ _ (cloneT_ok m.topics (by omega)) (by simp) ?_ | refine hK2 _ _ _ (cloneC_ok m.configs (by omega)) (by simp) ?_ | refine hK2 _ _ _ (cloneD_ok m.done (by omega)) (by simp) ?_); clear hK2 K2) | ((with_reducible refine sideQ' ?_ ?_ fun K2 hK2 => ?_); exact rfl; exact rfl; (try simp (maxSteps := 10000000) (disch := first | omega | simp) []); with_reducible refine hK2 _ _ ?_; clear hK2 K2)); (try simp (maxSteps := 10000000) (disch := first | omega | simp) []))) <;> clear hK K) | ((with_reducible refine awCond fun A B hA hB => ?_); simp (maxSteps := 10000000) (disch := first | omega | simp) []; (first | refine ⟨fun h => hA ?_, fun h => hB ?_⟩ | refine hA ?_ | refine hB ?_) <;> (clear hA hB A B; (try (exfalso; omega))))
  refine awFor m.topics.length (fun i (_ : Unit) => True) (fun i _ => [(25, .p (I i)), (24, .p (I m.topics.length)), (2, .p (.own [.uq [], .uq [], .uq [], .uq [], I 0])), (1, .p (.own [.uq (m.brokers.map encB), .uq (mixL encTO encT m.topics i), .uq (m.configs.map encC), .uq (m.done.map encD), I m.last]))]) () (Wk.ofA (by simp)) trivial fun i _ hi _ => ?_
  by_cases hlt : i < m.topics.length
  · have htm := List.getElem_mem hlt
    have hpl := hm.pl _ htm
    repeat' first | (with_reducible first | refine thN ?_ | refine thE ?_ | refine inN ?_ | refine inH ?_ | refine fS ?_ | refine fE ?_ | refine awBlock ?_ | refine awExit ?_ | refine awRet ?_ | refine awSkip ?_) | ((with_reducible refine awReg fun K hok hK => ?_); clear hok; (try simp (maxSteps := 10000000) (disch := first | omega | simp) []); (repeat' first | (with_reducible refine hK _ (by simp) ?_) | ((first | ((with_reducible refine callF' fun K2 hK2 => ?_); (try simp (maxSteps := 10000000) (disch := first | omega | simp) []); (refine hK2 _ _ _ (cloneP_ok m.topics[i].parts (by omega)) fun _ => ?_); clear hK2 K2) | ((with_reducible refine sideF' fun K2 hK2 => ?_); (try simp (maxSteps := 10000000) (disch := first | omega | simp) []); (refine hK2 _ _ _ (cloneP_ok m.topics[i].parts (by omega)) (by simp) ?_); clear hK2 K2) | ((with_reducible refine sideQ' ?_ ?_ fun K2 hK2 => ?_); exact rfl; exact rfl; (try simp (maxSteps := 10000000) (disch := first | omega | simp) []); with_reducible refine hK2 _ _ ?_; clear hK2 K2)); (try simp (maxSteps := 10000000) (disch := first | omega | simp) []))) <;> clear hK K) | ((with_reducible refine awCond fun A B hA hB => ?_); simp (maxSteps := 10000000) (disch := first | omega | simp) []; (first | refine ⟨fun h => hA ?_, fun h => hB ?_⟩ | refine hA ?_ | refine hB ?_) <;> (clear hA hB A B; (try (exfalso; omega))))
    refine awFor m.topics[i].parts.length (fun k (_ : Unit) => True) (fun k _ => [(45, .p (I k)), (44, .p (I m.topics[i].parts.length)), (4, .pa 1 [(0, 1)] i 0), (25, .p (I i)), (24, .p (I m.topics.length)), (2, .p (.own [.uq [], .uq [], .uq [], .uq [], I 0])), (1, .p (.own [.uq (m.brokers.map encB), .uq (mixM encTO encT m.topics i (.agg [I m.topics[i].id, St m.topics[i].name, .uq (mixL encPO encP m.topics[i].parts k)])), .uq (m.configs.map encC), .uq (m.done.map encD), I m.last]))]) () (Wk.ofA (by simp)) trivial fun k _ hk _ => ?_
    by_cases hkt : k < m.topics[i].parts.length
    · have hpm := List.getElem_mem hkt
      have e := mixM_next (f := encPO) (g := encP) hkt
      rw [encPO_eq] at e
      repeat' first | (with_reducible first | refine thN ?_ | refine thE ?_ | refine inN ?_ | refine inH ?_ | refine fS ?_ | refine fE ?_ | refine awBlock ?_ | refine awExit ?_ | refine awRet ?_ | refine awSkip ?_) | ((with_reducible refine awReg fun K hok hK => ?_); clear hok; (try simp (maxSteps := 10000000) (disch := first | omega | simp) []); (repeat' first | (with_reducible refine hK _ (by simp) ?_) | ((first | ((with_reducible refine callF' fun K2 hK2 => ?_); (try simp (maxSteps := 10000000) (disch := first | omega | simp) []); (refine hK2 _ _ _ (alone_ok m.topics[i].parts[k] (hp _ htm _ hpm)) fun _ => ?_); clear hK2 K2) | ((with_reducible refine sideF' fun K2 hK2 => ?_); (try simp (maxSteps := 10000000) (disch := first | omega | simp) []); (refine hK2 _ _ _ (alone_ok m.topics[i].parts[k] (hp _ htm _ hpm)) (by simp) ?_); clear hK2 K2) | ((with_reducible refine sideQ' ?_ ?_ fun K2 hK2 => ?_); exact rfl; exact rfl; (try simp (maxSteps := 10000000) (disch := first | omega | simp) []); with_reducible refine hK2 _ _ ?_; clear hK2 K2)); (try simp (maxSteps := 10000000) (disch := first | omega | simp) []))) <;> clear hK K) | ((with_reducible refine awCond fun A B hA hB => ?_); simp (maxSteps := 10000000) (disch := first | omega | simp) []; (first | refine ⟨fun h => hA ?_, fun h => hB ?_⟩ | refine hA ?_ | refine hB ?_) <;> (clear hA hB A B; (try (exfalso; omega))))
      (refine ⟨?_, (), ?_, Wk.ofA ?_⟩; assumption; rotate_left; focus (simp [e]; done))
      trivial
    · obtain rfl : k = m.topics[i].parts.length := by omega
      have e := mixM_next (f := encTO) (g := encT) hlt
      rw [encTO_eq] at e
      refine wk ?_
      (refine ⟨?_, (), ?_, Wk.ofA ?_⟩; assumption; rotate_left; focus (simp [e]; done))
      trivial
  · obtain rfl : i = m.topics.length := by omega
    refine wk ?_
    (refine aEnR (aRes [] fun K hK => ?_); simp (maxSteps := 10000000) (disch := first | omega | simp) []; refine hK _ ?_ (by simp); simp (maxSteps := 10000000) (disch := first | omega | simp) [])
end
end Go.Am
end
