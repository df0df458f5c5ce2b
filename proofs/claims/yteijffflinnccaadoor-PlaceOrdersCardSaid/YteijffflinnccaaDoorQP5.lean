/- Part of the proof of a law of placing. -/
import Derived.Test.YteijffflinnccaaDoorQP4
set_option linter.all false
set_option maxRecDepth 100000
set_option maxHeartbeats 0
namespace Go.Am
open Go
noncomputable section
def c30 : SC := (.seq (.reg [⟨some 2, .assign (.const (.int .i64 0)), none, []⟩] [0, 5, 14, 15, 16, 17, 29, 30, 31, 65]) (.seq (.reg [⟨some 3, .assign (.const (.int .i64 (-1))), none, []⟩] [0, 3, 5, 14, 15, 16, 17, 29, 30, 31, 65]) (.seq (.reg [⟨some 6, .move (.tmp 0), none, []⟩,
  ⟨some 7, .nilCheck (.tmp 6), none, []⟩,
  ⟨some 8, .fieldAddr 70 (.tmp 7) 0, none, []⟩,
  ⟨some 9, .load 23 (.tmp 8), none, []⟩,
  ⟨some 10, .call { callee := .builtin .len, args := #[.tmp 9], argTypes := #[23] }, none, []⟩,
  ⟨some 11, .move (.const (.int .i64 0)), none, []⟩] [0, 3, 5, 10, 11, 14, 15, 16, 17, 29, 30, 31, 65, 66]) (.seq (.block 0 (.seq (.loop (.seq (.reg [⟨some 12, .binOp .lss 3 (.tmp 11) (.tmp 10) 3, none, []⟩] [0, 3, 5, 10, 11, 12, 14, 15, 16, 17, 29, 30, 31, 65, 66]) (.seq (.cond (.tmp 12) .skip (.exit 0)) (.seq (.block 1 (.seq (.reg [⟨some 13, .move (.tmp 11), none, []⟩,
  ⟨some 4, .assign (.tmp 13), none, []⟩] [0, 3, 4, 5, 10, 11, 13, 14, 15, 16, 17, 29, 30, 31, 65, 66]) (.seq (.reg [⟨some 14, .move (.tmp 0), none, [18, 19, 20, 21, 22, 23, 24, 25, 26, 27, 28, 29]⟩,
  ⟨some 15, .nilCheck (.tmp 14), none, [18, 19, 20, 21, 22, 23, 24, 25, 26, 27, 28, 29]⟩,
  ⟨some 16, .fieldAddr 70 (.tmp 15) 0, none, [18, 19, 20, 21, 22, 23, 24, 25, 26, 27, 28, 29]⟩,
  ⟨some 17, .load 23 (.tmp 16), none, [18, 19, 20, 21, 22, 23, 24, 25, 26, 27, 28, 29]⟩,
  ⟨some 18, .move (.tmp 0), none, [14, 15, 16, 17, 22, 24, 25, 26, 27, 28]⟩,
  ⟨some 19, .nilCheck (.tmp 18), none, [14, 15, 16, 17, 22, 24, 25, 26, 27, 28]⟩,
  ⟨some 20, .fieldAddr 70 (.tmp 19) 1, none, [14, 15, 16, 17, 22, 24, 25, 26, 27, 28]⟩,
  ⟨some 21, .load 3 (.tmp 20), none, [14, 15, 16, 17, 22, 24, 25, 26, 27, 28]⟩,
  ⟨some 22, .move (.tmp 4), none, [14, 15, 16, 17, 18, 19, 20, 21, 24, 25, 26, 27, 28]⟩,
  ⟨some 23, .binOp .add 3 (.tmp 21) (.tmp 22) 3, none, [14, 15, 16, 17, 24, 25, 26, 27, 28]⟩,
  ⟨some 24, .move (.tmp 0), none, [14, 15, 16, 17, 18, 19, 20, 21, 22, 23]⟩,
  ⟨some 25, .nilCheck (.tmp 24), none, [14, 15, 16, 17, 18, 19, 20, 21, 22, 23]⟩,
  ⟨some 26, .fieldAddr 70 (.tmp 25) 0, none, [14, 15, 16, 17, 18, 19, 20, 21, 22, 23]⟩,
  ⟨some 27, .load 23 (.tmp 26), none, [14, 15, 16, 17, 18, 19, 20, 21, 22, 23]⟩,
  ⟨some 28, .call { callee := .builtin .len, args := #[.tmp 27], argTypes := #[23] }, none, [14, 15, 16, 17, 18, 19, 20, 21, 22, 23]⟩,
  ⟨some 29, .binOp .rem 3 (.tmp 23) (.tmp 28) 3, none, [14, 15, 16, 17]⟩,
  ⟨some 30, .indexAddr 23 (.tmp 17) (.tmp 29), none, []⟩,
  ⟨some 31, .load 3 (.tmp 30), none, []⟩,
  ⟨some 5, .assign (.tmp 31), none, []⟩] [0, 3, 5, 10, 11, 14, 15, 16, 17, 29, 30, 31, 65, 66]) (.seq (.reg [⟨some 32, .move (.tmp 0), none, []⟩,
  ⟨some 33, .nilCheck (.tmp 32), none, []⟩,
  ⟨some 34, .fieldAddr 70 (.tmp 33) 3, none, []⟩,
  ⟨some 35, .load 23 (.tmp 34), none, []⟩,
  ⟨some 36, .move (.tmp 5), none, []⟩,
  ⟨some 37, .call { callee := .value (.func 24), args := #[.tmp 35, .tmp 36], argTypes := #[23, 3] }, none, []⟩] [0, 3, 5, 10, 11, 14, 15, 16, 17, 29, 30, 31, 37, 65, 66]) (.seq (.cond (.tmp 37) (.exit 1) .skip) (.seq (.reg [⟨some 38, .move (.tmp 3), none, []⟩,
  ⟨some 39, .binOp .lss 3 (.tmp 38) (.const (.int .i64 0)) 3, none, []⟩,
  ⟨some 40, .move (.tmp 39), none, []⟩,
  ⟨some 41, .move (.tmp 0), (some (40, false)), [45, 46, 47, 48, 49, 50, 52, 53, 54, 55, 56, 57, 58, 59, 60, 61, 62]⟩,
  ⟨some 42, .nilCheck (.tmp 41), (some (40, false)), [45, 46, 47, 48, 49, 50, 52, 53, 54, 55, 56, 57, 58, 59, 60, 61, 62]⟩,
  ⟨some 43, .fieldAddr 70 (.tmp 42) 4, (some (40, false)), [45, 46, 47, 48, 49, 50, 52, 53, 54, 55, 56, 57, 58, 59, 60, 61, 62]⟩,
  ⟨some 44, .load 68 (.tmp 43), (some (40, false)), [45, 46, 47, 48, 49, 50, 52, 53, 54, 55, 56, 57, 58, 59, 60, 61, 62]⟩,
  ⟨some 45, .move (.tmp 0), (some (40, false)), [41, 42, 43, 44, 49, 52, 53, 54, 55, 56, 57, 58, 59, 60]⟩,
  ⟨some 46, .nilCheck (.tmp 45), (some (40, false)), [41, 42, 43, 44, 49, 52, 53, 54, 55, 56, 57, 58, 59, 60]⟩,
  ⟨some 47, .fieldAddr 70 (.tmp 46) 2, (some (40, false)), [41, 42, 43, 44, 49, 52, 53, 54, 55, 56, 57, 58, 59, 60]⟩,
  ⟨some 48, .load 66 (.tmp 47), (some (40, false)), [41, 42, 43, 44, 49, 52, 53, 54, 55, 56, 57, 58, 59, 60]⟩,
  ⟨some 49, .move (.tmp 5), (some (40, false)), [41, 42, 43, 44, 45, 46, 47, 48, 52, 53, 54, 55, 56, 57, 58, 59, 60]⟩,
  ⟨some 50, .call { callee := .value (.tmp 48), args := #[.tmp 49], argTypes := #[3] }, (some (40, false)), [41, 42, 43, 44, 52, 53, 54, 55, 56, 57, 58, 59, 60]⟩,
  ⟨some 51, .lookup 68 (.tmp 44) (.tmp 50) false, (some (40, false)), [52, 53, 54, 55, 56, 57, 58, 59, 60, 61, 62]⟩,
  ⟨some 52, .move (.tmp 0), (some (40, false)), [41, 42, 43, 44, 45, 46, 47, 48, 49, 50, 51, 56, 57, 58, 59, 60, 61]⟩,
  ⟨some 53, .nilCheck (.tmp 52), (some (40, false)), [41, 42, 43, 44, 45, 46, 47, 48, 49, 50, 51, 56, 57, 58, 59, 60, 61]⟩,
  ⟨some 54, .fieldAddr 70 (.tmp 53) 4, (some (40, false)), [41, 42, 43, 44, 45, 46, 47, 48, 49, 50, 51, 56, 57, 58, 59, 60, 61]⟩,
  ⟨some 55, .load 68 (.tmp 54), (some (40, false)), [41, 42, 43, 44, 45, 46, 47, 48, 49, 50, 51, 56, 57, 58, 59, 60, 61]⟩,
  ⟨some 56, .move (.tmp 0), (some (40, false)), [41, 42, 43, 44, 45, 46, 47, 48, 49, 50, 51, 52, 53, 54, 55, 60]⟩,
  ⟨some 57, .nilCheck (.tmp 56), (some (40, false)), [41, 42, 43, 44, 45, 46, 47, 48, 49, 50, 51, 52, 53, 54, 55, 60]⟩,
  ⟨some 58, .fieldAddr 70 (.tmp 57) 2, (some (40, false)), [41, 42, 43, 44, 45, 46, 47, 48, 49, 50, 51, 52, 53, 54, 55, 60]⟩,
  ⟨some 59, .load 66 (.tmp 58), (some (40, false)), [41, 42, 43, 44, 45, 46, 47, 48, 49, 50, 51, 52, 53, 54, 55, 60]⟩,
  ⟨some 60, .move (.tmp 3), (some (40, false)), [41, 42, 43, 44, 45, 46, 47, 48, 49, 50, 51, 52, 53, 54, 55, 56, 57, 58, 59]⟩,
  ⟨some 61, .call { callee := .value (.tmp 59), args := #[.tmp 60], argTypes := #[3] }, (some (40, false)), [41, 42, 43, 44, 51, 52, 53, 54, 55]⟩,
  ⟨some 62, .lookup 68 (.tmp 55) (.tmp 61) false, (some (40, false)), [41, 42, 43, 44, 51]⟩,
  ⟨some 63, .binOp .lss 3 (.tmp 51) (.tmp 62) 3, (some (40, false)), []⟩,
  ⟨some 64, .pick (.tmp 40) (.const (.bool true)) (.tmp 63), none, []⟩] [0, 3, 5, 10, 11, 14, 15, 16, 17, 29, 30, 31, 39, 40, 63, 64, 65, 66]) (.seq (.cond (.tmp 64) (.seq (.reg [⟨some 65, .move (.tmp 5), none, []⟩,
  ⟨some 3, .assign (.tmp 65), none, []⟩] [0, 3, 5, 10, 11, 14, 15, 16, 17, 29, 30, 31, 65, 66]) .skip) .skip) .skip))))))) (.seq (.reg [⟨some 66, .binOp .add 3 (.tmp 11) (.const (.int .i64 1)) 3, none, []⟩,
  ⟨some 11, .move (.tmp 66), none, []⟩] [0, 3, 5, 10, 11, 14, 15, 16, 17, 29, 30, 31, 65, 66]) .skip))))) .skip)) (.seq (.reg [⟨some 67, .move (.tmp 0), none, []⟩,
  ⟨some 68, .move (.tmp 0), none, []⟩,
  ⟨some 69, .nilCheck (.tmp 68), none, []⟩,
  ⟨some 70, .fieldAddr 70 (.tmp 69) 3, none, []⟩,
  ⟨some 71, .load 23 (.tmp 70), none, []⟩,
  ⟨some 72, .move (.tmp 3), none, []⟩,
  ⟨some 73, .buildSlice 23 1 #[(0, .tmp 72)], none, []⟩,
  ⟨some 74, .call { callee := .builtin .append, args := #[.tmp 71, .tmp 73], argTypes := #[23, 23] }, none, []⟩,
  ⟨some 75, .nilCheck (.tmp 67), none, []⟩,
  ⟨some 76, .fieldAddr 70 (.tmp 75) 3, none, []⟩,
  ⟨none, .store 23 (.tmp 76) (.tmp 74), none, []⟩] [0, 3, 5, 14, 15, 16, 17, 29, 30, 31, 65]) (.seq (.reg [⟨some 77, .move (.tmp 0), none, [81, 82, 83, 84, 85, 86]⟩,
  ⟨some 78, .nilCheck (.tmp 77), none, [81, 82, 83, 84, 85, 86]⟩,
  ⟨some 79, .fieldAddr 70 (.tmp 78) 4, none, [81, 82, 83, 84, 85, 86]⟩,
  ⟨some 80, .load 68 (.tmp 79), none, [81, 82, 83, 84, 85, 86]⟩,
  ⟨some 81, .move (.tmp 0), none, [77, 78, 79, 80, 85]⟩,
  ⟨some 82, .nilCheck (.tmp 81), none, [77, 78, 79, 80, 85]⟩,
  ⟨some 83, .fieldAddr 70 (.tmp 82) 2, none, [77, 78, 79, 80, 85]⟩,
  ⟨some 84, .load 66 (.tmp 83), none, [77, 78, 79, 80, 85]⟩,
  ⟨some 85, .move (.tmp 3), none, [77, 78, 79, 80, 81, 82, 83, 84]⟩,
  ⟨some 86, .call { callee := .value (.tmp 84), args := #[.tmp 85], argTypes := #[3] }, none, [77, 78, 79, 80]⟩,
  ⟨some 87, .lookup 68 (.tmp 80) (.tmp 86) false, none, []⟩,
  ⟨some 88, .binOp .add 3 (.tmp 87) (.const (.int .i64 1)) 3, none, []⟩,
  ⟨none, .mapUpdate 68 (.tmp 80) (.tmp 86) (.tmp 88), none, []⟩] [0, 3, 5, 14, 15, 16, 17, 29, 30, 31, 65]) (.seq (.reg [⟨some 89, .move (.tmp 3), none, []⟩,
  ⟨some 2, .assign (.tmp 89), none, []⟩] [0, 2, 3, 5, 14, 15, 16, 17, 29, 30, 31, 65, 89]) .ret)))))))
theorem s30 : TextK Proofs.Tryd.prog 1 30 90 [ResultVar.tmp 2] c30 := .mk' Proofs.Tryd.f30 _ (by kernel_rfl) rfl rfl rfl (by kernel_rfl) rfl (by kernel_rfl)
@[simp] theorem mapSI : mapTy Proofs.Tryd.prog 68 = some (.string, .int .i64 0) := by kernel_rfl
def mE (l : List (ByteArray × Int)) : List (Value × Value) := l.map fun e => (.string e.1, .int .i64 e.2)
theorem findP_mE (s : ByteArray) : ∀ (l : List (ByteArray × Int)) (i : Nat), ∃ f, findP .string (.string s) (mE l) i = some f ∧ (f.map (·.2)).getD (.int .i64 0) = .int .i64 (getM l s) ∧
    ∀ n, (match f with | some (j, _) => (mE l).modify (j - i) (fun _ => (.string s, .int .i64 n)) | none => mE l ++ [(.string s, .int .i64 n)]) = mE (putM l s n) ∧ (∀ j v, f = some (j, v) → i ≤ j) := by
  intro l
  induction l with
  | nil => intro i; exact ⟨none, rfl, rfl, fun n => ⟨rfl, by simp⟩⟩
  | cons e l ih =>
    intro i
    by_cases h : (s == e.1) = true
    · refine ⟨some (i, .int .i64 e.2), ?_, ?_, fun n => ⟨?_, ?_⟩⟩
      · simp [findP, mE, Instr.sameNow, h]
      · simp [getM, h]
      · simp only [Nat.sub_self, putM, h, if_true, mE, List.map_cons, List.modify_zero_cons]
      · rintro j v hj; cases hj; exact Nat.le_refl _
    · have h' : (s == e.1) = false := by simpa using h
      obtain ⟨f, h1, h2, h3⟩ := ih (i + 1)
      refine ⟨f, ?_, ?_, fun n => ⟨?_, fun j v hj => by have := (h3 n).2 j v hj; omega⟩⟩
      · simp only [mE, List.map_cons, findP, Instr.sameNow, h']
        exact h1
      · simp only [getM, h', Bool.false_eq_true, if_false]; exact h2
      · have h4 := (h3 n).1
        have h5 := (h3 n).2
        simp only [putM, h', Bool.false_eq_true, if_false]
        cases f with
        | none => simp only [mE, List.map_cons, List.cons_append] at h4 ⊢; rw [h4]
        | some z =>
          obtain ⟨j, v⟩ := z
          have hj := h5 j v rfl
          obtain ⟨t, rfl⟩ : ∃ t, j = i + 1 + t := ⟨j - (i + 1), by omega⟩
          have e1 : i + 1 + t - (i + 1) = t := by omega
          have e2 : i + 1 + t - i = t + 1 := by omega
          simp only [e1, mE, List.map_cons] at h4
          simp only [e2, mE, List.map_cons, List.modify_succ_cons, h4]
theorem map_ask (l : List (ByteArray × Int)) (s : ByteArray) : ∃ f, findP .string (.string s) (mE l) 0 = some f ∧ (f.map (·.2)).getD (.int .i64 0) = .int .i64 (getM l s) ∧ ∀ n, mput (mE l) (.string s) (.int .i64 n) f = mE (putM l s n) := by
  obtain ⟨f, h1, h2, h3⟩ := findP_mE s l 0
  refine ⟨f, h1, h2, fun n => ?_⟩
  have := (h3 n).1
  rw [← this]
  cases f with
  | none => rfl
  | some z => rfl
def encCh (m : Image) (order : List Int) (c : Ch) : List V := [Li order, I c.at', .clo 27 [.ip (encM m).cells 0], .uq (c.taken.map I), .mp (mE c.met)]
@[simp] theorem encCh_eq (m : Image) (order : List Int) (c : Ch) : encCh m order c = [Li order, I c.at', .clo 27 [.ip (encM m).cells 0], .uq (c.taken.map I), .mp (mE c.met)] := rfl
theorem next_ok (m : Image) (order : List Int) (c : Ch) (hb : m.brokers.length ≤ 100) (hol : order.length ≤ 1000) (hor : ∀ id ∈ order, 0 < id ∧ (m.broker id).isSome = true) (hx : ∃ id ∈ order, id ∉ c.taken) (hat : c.at' ≤ 4294967296) (htl : c.taken.length ≤ 1000)
    (hmt : ∀ s, 0 ≤ getM c.met s ∧ getM c.met s ≤ 1000) : ACallM pg 30 [.own (encCh m order c)] [] (I (bestB m order c)) [.own (encCh m order (nextC m order c))] := by
  refine s30.callM (os := [.own (encCh m order c)]) mo (by simp) fun ho hx => ?_
  clear ho hx
  unfold c30
  have hne : order ≠ [] := by obtain ⟨id, h, _⟩ := hx; exact List.ne_nil_of_mem h
  have hln : 0 < order.length := List.length_pos_iff.2 hne
  obtain ⟨hb1, hb2, hb3⟩ := bestB_ok (m := m) (fun id h => (hor id h).1) hx
  repeat' first
      | (with_reducible first | refine thN ?_ | refine thR ?_ | refine thE ?_ | refine inN ?_ | refine inR ?_ | refine inH ?_ | refine fF ?_ | refine fS ?_ | refine fR ?_ | refine fQ ?_ | refine fC ?_ | refine fB ?_ | refine fL ?_ | refine fE ?_ | refine fT ?_ | refine awBlock ?_ | refine awExit ?_ | refine awRet ?_ | refine awSkip ?_ | refine inM (by decide) ?_)
      | ((with_reducible refine awReg fun K hok hK => ?_); clear hok; (try simp (maxSteps := 10000000) (disch := first | omega | simp) []); (repeat' first
          | (with_reducible refine hK _ (by simp) ?_)
          | ((with_reducible refine gdT (fun h => ?_) (fun h => ?_)) <;> (simp (maxSteps := 10000000) (disch := first | omega | simp) [h]; (try simp at h); (try (exfalso; omega))))
          | ((with_reducible refine gdF (fun h => ?_) (fun h => ?_)) <;> (simp (maxSteps := 10000000) (disch := first | omega | simp) [h]; (try simp at h); (try (exfalso; omega))))
          | ((with_reducible refine sideSt' fun K2 hK2 => ?_); (try simp (maxSteps := 10000000) (disch := first | omega | simp) []); refine hK2 _ ?_; clear hK2 K2; (try simp (maxSteps := 10000000) (disch := first | omega | simp) []))
          | ((with_reducible refine gdU ?_); (try simp (maxSteps := 10000000) (disch := first | omega | simp) []))
          | ((with_reducible refine sideQ' ?_ ?_ fun K2 hK2 => ?_); exact rfl; exact rfl; (try simp (maxSteps := 10000000) (disch := first | omega | simp) []); with_reducible refine hK2 _ _ ?_; clear hK2 K2; (try simp (maxSteps := 10000000) (disch := first | omega | simp) []))
          | ((with_reducible refine side' ?_ fun K2 hK2 => ?_); exact rfl; (try simp (maxSteps := 10000000) (disch := first | omega | simp) []); refine hK2 _ _ (by simp) ?_; clear hK2 K2; (try simp (maxSteps := 10000000) (disch := first | omega | simp) []))) <;> clear hK K)
      | ((with_reducible refine awCond fun A B hA hB => ?_); simp (maxSteps := 10000000) (disch := first | omega | simp) []; (first | refine ⟨fun h => hA ?_, fun h => hB ?_⟩ | refine hA ?_ | refine hB ?_) <;> (clear hA hB A B; (try (exfalso; omega))))
  refine awFor order.length (fun k (s : Int) => ((List.range order.length).drop k).foldl (stepB m order c) s = bestB m order c ∧ (s = -1 ∨ s ∈ order)) (fun k s => [(11, .p (I k)), (10, .p (I order.length)), (3, .p (I s)), (0, .p (.own (encCh m order c)))]) (-1) (Wk.ofA (by simp)) ⟨rfl, .inl rfl⟩ fun k s hk hs => ?_
  obtain ⟨hs, hso⟩ := hs
  by_cases hlt : k < order.length
  · rw [drop_cons (show k < (List.range order.length).length by simpa using hlt)] at hs
    simp only [List.getElem_range, List.foldl_cons] at hs
    have hid := nth_mem hne (c.at' + k)
    have hido := hor _ hid
    have hmod := Nat.mod_lt (c.at' + k) hln
    have hget : order[(c.at' + k) % order.length] = nth order (c.at' + k) := by
      unfold nth
      rw [List.getD_eq_getElem?_getD, List.getElem?_eq_getElem hmod]; rfl
    have htm : ((c.at' : Int) + k).tmod (order.length : Int) = (((c.at' + k) % order.length : Nat) : Int) := rfl
    generalize (c.at' + k) % order.length = j at hmod hget htm
    have hcn := contains_ok c.taken (nth order (c.at' + k)) (by omega)
    have as1 := assign1_ok m (nth order (c.at' + k)) hb hido.2
    obtain ⟨f1, a1, a2, _⟩ := map_ask c.met (rackOf m (nth order (c.at' + k)))
    have hst : stepB m order c s k = if c.taken.contains (nth order (c.at' + k)) then s else if s < 0 ∨ getM c.met (rackOf m (nth order (c.at' + k))) < getM c.met (rackOf m s) then nth order (c.at' + k) else s := rfl
    rw [hst] at hs
    clear hst
    generalize nth order (c.at' + k) = id at *
    cases hct : c.taken.contains id with
    | true =>
      rw [hct] at hs hcn
      simp only [if_true] at hs
      repeat' first
          | (with_reducible first | refine thN ?_ | refine thR ?_ | refine thE ?_ | refine inN ?_ | refine inR ?_ | refine inH ?_ | refine fF ?_ | refine fS ?_ | refine fR ?_ | refine fQ ?_ | refine fC ?_ | refine fB ?_ | refine fL ?_ | refine fE ?_ | refine fT ?_ | refine awBlock ?_ | refine awExit ?_ | refine awRet ?_ | refine awSkip ?_ | refine inM (by decide) ?_)
          | ((with_reducible refine awReg fun K hok hK => ?_); clear hok; (try simp (maxSteps := 10000000) (disch := first | omega | simp) [hne, htm, hget, hmod, hlt]); (repeat' first
              | (with_reducible refine hK _ (by simp) ?_)
              | ((with_reducible refine gdT (fun h => ?_) (fun h => ?_)) <;> (simp (maxSteps := 10000000) (disch := first | omega | simp) [h, hne, htm, hget, hmod, hlt]; (try simp at h); (try (exfalso; omega))))
              | ((with_reducible refine gdF (fun h => ?_) (fun h => ?_)) <;> (simp (maxSteps := 10000000) (disch := first | omega | simp) [h, hne, htm, hget, hmod, hlt]; (try simp at h); (try (exfalso; omega))))
              | ((with_reducible refine callS' fun K2 hK2 => ?_); (try simp (maxSteps := 10000000) (disch := first | omega | simp) [hne, htm, hget, hmod, hlt]); (first | (refine hK2 _ _ (hcn) rfl fun hk9 => ?_; clear hk9)); clear hK2 K2; (try simp (maxSteps := 10000000) (disch := first | omega | simp) [hne, htm, hget, hmod, hlt]))
              | ((with_reducible refine callF' fun K2 hK2 => ?_); (try simp (maxSteps := 10000000) (disch := first | omega | simp) [hne, htm, hget, hmod, hlt]); (first | refine hK2 _ _ _ (hcn) fun _ => ?_); clear hK2 K2; (try simp (maxSteps := 10000000) (disch := first | omega | simp) [hne, htm, hget, hmod, hlt]))
              | ((with_reducible refine sideS' fun K2 hK2 => ?_); (try simp (maxSteps := 10000000) (disch := first | omega | simp) [hne, htm, hget, hmod, hlt]); (first | refine hK2 _ _ (hcn) rfl ?_); clear hK2 K2; (try simp (maxSteps := 10000000) (disch := first | omega | simp) [hne, htm, hget, hmod, hlt]))
              | ((with_reducible refine sideF' fun K2 hK2 => ?_); (try simp (maxSteps := 10000000) (disch := first | omega | simp) [hne, htm, hget, hmod, hlt]); (first | refine hK2 _ _ _ (hcn) (by simp) ?_); clear hK2 K2; (try simp (maxSteps := 10000000) (disch := first | omega | simp) [hne, htm, hget, hmod, hlt]))
              | ((with_reducible refine callCS' fun K2 hK2 => ?_); (try simp (maxSteps := 10000000) (disch := first | omega | simp) [hne, htm, hget, hmod, hlt]); (first | (refine hK2 _ _ _ _ (hcn) rfl fun hk9 => ?_; clear hk9)); clear hK2 K2; (try simp (maxSteps := 10000000) (disch := first | omega | simp) [hne, htm, hget, hmod, hlt]))
              | ((with_reducible refine callC' fun K2 hK2 => ?_); (try simp (maxSteps := 10000000) (disch := first | omega | simp) [hne, htm, hget, hmod, hlt]); (first | refine hK2 _ _ _ _ _ (hcn) fun _ => ?_); clear hK2 K2; (try simp (maxSteps := 10000000) (disch := first | omega | simp) [hne, htm, hget, hmod, hlt]))
              | ((with_reducible refine sideCS' fun K2 hK2 => ?_); (try simp (maxSteps := 10000000) (disch := first | omega | simp) [hne, htm, hget, hmod, hlt]); (first | refine hK2 _ _ _ _ (hcn) rfl ?_); clear hK2 K2; (try simp (maxSteps := 10000000) (disch := first | omega | simp) [hne, htm, hget, hmod, hlt]))
              | ((with_reducible refine callM' rfl fun K2 hK2 => ?_); (try simp (maxSteps := 10000000) (disch := first | omega | simp) [hne, htm, hget, hmod, hlt]); (first | refine hK2 _ _ _ _ _ _ _ (hcn) rfl fun _ _ => ?_); clear hK2 K2; (try simp (maxSteps := 10000000) (disch := first | omega | simp) [hne, htm, hget, hmod, hlt]))
              | ((with_reducible refine callT' rfl fun K2 hK2 => ?_); (try simp (maxSteps := 10000000) (disch := first | omega | simp) [hne, htm, hget, hmod, hlt]); (first | refine hK2 _ _ _ _ _ (hcn) fun _ => ?_); clear hK2 K2; (try simp (maxSteps := 10000000) (disch := first | omega | simp) [hne, htm, hget, hmod, hlt]))
              | ((with_reducible refine sideSt' fun K2 hK2 => ?_); (try simp (maxSteps := 10000000) (disch := first | omega | simp) [hne, htm, hget, hmod, hlt]); refine hK2 _ ?_; clear hK2 K2; (try simp (maxSteps := 10000000) (disch := first | omega | simp) [hne, htm, hget, hmod, hlt]))
              | ((with_reducible refine gdU ?_); (try simp (maxSteps := 10000000) (disch := first | omega | simp) [hne, htm, hget, hmod, hlt]))
              | ((with_reducible refine sideQ' ?_ ?_ fun K2 hK2 => ?_); exact rfl; exact rfl; (try simp (maxSteps := 10000000) (disch := first | omega | simp) [hne, htm, hget, hmod, hlt]); with_reducible refine hK2 _ _ ?_; clear hK2 K2; (try simp (maxSteps := 10000000) (disch := first | omega | simp) [hne, htm, hget, hmod, hlt]))
              | ((with_reducible refine side' ?_ fun K2 hK2 => ?_); exact rfl; (try simp (maxSteps := 10000000) (disch := first | omega | simp) [hne, htm, hget, hmod, hlt]); refine hK2 _ _ (by simp) ?_; clear hK2 K2; (try simp (maxSteps := 10000000) (disch := first | omega | simp) [hne, htm, hget, hmod, hlt]))) <;> clear hK K)
          | ((with_reducible refine awCond fun A B hA hB => ?_); simp (maxSteps := 10000000) (disch := first | omega | simp) [hne, htm, hget, hmod, hlt]; (first | refine ⟨fun h => hA ?_, fun h => hB ?_⟩ | refine hA ?_ | refine hB ?_) <;> (clear hA hB A B; (try (exfalso; omega))))
      (refine ⟨?_, s, ?_, Wk.ofA ?_⟩; assumption; rotate_left; focus (simp []; done))
      exact ⟨hs, hso⟩
    | false =>
      rw [hct] at hs hcn
      simp only [Bool.false_eq_true, if_false] at hs
      rcases hso with rfl | hso
      · rw [if_pos (.inl (by omega))] at hs
        repeat' first
            | (with_reducible first | refine thN ?_ | refine thR ?_ | refine thE ?_ | refine inN ?_ | refine inR ?_ | refine inH ?_ | refine fF ?_ | refine fS ?_ | refine fR ?_ | refine fQ ?_ | refine fC ?_ | refine fB ?_ | refine fL ?_ | refine fE ?_ | refine fT ?_ | refine awBlock ?_ | refine awExit ?_ | refine awRet ?_ | refine awSkip ?_ | refine inM (by decide) ?_)
            | ((with_reducible refine awReg fun K hok hK => ?_); clear hok; (try simp (maxSteps := 10000000) (disch := first | omega | simp) [hne, htm, hget, hmod, hlt]); (repeat' first
                | (with_reducible refine hK _ (by simp) ?_)
                | ((with_reducible refine gdT (fun h => ?_) (fun h => ?_)) <;> (simp (maxSteps := 10000000) (disch := first | omega | simp) [h, hne, htm, hget, hmod, hlt]; (try simp at h); (try (exfalso; omega))))
                | ((with_reducible refine gdF (fun h => ?_) (fun h => ?_)) <;> (simp (maxSteps := 10000000) (disch := first | omega | simp) [h, hne, htm, hget, hmod, hlt]; (try simp at h); (try (exfalso; omega))))
                | ((with_reducible refine callS' fun K2 hK2 => ?_); (try simp (maxSteps := 10000000) (disch := first | omega | simp) [hne, htm, hget, hmod, hlt]); (first | (refine hK2 _ _ (hcn) rfl fun hk9 => ?_; clear hk9)); clear hK2 K2; (try simp (maxSteps := 10000000) (disch := first | omega | simp) [hne, htm, hget, hmod, hlt]))
                | ((with_reducible refine callF' fun K2 hK2 => ?_); (try simp (maxSteps := 10000000) (disch := first | omega | simp) [hne, htm, hget, hmod, hlt]); (first | refine hK2 _ _ _ (hcn) fun _ => ?_); clear hK2 K2; (try simp (maxSteps := 10000000) (disch := first | omega | simp) [hne, htm, hget, hmod, hlt]))
                | ((with_reducible refine sideS' fun K2 hK2 => ?_); (try simp (maxSteps := 10000000) (disch := first | omega | simp) [hne, htm, hget, hmod, hlt]); (first | refine hK2 _ _ (hcn) rfl ?_); clear hK2 K2; (try simp (maxSteps := 10000000) (disch := first | omega | simp) [hne, htm, hget, hmod, hlt]))
                | ((with_reducible refine sideF' fun K2 hK2 => ?_); (try simp (maxSteps := 10000000) (disch := first | omega | simp) [hne, htm, hget, hmod, hlt]); (first | refine hK2 _ _ _ (hcn) (by simp) ?_); clear hK2 K2; (try simp (maxSteps := 10000000) (disch := first | omega | simp) [hne, htm, hget, hmod, hlt]))
                | ((with_reducible refine callCS' fun K2 hK2 => ?_); (try simp (maxSteps := 10000000) (disch := first | omega | simp) [hne, htm, hget, hmod, hlt]); (first | (refine hK2 _ _ _ _ (hcn) rfl fun hk9 => ?_; clear hk9)); clear hK2 K2; (try simp (maxSteps := 10000000) (disch := first | omega | simp) [hne, htm, hget, hmod, hlt]))
                | ((with_reducible refine callC' fun K2 hK2 => ?_); (try simp (maxSteps := 10000000) (disch := first | omega | simp) [hne, htm, hget, hmod, hlt]); (first | refine hK2 _ _ _ _ _ (hcn) fun _ => ?_); clear hK2 K2; (try simp (maxSteps := 10000000) (disch := first | omega | simp) [hne, htm, hget, hmod, hlt]))
                | ((with_reducible refine sideCS' fun K2 hK2 => ?_); (try simp (maxSteps := 10000000) (disch := first | omega | simp) [hne, htm, hget, hmod, hlt]); (first | refine hK2 _ _ _ _ (hcn) rfl ?_); clear hK2 K2; (try simp (maxSteps := 10000000) (disch := first | omega | simp) [hne, htm, hget, hmod, hlt]))
                | ((with_reducible refine callM' rfl fun K2 hK2 => ?_); (try simp (maxSteps := 10000000) (disch := first | omega | simp) [hne, htm, hget, hmod, hlt]); (first | refine hK2 _ _ _ _ _ _ _ (hcn) rfl fun _ _ => ?_); clear hK2 K2; (try simp (maxSteps := 10000000) (disch := first | omega | simp) [hne, htm, hget, hmod, hlt]))
                | ((with_reducible refine callT' rfl fun K2 hK2 => ?_); (try simp (maxSteps := 10000000) (disch := first | omega | simp) [hne, htm, hget, hmod, hlt]); (first | refine hK2 _ _ _ _ _ (hcn) fun _ => ?_); clear hK2 K2; (try simp (maxSteps := 10000000) (disch := first | omega | simp) [hne, htm, hget, hmod, hlt]))
                | ((with_reducible refine sideSt' fun K2 hK2 => ?_); (try simp (maxSteps := 10000000) (disch := first | omega | simp) [hne, htm, hget, hmod, hlt]); refine hK2 _ ?_; clear hK2 K2; (try simp (maxSteps := 10000000) (disch := first | omega | simp) [hne, htm, hget, hmod, hlt]))
                | ((with_reducible refine gdU ?_); (try simp (maxSteps := 10000000) (disch := first | omega | simp) [hne, htm, hget, hmod, hlt]))
                | ((with_reducible refine sideQ' ?_ ?_ fun K2 hK2 => ?_); exact rfl; exact rfl; (try simp (maxSteps := 10000000) (disch := first | omega | simp) [hne, htm, hget, hmod, hlt]); with_reducible refine hK2 _ _ ?_; clear hK2 K2; (try simp (maxSteps := 10000000) (disch := first | omega | simp) [hne, htm, hget, hmod, hlt]))
                | ((with_reducible refine side' ?_ fun K2 hK2 => ?_); exact rfl; (try simp (maxSteps := 10000000) (disch := first | omega | simp) [hne, htm, hget, hmod, hlt]); refine hK2 _ _ (by simp) ?_; clear hK2 K2; (try simp (maxSteps := 10000000) (disch := first | omega | simp) [hne, htm, hget, hmod, hlt]))) <;> clear hK K)
            | ((with_reducible refine awCond fun A B hA hB => ?_); simp (maxSteps := 10000000) (disch := first | omega | simp) [hne, htm, hget, hmod, hlt]; (first | refine ⟨fun h => hA ?_, fun h => hB ?_⟩ | refine hA ?_ | refine hB ?_) <;> (clear hA hB A B; (try (exfalso; omega))))
        (refine ⟨?_, id, ?_, Wk.ofA ?_⟩; assumption; rotate_left; focus (simp []; done))
        exact ⟨hs, .inr hid⟩
      · have hs0 := hor s hso
        have as2 := assign1_ok m s hb hs0.2
        obtain ⟨f2, b1, b2, _⟩ := map_ask c.met (rackOf m s)
        have hn0 : ¬ s < 0 := by omega
        by_cases hc2 : getM c.met (rackOf m id) < getM c.met (rackOf m s)
        · rw [if_pos (.inr hc2)] at hs
          repeat' first
              | (with_reducible first | refine thN ?_ | refine thR ?_ | refine thE ?_ | refine inN ?_ | refine inR ?_ | refine inH ?_ | refine fF ?_ | refine fS ?_ | refine fR ?_ | refine fQ ?_ | refine fC ?_ | refine fB ?_ | refine fL ?_ | refine fE ?_ | refine fT ?_ | refine awBlock ?_ | refine awExit ?_ | refine awRet ?_ | refine awSkip ?_ | refine inM (by decide) ?_)
              | ((with_reducible refine awReg fun K hok hK => ?_); clear hok; (try simp (maxSteps := 10000000) (disch := first | omega | simp) [hne, htm, hget, hmod, hlt, a1, a2, b1, b2, hn0, hc2]); (repeat' first
                  | (with_reducible refine hK _ (by simp) ?_)
                  | ((with_reducible refine gdT (fun h => ?_) (fun h => ?_)) <;> (simp (maxSteps := 10000000) (disch := first | omega | simp) [h, hne, htm, hget, hmod, hlt, a1, a2, b1, b2, hn0, hc2]; (try simp at h); (try (exfalso; omega))))
                  | ((with_reducible refine gdF (fun h => ?_) (fun h => ?_)) <;> (simp (maxSteps := 10000000) (disch := first | omega | simp) [h, hne, htm, hget, hmod, hlt, a1, a2, b1, b2, hn0, hc2]; (try simp at h); (try (exfalso; omega))))
                  | ((with_reducible refine callS' fun K2 hK2 => ?_); (try simp (maxSteps := 10000000) (disch := first | omega | simp) [hne, htm, hget, hmod, hlt, a1, a2, b1, b2, hn0, hc2]); (first | (refine hK2 _ _ (hcn) rfl fun hk9 => ?_; clear hk9) | (refine hK2 _ _ (as1) rfl fun hk9 => ?_; clear hk9) | (refine hK2 _ _ (as2) rfl fun hk9 => ?_; clear hk9)); clear hK2 K2; (try simp (maxSteps := 10000000) (disch := first | omega | simp) [hne, htm, hget, hmod, hlt, a1, a2, b1, b2, hn0, hc2]))
                  | ((with_reducible refine callF' fun K2 hK2 => ?_); (try simp (maxSteps := 10000000) (disch := first | omega | simp) [hne, htm, hget, hmod, hlt, a1, a2, b1, b2, hn0, hc2]); (first | refine hK2 _ _ _ (hcn) fun _ => ?_ | refine hK2 _ _ _ (as1) fun _ => ?_ | refine hK2 _ _ _ (as2) fun _ => ?_); clear hK2 K2; (try simp (maxSteps := 10000000) (disch := first | omega | simp) [hne, htm, hget, hmod, hlt, a1, a2, b1, b2, hn0, hc2]))
                  | ((with_reducible refine sideS' fun K2 hK2 => ?_); (try simp (maxSteps := 10000000) (disch := first | omega | simp) [hne, htm, hget, hmod, hlt, a1, a2, b1, b2, hn0, hc2]); (first | refine hK2 _ _ (hcn) rfl ?_ | refine hK2 _ _ (as1) rfl ?_ | refine hK2 _ _ (as2) rfl ?_); clear hK2 K2; (try simp (maxSteps := 10000000) (disch := first | omega | simp) [hne, htm, hget, hmod, hlt, a1, a2, b1, b2, hn0, hc2]))
                  | ((with_reducible refine sideF' fun K2 hK2 => ?_); (try simp (maxSteps := 10000000) (disch := first | omega | simp) [hne, htm, hget, hmod, hlt, a1, a2, b1, b2, hn0, hc2]); (first | refine hK2 _ _ _ (hcn) (by simp) ?_ | refine hK2 _ _ _ (as1) (by simp) ?_ | refine hK2 _ _ _ (as2) (by simp) ?_); clear hK2 K2; (try simp (maxSteps := 10000000) (disch := first | omega | simp) [hne, htm, hget, hmod, hlt, a1, a2, b1, b2, hn0, hc2]))
                  | ((with_reducible refine callCS' fun K2 hK2 => ?_); (try simp (maxSteps := 10000000) (disch := first | omega | simp) [hne, htm, hget, hmod, hlt, a1, a2, b1, b2, hn0, hc2]); (first | (refine hK2 _ _ _ _ (hcn) rfl fun hk9 => ?_; clear hk9) | (refine hK2 _ _ _ _ (as1) rfl fun hk9 => ?_; clear hk9) | (refine hK2 _ _ _ _ (as2) rfl fun hk9 => ?_; clear hk9)); clear hK2 K2; (try simp (maxSteps := 10000000) (disch := first | omega | simp) [hne, htm, hget, hmod, hlt, a1, a2, b1, b2, hn0, hc2]))
                  | ((with_reducible refine callC' fun K2 hK2 => ?_); (try simp (maxSteps := 10000000) (disch := first | omega | simp) [hne, htm, hget, hmod, hlt, a1, a2, b1, b2, hn0, hc2]); (first | refine hK2 _ _ _ _ _ (hcn) fun _ => ?_ | refine hK2 _ _ _ _ _ (as1) fun _ => ?_ | refine hK2 _ _ _ _ _ (as2) fun _ => ?_); clear hK2 K2; (try simp (maxSteps := 10000000) (disch := first | omega | simp) [hne, htm, hget, hmod, hlt, a1, a2, b1, b2, hn0, hc2]))
                  | ((with_reducible refine sideCS' fun K2 hK2 => ?_); (try simp (maxSteps := 10000000) (disch := first | omega | simp) [hne, htm, hget, hmod, hlt, a1, a2, b1, b2, hn0, hc2]); (first | refine hK2 _ _ _ _ (hcn) rfl ?_ | refine hK2 _ _ _ _ (as1) rfl ?_ | refine hK2 _ _ _ _ (as2) rfl ?_); clear hK2 K2; (try simp (maxSteps := 10000000) (disch := first | omega | simp) [hne, htm, hget, hmod, hlt, a1, a2, b1, b2, hn0, hc2]))
                  | ((with_reducible refine callM' rfl fun K2 hK2 => ?_); (try simp (maxSteps := 10000000) (disch := first | omega | simp) [hne, htm, hget, hmod, hlt, a1, a2, b1, b2, hn0, hc2]); (first | refine hK2 _ _ _ _ _ _ _ (hcn) rfl fun _ _ => ?_ | refine hK2 _ _ _ _ _ _ _ (as1) rfl fun _ _ => ?_ | refine hK2 _ _ _ _ _ _ _ (as2) rfl fun _ _ => ?_); clear hK2 K2; (try simp (maxSteps := 10000000) (disch := first | omega | simp) [hne, htm, hget, hmod, hlt, a1, a2, b1, b2, hn0, hc2]))
                  | ((with_reducible refine callT' rfl fun K2 hK2 => ?_); (try simp (maxSteps := 10000000) (disch := first | omega | simp) [hne, htm, hget, hmod, hlt, a1, a2, b1, b2, hn0, hc2]); (first | refine hK2 _ _ _ _ _ (hcn) fun _ => ?_ | refine hK2 _ _ _ _ _ (as1) fun _ => ?_ | refine hK2 _ _ _ _ _ (as2) fun _ => ?_); clear hK2 K2; (try simp (maxSteps := 10000000) (disch := first | omega | simp) [hne, htm, hget, hmod, hlt, a1, a2, b1, b2, hn0, hc2]))
                  | ((with_reducible refine sideSt' fun K2 hK2 => ?_); (try simp (maxSteps := 10000000) (disch := first | omega | simp) [hne, htm, hget, hmod, hlt, a1, a2, b1, b2, hn0, hc2]); refine hK2 _ ?_; clear hK2 K2; (try simp (maxSteps := 10000000) (disch := first | omega | simp) [hne, htm, hget, hmod, hlt, a1, a2, b1, b2, hn0, hc2]))
                  | ((with_reducible refine gdU ?_); (try simp (maxSteps := 10000000) (disch := first | omega | simp) [hne, htm, hget, hmod, hlt, a1, a2, b1, b2, hn0, hc2]))
                  | ((with_reducible refine sideQ' ?_ ?_ fun K2 hK2 => ?_); exact rfl; exact rfl; (try simp (maxSteps := 10000000) (disch := first | omega | simp) [hne, htm, hget, hmod, hlt, a1, a2, b1, b2, hn0, hc2]); with_reducible refine hK2 _ _ ?_; clear hK2 K2; (try simp (maxSteps := 10000000) (disch := first | omega | simp) [hne, htm, hget, hmod, hlt, a1, a2, b1, b2, hn0, hc2]))
                  | ((with_reducible refine side' ?_ fun K2 hK2 => ?_); exact rfl; (try simp (maxSteps := 10000000) (disch := first | omega | simp) [hne, htm, hget, hmod, hlt, a1, a2, b1, b2, hn0, hc2]); refine hK2 _ _ (by simp) ?_; clear hK2 K2; (try simp (maxSteps := 10000000) (disch := first | omega | simp) [hne, htm, hget, hmod, hlt, a1, a2, b1, b2, hn0, hc2]))) <;> clear hK K)
              | ((with_reducible refine awCond fun A B hA hB => ?_); simp (maxSteps := 10000000) (disch := first | omega | simp) [hne, htm, hget, hmod, hlt, a1, a2, b1, b2, hn0, hc2]; (first | refine ⟨fun h => hA ?_, fun h => hB ?_⟩ | refine hA ?_ | refine hB ?_) <;> (clear hA hB A B; (try (exfalso; omega))))
          (refine ⟨?_, id, ?_, Wk.ofA ?_⟩; assumption; rotate_left; focus (simp []; done))
          exact ⟨hs, .inr hid⟩
        · rw [if_neg (by omega)] at hs
          repeat' first
              | (with_reducible first | refine thN ?_ | refine thR ?_ | refine thE ?_ | refine inN ?_ | refine inR ?_ | refine inH ?_ | refine fF ?_ | refine fS ?_ | refine fR ?_ | refine fQ ?_ | refine fC ?_ | refine fB ?_ | refine fL ?_ | refine fE ?_ | refine fT ?_ | refine awBlock ?_ | refine awExit ?_ | refine awRet ?_ | refine awSkip ?_ | refine inM (by decide) ?_)
              | ((with_reducible refine awReg fun K hok hK => ?_); clear hok; (try simp (maxSteps := 10000000) (disch := first | omega | simp) [hne, htm, hget, hmod, hlt, a1, a2, b1, b2, hn0, hc2]); (repeat' first
                  | (with_reducible refine hK _ (by simp) ?_)
                  | ((with_reducible refine gdT (fun h => ?_) (fun h => ?_)) <;> (simp (maxSteps := 10000000) (disch := first | omega | simp) [h, hne, htm, hget, hmod, hlt, a1, a2, b1, b2, hn0, hc2]; (try simp at h); (try (exfalso; omega))))
                  | ((with_reducible refine gdF (fun h => ?_) (fun h => ?_)) <;> (simp (maxSteps := 10000000) (disch := first | omega | simp) [h, hne, htm, hget, hmod, hlt, a1, a2, b1, b2, hn0, hc2]; (try simp at h); (try (exfalso; omega))))
                  | ((with_reducible refine callS' fun K2 hK2 => ?_); (try simp (maxSteps := 10000000) (disch := first | omega | simp) [hne, htm, hget, hmod, hlt, a1, a2, b1, b2, hn0, hc2]); (first | (refine hK2 _ _ (hcn) rfl fun hk9 => ?_; clear hk9) | (refine hK2 _ _ (as1) rfl fun hk9 => ?_; clear hk9) | (refine hK2 _ _ (as2) rfl fun hk9 => ?_; clear hk9)); clear hK2 K2; (try simp (maxSteps := 10000000) (disch := first | omega | simp) [hne, htm, hget, hmod, hlt, a1, a2, b1, b2, hn0, hc2]))
                  | ((with_reducible refine callF' fun K2 hK2 => ?_); (try simp (maxSteps := 10000000) (disch := first | omega | simp) [hne, htm, hget, hmod, hlt, a1, a2, b1, b2, hn0, hc2]); (first | refine hK2 _ _ _ (hcn) fun _ => ?_ | refine hK2 _ _ _ (as1) fun _ => ?_ | refine hK2 _ _ _ (as2) fun _ => ?_); clear hK2 K2; (try simp (maxSteps := 10000000) (disch := first | omega | simp) [hne, htm, hget, hmod, hlt, a1, a2, b1, b2, hn0, hc2]))
                  | ((with_reducible refine sideS' fun K2 hK2 => ?_); (try simp (maxSteps := 10000000) (disch := first | omega | simp) [hne, htm, hget, hmod, hlt, a1, a2, b1, b2, hn0, hc2]); (first | refine hK2 _ _ (hcn) rfl ?_ | refine hK2 _ _ (as1) rfl ?_ | refine hK2 _ _ (as2) rfl ?_); clear hK2 K2; (try simp (maxSteps := 10000000) (disch := first | omega | simp) [hne, htm, hget, hmod, hlt, a1, a2, b1, b2, hn0, hc2]))
                  | ((with_reducible refine sideF' fun K2 hK2 => ?_); (try simp (maxSteps := 10000000) (disch := first | omega | simp) [hne, htm, hget, hmod, hlt, a1, a2, b1, b2, hn0, hc2]); (first | refine hK2 _ _ _ (hcn) (by simp) ?_ | refine hK2 _ _ _ (as1) (by simp) ?_ | refine hK2 _ _ _ (as2) (by simp) ?_); clear hK2 K2; (try simp (maxSteps := 10000000) (disch := first | omega | simp) [hne, htm, hget, hmod, hlt, a1, a2, b1, b2, hn0, hc2]))
                  | ((with_reducible refine callCS' fun K2 hK2 => ?_); (try simp (maxSteps := 10000000) (disch := first | omega | simp) [hne, htm, hget, hmod, hlt, a1, a2, b1, b2, hn0, hc2]); (first | (refine hK2 _ _ _ _ (hcn) rfl fun hk9 => ?_; clear hk9) | (refine hK2 _ _ _ _ (as1) rfl fun hk9 => ?_; clear hk9) | (refine hK2 _ _ _ _ (as2) rfl fun hk9 => ?_; clear hk9)); clear hK2 K2; (try simp (maxSteps := 10000000) (disch := first | omega | simp) [hne, htm, hget, hmod, hlt, a1, a2, b1, b2, hn0, hc2]))
                  | ((with_reducible refine callC' fun K2 hK2 => ?_); (try simp (maxSteps := 10000000) (disch := first | omega | simp) [hne, htm, hget, hmod, hlt, a1, a2, b1, b2, hn0, hc2]); (first | refine hK2 _ _ _ _ _ (hcn) fun _ => ?_ | refine hK2 _ _ _ _ _ (as1) fun _ => ?_ | refine hK2 _ _ _ _ _ (as2) fun _ => ?_); clear hK2 K2; (try simp (maxSteps := 10000000) (disch := first | omega | simp) [hne, htm, hget, hmod, hlt, a1, a2, b1, b2, hn0, hc2]))
                  | ((with_reducible refine sideCS' fun K2 hK2 => ?_); (try simp (maxSteps := 10000000) (disch := first | omega | simp) [hne, htm, hget, hmod, hlt, a1, a2, b1, b2, hn0, hc2]); (first | refine hK2 _ _ _ _ (hcn) rfl ?_ | refine hK2 _ _ _ _ (as1) rfl ?_ | refine hK2 _ _ _ _ (as2) rfl ?_); clear hK2 K2; (try simp (maxSteps := 10000000) (disch := first | omega | simp) [hne, htm, hget, hmod, hlt, a1, a2, b1, b2, hn0, hc2]))
                  | ((with_reducible refine callM' rfl fun K2 hK2 => ?_); (try simp (maxSteps := 10000000) (disch := first | omega | simp) [hne, htm, hget, hmod, hlt, a1, a2, b1, b2, hn0, hc2]); (first | refine hK2 _ _ _ _ _ _ _ (hcn) rfl fun _ _ => ?_ | refine hK2 _ _ _ _ _ _ _ (as1) rfl fun _ _ => ?_ | refine hK2 _ _ _ _ _ _ _ (as2) rfl fun _ _ => ?_); clear hK2 K2; (try simp (maxSteps := 10000000) (disch := first | omega | simp) [hne, htm, hget, hmod, hlt, a1, a2, b1, b2, hn0, hc2]))
                  | ((with_reducible refine callT' rfl fun K2 hK2 => ?_); (try simp (maxSteps := 10000000) (disch := first | omega | simp) [hne, htm, hget, hmod, hlt, a1, a2, b1, b2, hn0, hc2]); (first | refine hK2 _ _ _ _ _ (hcn) fun _ => ?_ | refine hK2 _ _ _ _ _ (as1) fun _ => ?_ | refine hK2 _ _ _ _ _ (as2) fun _ => ?_); clear hK2 K2; (try simp (maxSteps := 10000000) (disch := first | omega | simp) [hne, htm, hget, hmod, hlt, a1, a2, b1, b2, hn0, hc2]))
                  | ((with_reducible refine sideSt' fun K2 hK2 => ?_); (try simp (maxSteps := 10000000) (disch := first | omega | simp) [hne, htm, hget, hmod, hlt, a1, a2, b1, b2, hn0, hc2]); refine hK2 _ ?_; clear hK2 K2; (try simp (maxSteps := 10000000) (disch := first | omega | simp) [hne, htm, hget, hmod, hlt, a1, a2, b1, b2, hn0, hc2]))
                  | ((with_reducible refine gdU ?_); (try simp (maxSteps := 10000000) (disch := first | omega | simp) [hne, htm, hget, hmod, hlt, a1, a2, b1, b2, hn0, hc2]))
                  | ((with_reducible refine sideQ' ?_ ?_ fun K2 hK2 => ?_); exact rfl; exact rfl; (try simp (maxSteps := 10000000) (disch := first | omega | simp) [hne, htm, hget, hmod, hlt, a1, a2, b1, b2, hn0, hc2]); with_reducible refine hK2 _ _ ?_; clear hK2 K2; (try simp (maxSteps := 10000000) (disch := first | omega | simp) [hne, htm, hget, hmod, hlt, a1, a2, b1, b2, hn0, hc2]))
                  | ((with_reducible refine side' ?_ fun K2 hK2 => ?_); exact rfl; (try simp (maxSteps := 10000000) (disch := first | omega | simp) [hne, htm, hget, hmod, hlt, a1, a2, b1, b2, hn0, hc2]); refine hK2 _ _ (by simp) ?_; clear hK2 K2; (try simp (maxSteps := 10000000) (disch := first | omega | simp) [hne, htm, hget, hmod, hlt, a1, a2, b1, b2, hn0, hc2]))) <;> clear hK K)
              | ((with_reducible refine awCond fun A B hA hB => ?_); simp (maxSteps := 10000000) (disch := first | omega | simp) [hne, htm, hget, hmod, hlt, a1, a2, b1, b2, hn0, hc2]; (first | refine ⟨fun h => hA ?_, fun h => hB ?_⟩ | refine hA ?_ | refine hB ?_) <;> (clear hA hB A B; (try (exfalso; omega))))
          (refine ⟨?_, s, ?_, Wk.ofA ?_⟩; assumption; rotate_left; focus (simp []; done))
          exact ⟨hs, .inr hso⟩
  · have e : bestB m order c = s := by rw [drop_nil (by simp; omega)] at hs; exact hs.symm
    have hsb : s ∈ order := by rw [← e]; exact hb2
    have as1 := assign1_ok m s hb (hor s hsb).2
    obtain ⟨f1, a1, a2, a3⟩ := map_ask c.met (rackOf m s)
    have hmr := hmt (rackOf m s)
    have en : nextC m order c = ⟨c.at', c.taken ++ [s], putM c.met (rackOf m s) (getM c.met (rackOf m s) + 1)⟩ := by simp only [nextC, e]
    rw [en, e]
    repeat' first
        | (with_reducible first | refine thN ?_ | refine thR ?_ | refine thE ?_ | refine inN ?_ | refine inR ?_ | refine inH ?_ | refine fF ?_ | refine fS ?_ | refine fR ?_ | refine fQ ?_ | refine fC ?_ | refine fB ?_ | refine fL ?_ | refine fE ?_ | refine fT ?_ | refine awBlock ?_ | refine awExit ?_ | refine awRet ?_ | refine awSkip ?_ | refine inM (by decide) ?_)
        | ((with_reducible refine awReg fun K hok hK => ?_); clear hok; (try simp (maxSteps := 10000000) (disch := first | omega | simp) [a1, a2, a3]); (repeat' first
            | (with_reducible refine hK _ (by simp) ?_)
            | ((with_reducible refine gdT (fun h => ?_) (fun h => ?_)) <;> (simp (maxSteps := 10000000) (disch := first | omega | simp) [h, a1, a2, a3]; (try simp at h); (try (exfalso; omega))))
            | ((with_reducible refine gdF (fun h => ?_) (fun h => ?_)) <;> (simp (maxSteps := 10000000) (disch := first | omega | simp) [h, a1, a2, a3]; (try simp at h); (try (exfalso; omega))))
            | ((with_reducible refine callS' fun K2 hK2 => ?_); (try simp (maxSteps := 10000000) (disch := first | omega | simp) [a1, a2, a3]); (first | (refine hK2 _ _ (as1) rfl fun hk9 => ?_; clear hk9)); clear hK2 K2; (try simp (maxSteps := 10000000) (disch := first | omega | simp) [a1, a2, a3]))
            | ((with_reducible refine callF' fun K2 hK2 => ?_); (try simp (maxSteps := 10000000) (disch := first | omega | simp) [a1, a2, a3]); (first | refine hK2 _ _ _ (as1) fun _ => ?_); clear hK2 K2; (try simp (maxSteps := 10000000) (disch := first | omega | simp) [a1, a2, a3]))
            | ((with_reducible refine sideS' fun K2 hK2 => ?_); (try simp (maxSteps := 10000000) (disch := first | omega | simp) [a1, a2, a3]); (first | refine hK2 _ _ (as1) rfl ?_); clear hK2 K2; (try simp (maxSteps := 10000000) (disch := first | omega | simp) [a1, a2, a3]))
            | ((with_reducible refine sideF' fun K2 hK2 => ?_); (try simp (maxSteps := 10000000) (disch := first | omega | simp) [a1, a2, a3]); (first | refine hK2 _ _ _ (as1) (by simp) ?_); clear hK2 K2; (try simp (maxSteps := 10000000) (disch := first | omega | simp) [a1, a2, a3]))
            | ((with_reducible refine callCS' fun K2 hK2 => ?_); (try simp (maxSteps := 10000000) (disch := first | omega | simp) [a1, a2, a3]); (first | (refine hK2 _ _ _ _ (as1) rfl fun hk9 => ?_; clear hk9)); clear hK2 K2; (try simp (maxSteps := 10000000) (disch := first | omega | simp) [a1, a2, a3]))
            | ((with_reducible refine callC' fun K2 hK2 => ?_); (try simp (maxSteps := 10000000) (disch := first | omega | simp) [a1, a2, a3]); (first | refine hK2 _ _ _ _ _ (as1) fun _ => ?_); clear hK2 K2; (try simp (maxSteps := 10000000) (disch := first | omega | simp) [a1, a2, a3]))
            | ((with_reducible refine sideCS' fun K2 hK2 => ?_); (try simp (maxSteps := 10000000) (disch := first | omega | simp) [a1, a2, a3]); (first | refine hK2 _ _ _ _ (as1) rfl ?_); clear hK2 K2; (try simp (maxSteps := 10000000) (disch := first | omega | simp) [a1, a2, a3]))
            | ((with_reducible refine callM' rfl fun K2 hK2 => ?_); (try simp (maxSteps := 10000000) (disch := first | omega | simp) [a1, a2, a3]); (first | refine hK2 _ _ _ _ _ _ _ (as1) rfl fun _ _ => ?_); clear hK2 K2; (try simp (maxSteps := 10000000) (disch := first | omega | simp) [a1, a2, a3]))
            | ((with_reducible refine callT' rfl fun K2 hK2 => ?_); (try simp (maxSteps := 10000000) (disch := first | omega | simp) [a1, a2, a3]); (first | refine hK2 _ _ _ _ _ (as1) fun _ => ?_); clear hK2 K2; (try simp (maxSteps := 10000000) (disch := first | omega | simp) [a1, a2, a3]))
            | ((with_reducible refine sideSt' fun K2 hK2 => ?_); (try simp (maxSteps := 10000000) (disch := first | omega | simp) [a1, a2, a3]); refine hK2 _ ?_; clear hK2 K2; (try simp (maxSteps := 10000000) (disch := first | omega | simp) [a1, a2, a3]))
            | ((with_reducible refine gdU ?_); (try simp (maxSteps := 10000000) (disch := first | omega | simp) [a1, a2, a3]))
            | ((with_reducible refine sideQ' ?_ ?_ fun K2 hK2 => ?_); exact rfl; exact rfl; (try simp (maxSteps := 10000000) (disch := first | omega | simp) [a1, a2, a3]); with_reducible refine hK2 _ _ ?_; clear hK2 K2; (try simp (maxSteps := 10000000) (disch := first | omega | simp) [a1, a2, a3]))
            | ((with_reducible refine side' ?_ fun K2 hK2 => ?_); exact rfl; (try simp (maxSteps := 10000000) (disch := first | omega | simp) [a1, a2, a3]); refine hK2 _ _ (by simp) ?_; clear hK2 K2; (try simp (maxSteps := 10000000) (disch := first | omega | simp) [a1, a2, a3]))) <;> clear hK K)
        | ((with_reducible refine awCond fun A B hA hB => ?_); simp (maxSteps := 10000000) (disch := first | omega | simp) [a1, a2, a3]; (first | refine ⟨fun h => hA ?_, fun h => hB ?_⟩ | refine hA ?_ | refine hB ?_) <;> (clear hA hB A B; (try (exfalso; omega))))
    (refine aEnR (aRes [] fun K hK => ?_); simp (maxSteps := 10000000) (disch := first | omega | simp) []; refine hK _ ?_ (by simp); clear hK; first | done | (simp (maxSteps := 10000000) (disch := first | omega | simp) [*]; done) | (simp (maxSteps := 10000000) (disch := first | omega | simp) [*]; omega) | (simp_all []; done) | (simp_all []; omega))
end
end Go.Am
