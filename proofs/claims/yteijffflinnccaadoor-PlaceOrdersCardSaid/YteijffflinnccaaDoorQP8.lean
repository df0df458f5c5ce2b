/- Part of the proof of a law of placing. -/
import Derived.Test.YteijffflinnccaaDoorQP1
set_option linter.all false
set_option maxRecDepth 100000
set_option maxHeartbeats 0
namespace Go.Am
open Go
noncomputable section
def c6 : SC := (.seq (.reg [⟨some 2, .alloc 30, none, []⟩] [0, 2]) (.seq (.reg [⟨some 5, .build 30 #[], none, []⟩,
  ⟨some 3, .alloc 30, none, []⟩,
  ⟨none, .store 30 (.tmp 3) (.tmp 5), none, []⟩] [0, 2, 3]) (.seq (.reg [⟨some 4, .assign (.const (.int .i64 0)), none, []⟩] [0, 2, 3, 4, 15]) (.seq (.block 0 (.seq (.loop (.seq (.reg [⟨some 6, .move (.tmp 4), none, []⟩,
  ⟨some 7, .move (.tmp 0), none, []⟩,
  ⟨some 8, .call { callee := .builtin .len, args := #[.tmp 7], argTypes := #[22] }, none, []⟩,
  ⟨some 9, .binOp .lss 3 (.tmp 6) (.tmp 8) 3, none, []⟩,
  ⟨some 10, .move (.tmp 9), none, []⟩,
  ⟨some 11, .move (.tmp 4), (some (10, true)), []⟩,
  ⟨some 12, .binOp .lss 3 (.tmp 11) (.const (.int .i64 12)) 3, (some (10, true)), []⟩,
  ⟨some 13, .pick (.tmp 10) (.tmp 12) (.const (.bool false)), none, []⟩] [0, 2, 3, 4, 9, 10, 12, 13, 15]) (.seq (.cond (.tmp 13) .skip (.exit 0)) (.seq (.block 1 (.seq (.reg [⟨some 16, .fieldAddr 30 (.tmp 3) 0, none, [18, 19, 20, 21, 22, 23, 24, 25, 26, 27, 28, 29, 30, 31, 32, 33, 34, 35, 36, 37, 38, 39, 40, 41, 42, 43]⟩,
  ⟨some 17, .load 25 (.tmp 16), none, [18, 19, 20, 21, 22, 23, 24, 25, 26, 27, 28, 29, 30, 31, 32, 33, 34, 35, 36, 37, 38, 39, 40, 41, 42, 43]⟩,
  ⟨some 18, .move (.tmp 4), none, [16, 17, 20, 21, 22, 23, 24, 25, 26, 27, 28, 29, 30, 31, 32, 33, 34, 35, 36, 37, 38, 39, 40, 41]⟩,
  ⟨some 19, .binOp .add 3 (.tmp 18) (.const (.int .i64 1)) 3, none, [16, 17, 20, 21, 22, 23, 24, 25, 26, 27, 28, 29, 30, 31, 32, 33, 34, 35, 36, 37, 38, 39, 40, 41]⟩,
  ⟨some 20, .move (.tmp 0), none, [16, 17, 18, 19, 21, 28, 29, 30, 31, 32, 33, 34, 35, 36, 37, 38, 39, 40, 41]⟩,
  ⟨some 21, .move (.tmp 4), none, [16, 17, 18, 19, 20, 28, 29, 30, 31, 32, 33, 34, 35, 36, 37, 38, 39, 40, 41]⟩,
  ⟨some 22, .indexAddr 22 (.tmp 20) (.tmp 21), none, [16, 17, 18, 19, 28, 29, 30, 31, 32, 33, 34, 35, 36, 37, 38, 39, 40, 41]⟩,
  ⟨some 23, .load 5 (.tmp 22), none, [16, 17, 18, 19, 28, 29, 30, 31, 32, 33, 34, 35, 36, 37, 38, 39, 40, 41]⟩,
  ⟨some 24, .binOp .rem 5 (.tmp 23) (.const (.int .u8 4)) 5, none, [16, 17, 18, 19, 28, 29, 30, 31, 32, 33, 34, 35, 36, 37, 38, 39, 40, 41]⟩,
  ⟨some 25, .binOp .add 5 (.const (.int .u8 97)) (.tmp 24) 5, none, [16, 17, 18, 19, 28, 29, 30, 31, 32, 33, 34, 35, 36, 37, 38, 39, 40, 41]⟩,
  ⟨some 26, .buildSlice 22 1 #[(0, .tmp 25)], none, [16, 17, 18, 19, 28, 29, 30, 31, 32, 33, 34, 35, 36, 37, 38, 39, 40, 41]⟩,
  ⟨some 27, .convert 22 9 (.tmp 26), none, [16, 17, 18, 19, 28, 29, 30, 31, 32, 33, 34, 35, 36, 37, 38, 39, 40, 41]⟩,
  ⟨some 28, .move (.tmp 0), none, [16, 17, 18, 19, 20, 21, 22, 23, 24, 25, 26, 27, 29, 35, 36, 37, 38, 39, 40, 41]⟩,
  ⟨some 29, .move (.tmp 4), none, [16, 17, 18, 19, 20, 21, 22, 23, 24, 25, 26, 27, 28, 35, 36, 37, 38, 39, 40, 41]⟩,
  ⟨some 30, .indexAddr 22 (.tmp 28) (.tmp 29), none, [16, 17, 18, 19, 20, 21, 22, 23, 24, 25, 26, 27, 35, 36, 37, 38, 39, 40, 41]⟩,
  ⟨some 31, .load 5 (.tmp 30), none, [16, 17, 18, 19, 20, 21, 22, 23, 24, 25, 26, 27, 35, 36, 37, 38, 39, 40, 41]⟩,
  ⟨some 32, .binOp .quo 5 (.tmp 31) (.const (.int .u8 4)) 5, none, [16, 17, 18, 19, 20, 21, 22, 23, 24, 25, 26, 27, 35, 36, 37, 38, 39, 40, 41]⟩,
  ⟨some 33, .binOp .rem 5 (.tmp 32) (.const (.int .u8 5)) 5, none, [16, 17, 18, 19, 20, 21, 22, 23, 24, 25, 26, 27, 35, 36, 37, 38, 39, 40, 41]⟩,
  ⟨some 34, .binOp .eql 5 (.tmp 33) (.const (.int .u8 0)) 5, none, [16, 17, 18, 19, 20, 21, 22, 23, 24, 25, 26, 27, 35, 36, 37, 38, 39, 40, 41]⟩,
  ⟨some 35, .move (.tmp 0), none, [16, 17, 18, 19, 20, 21, 22, 23, 24, 25, 26, 27, 28, 29, 30, 31, 32, 33, 34, 36]⟩,
  ⟨some 36, .move (.tmp 4), none, [16, 17, 18, 19, 20, 21, 22, 23, 24, 25, 26, 27, 28, 29, 30, 31, 32, 33, 34, 35]⟩,
  ⟨some 37, .indexAddr 22 (.tmp 35) (.tmp 36), none, [16, 17, 18, 19, 20, 21, 22, 23, 24, 25, 26, 27, 28, 29, 30, 31, 32, 33, 34]⟩,
  ⟨some 38, .load 5 (.tmp 37), none, [16, 17, 18, 19, 20, 21, 22, 23, 24, 25, 26, 27, 28, 29, 30, 31, 32, 33, 34]⟩,
  ⟨some 39, .binOp .quo 5 (.tmp 38) (.const (.int .u8 20)) 5, none, [16, 17, 18, 19, 20, 21, 22, 23, 24, 25, 26, 27, 28, 29, 30, 31, 32, 33, 34]⟩,
  ⟨some 40, .binOp .rem 5 (.tmp 39) (.const (.int .u8 5)) 5, none, [16, 17, 18, 19, 20, 21, 22, 23, 24, 25, 26, 27, 28, 29, 30, 31, 32, 33, 34]⟩,
  ⟨some 41, .binOp .eql 5 (.tmp 40) (.const (.int .u8 0)) 5, none, [16, 17, 18, 19, 20, 21, 22, 23, 24, 25, 26, 27, 28, 29, 30, 31, 32, 33, 34]⟩,
  ⟨some 42, .build 34 #[(0, .tmp 19), (2, .tmp 27), (3, .tmp 34), (4, .tmp 41)], none, [16, 17]⟩,
  ⟨some 43, .buildSlice 25 1 #[(0, .tmp 42)], none, [16, 17]⟩,
  ⟨some 44, .call { callee := .builtin .append, args := #[.tmp 17, .tmp 43], argTypes := #[25, 25] }, none, []⟩,
  ⟨some 45, .fieldAddr 30 (.tmp 3) 0, none, []⟩,
  ⟨none, .store 25 (.tmp 45) (.tmp 44), none, []⟩] [0, 2, 3, 4, 15]) .skip)) (.seq (.reg [⟨some 14, .move (.tmp 4), none, []⟩,
  ⟨some 15, .binOp .add 3 (.tmp 14) (.const (.int .i64 1)) 3, none, []⟩,
  ⟨some 4, .assign (.tmp 15), none, []⟩] [0, 2, 3, 4, 15]) .skip))))) .skip)) (.seq (.reg [⟨some 46, .load 30 (.tmp 3), none, []⟩,
  ⟨none, .store 30 (.tmp 2) (.tmp 46), none, []⟩] [2]) .ret)))))
theorem s6 : TextK Proofs.Tryd.prog 0 6 47 [ResultVar.cell 2 30] c6 := .mk' Proofs.Tryd.f6 _ (by kernel_rfl) rfl rfl rfl (by kernel_rfl) rfl (by kernel_rfl)
abbrev U8 (n : Int) : V := .c (.int .u8 n)
def lawB (i : Nat) (b : Int) : Broker := ⟨(i : Int) + 1, 0, bytesOf [IntKind.u8.wrap (97 + b.tmod 4)], (IntKind.u8.wrap (b.tdiv 4)).tmod 5 == 0, (IntKind.u8.wrap (b.tdiv 20)).tmod 5 == 0⟩
def lawBs (l : List Int) : List Broker := (List.range (min l.length 12)).map fun i => lawB i (l.getD i 0)
def lawM (l : List Int) : Image := ⟨lawBs l, [], [], [], 0⟩
theorem brokersL_ok (l : List Int) : ACall pg 6 [.sl (l.map U8)] (encM (lawM l)) := by
  refine s6.call mo (by simp) fun hxs => ?_
  clear hxs
  unfold c6
  repeat' first
      | (with_reducible first | refine thN ?_ | refine thR ?_ | refine thE ?_ | refine inN ?_ | refine inR ?_ | refine inH ?_ | refine fF ?_ | refine fS ?_ | refine fR ?_ | refine fQ ?_ | refine fC ?_ | refine fB ?_ | refine fL ?_ | refine fE ?_ | refine fT ?_ | refine awBlock ?_ | refine awExit ?_ | refine awRet ?_ | refine awSkip ?_ | refine inM (by decide) ?_)
      | ((with_reducible refine awReg fun K hok hK => ?_); clear hok; (try simp (maxSteps := 10000000) (disch := first | omega | simp) []); (repeat' first
          | (with_reducible refine hK _ (by simp) ?_)
          | ((with_reducible refine gdT (fun h => ?_) (fun h => ?_)) <;> (simp (maxSteps := 10000000) (disch := first | omega | simp) [h]; (try simp at h); (try (exfalso; omega))))
          | ((with_reducible refine gdF (fun h => ?_) (fun h => ?_)) <;> (simp (maxSteps := 10000000) (disch := first | omega | simp) [h]; (try simp at h); (try (exfalso; omega))))
          | ((with_reducible refine sideSt' fun K2 hK2 => ?_); (try simp (maxSteps := 10000000) (disch := first | omega | simp) []); refine hK2 _ ?_; clear hK2 K2; (try simp (maxSteps := 10000000) (disch := first | omega | simp) []))
          | ((with_reducible refine gdU ?_); (try simp (maxSteps := 10000000) (disch := first | omega | simp) []))
          | ((with_reducible refine sideQ' ?_ ?_ fun K2 hK2 => ?_); exact rfl; exact rfl; (try simp (maxSteps := 10000000) (disch := first | omega | simp) []); with_reducible refine hK2 _ _ ?_; clear hK2 K2; (try simp (maxSteps := 10000000) (disch := first | omega | simp) []))
          | ((with_reducible refine side' ?_ fun K2 hK2 => ?_); exact rfl; (try simp (maxSteps := 10000000) (disch := first | omega | simp) []); refine hK2 _ _ (by simp) ?_; clear hK2 K2; (try simp (maxSteps := 10000000) (disch := first | omega | simp) []))) <;> clear hK K)
      | ((with_reducible refine awCond fun A B hA hB => ?_); simp (maxSteps := 10000000) (disch := first | omega | simp) []; (first | refine ⟨fun h => hA ?_, fun h => hB ?_⟩ | refine hA ?_ | refine hB ?_) <;> (clear hA hB A B; (try (exfalso; omega))))
  refine awFor (min l.length 12) (fun i (s : List Broker) => s ++ ((List.range (min l.length 12)).drop i).map (fun i => lawB i (l.getD i 0)) = lawBs l ∧ s.length = i)
    (fun i s => [(4, .p (I i)), (3, .p (.own [.uq (s.map encB), .uq [], .uq [], .uq [], I 0])), (2, .p (.own [.uq [], .uq [], .uq [], .uq [], I 0])), (0, .p (.sl (l.map U8)))]) []
    (Wk.ofA (by simp)) ⟨by simp [lawBs], rfl⟩ fun i s hi hs => ?_
  obtain ⟨hs, hsl⟩ := hs
  by_cases hlt : i < l.length
  · by_cases h12 : i < 12
    · rw [drop_cons (show i < (List.range (min l.length 12)).length by rw [List.length_range]; omega)] at hs
      simp only [List.getElem_range, List.map_cons] at hs
      have hg : l.getD i 0 = l[i] := by rw [List.getD_eq_getElem?_getD, List.getElem?_eq_getElem hlt]; rfl
      rw [hg] at hs
      have e := hs
      clear hs
      have hb : lawB i l[i] = ⟨(i : Int) + 1, 0, bytesOf [IntKind.u8.wrap (97 + l[i].tmod 4)], (IntKind.u8.wrap (l[i].tdiv 4)).tmod 5 == 0, (IntKind.u8.wrap (l[i].tdiv 20)).tmod 5 == 0⟩ := rfl
      have hlt2 : (i : Int) < 12 := by omega
      have hm : i < min l.length 12 := by omega
      repeat' first
          | (with_reducible first | refine thN ?_ | refine thR ?_ | refine thE ?_ | refine inN ?_ | refine inR ?_ | refine inH ?_ | refine fF ?_ | refine fS ?_ | refine fR ?_ | refine fQ ?_ | refine fC ?_ | refine fB ?_ | refine fL ?_ | refine fE ?_ | refine fT ?_ | refine awBlock ?_ | refine awExit ?_ | refine awRet ?_ | refine awSkip ?_ | refine inM (by decide) ?_)
          | ((with_reducible refine awReg fun K hok hK => ?_); clear hok; (try simp (maxSteps := 10000000) (disch := first | omega | simp) [hlt, hlt2]); (repeat' first
              | (with_reducible refine hK _ (by simp) ?_)
              | ((with_reducible refine gdT (fun h => ?_) (fun h => ?_)) <;> (simp (maxSteps := 10000000) (disch := first | omega | simp) [h, hlt, hlt2]; (try simp at h); (try (exfalso; omega))))
              | ((with_reducible refine gdF (fun h => ?_) (fun h => ?_)) <;> (simp (maxSteps := 10000000) (disch := first | omega | simp) [h, hlt, hlt2]; (try simp at h); (try (exfalso; omega))))
              | ((with_reducible refine sideSt' fun K2 hK2 => ?_); (try simp (maxSteps := 10000000) (disch := first | omega | simp) [hlt, hlt2]); refine hK2 _ ?_; clear hK2 K2; (try simp (maxSteps := 10000000) (disch := first | omega | simp) [hlt, hlt2]))
              | ((with_reducible refine gdU ?_); (try simp (maxSteps := 10000000) (disch := first | omega | simp) [hlt, hlt2]))
              | ((with_reducible refine sideQ' ?_ ?_ fun K2 hK2 => ?_); exact rfl; exact rfl; (try simp (maxSteps := 10000000) (disch := first | omega | simp) [hlt, hlt2]); with_reducible refine hK2 _ _ ?_; clear hK2 K2; (try simp (maxSteps := 10000000) (disch := first | omega | simp) [hlt, hlt2]))
              | ((with_reducible refine side' ?_ fun K2 hK2 => ?_); exact rfl; (try simp (maxSteps := 10000000) (disch := first | omega | simp) [hlt, hlt2]); refine hK2 _ _ (by simp) ?_; clear hK2 K2; (try simp (maxSteps := 10000000) (disch := first | omega | simp) [hlt, hlt2]))) <;> clear hK K)
          | ((with_reducible refine awCond fun A B hA hB => ?_); simp (maxSteps := 10000000) (disch := first | omega | simp) [hlt, hlt2]; (first | refine ⟨fun h => hA ?_, fun h => hB ?_⟩ | refine hA ?_ | refine hB ?_) <;> (clear hA hB A B; (try (exfalso; omega))))
      (refine ⟨?_, s ++ [lawB i l[i]], ?_, Wk.ofA ?_⟩; assumption; rotate_left; focus (simp [hb]; done))
      exact ⟨by simpa using e, by simp [hsl]⟩
    · have e : lawBs l = s := by rw [drop_nil (by rw [List.length_range]; omega)] at hs; simpa using hs.symm
      clear hs
      have h12 : ¬ (i : Int) < 12 := by omega
      repeat' first
          | (with_reducible first | refine thN ?_ | refine thR ?_ | refine thE ?_ | refine inN ?_ | refine inR ?_ | refine inH ?_ | refine fF ?_ | refine fS ?_ | refine fR ?_ | refine fQ ?_ | refine fC ?_ | refine fB ?_ | refine fL ?_ | refine fE ?_ | refine fT ?_ | refine awBlock ?_ | refine awExit ?_ | refine awRet ?_ | refine awSkip ?_ | refine inM (by decide) ?_)
          | ((with_reducible refine awReg fun K hok hK => ?_); clear hok; (try simp (maxSteps := 10000000) (disch := first | omega | simp) [hlt, h12]); (repeat' first
              | (with_reducible refine hK _ (by simp) ?_)
              | ((with_reducible refine gdT (fun h => ?_) (fun h => ?_)) <;> (simp (maxSteps := 10000000) (disch := first | omega | simp) [h, hlt, h12]; (try simp at h); (try (exfalso; omega))))
              | ((with_reducible refine gdF (fun h => ?_) (fun h => ?_)) <;> (simp (maxSteps := 10000000) (disch := first | omega | simp) [h, hlt, h12]; (try simp at h); (try (exfalso; omega))))
              | ((with_reducible refine sideSt' fun K2 hK2 => ?_); (try simp (maxSteps := 10000000) (disch := first | omega | simp) [hlt, h12]); refine hK2 _ ?_; clear hK2 K2; (try simp (maxSteps := 10000000) (disch := first | omega | simp) [hlt, h12]))
              | ((with_reducible refine gdU ?_); (try simp (maxSteps := 10000000) (disch := first | omega | simp) [hlt, h12]))
              | ((with_reducible refine sideQ' ?_ ?_ fun K2 hK2 => ?_); exact rfl; exact rfl; (try simp (maxSteps := 10000000) (disch := first | omega | simp) [hlt, h12]); with_reducible refine hK2 _ _ ?_; clear hK2 K2; (try simp (maxSteps := 10000000) (disch := first | omega | simp) [hlt, h12]))
              | ((with_reducible refine side' ?_ fun K2 hK2 => ?_); exact rfl; (try simp (maxSteps := 10000000) (disch := first | omega | simp) [hlt, h12]); refine hK2 _ _ (by simp) ?_; clear hK2 K2; (try simp (maxSteps := 10000000) (disch := first | omega | simp) [hlt, h12]))) <;> clear hK K)
          | ((with_reducible refine awCond fun A B hA hB => ?_); simp (maxSteps := 10000000) (disch := first | omega | simp) [hlt, h12]; (first | refine ⟨fun h => hA ?_, fun h => hB ?_⟩ | refine hA ?_ | refine hB ?_) <;> (clear hA hB A B; (try (exfalso; omega))))
      (refine aEnR (aRes [true] fun K hK => ?_); simp (maxSteps := 10000000) (disch := first | omega | simp) [lawM, e]; refine hK _ ?_ (by simp); clear hK; first | done | (simp (maxSteps := 10000000) (disch := first | omega | simp) [lawM, e, *]; done) | (simp (maxSteps := 10000000) (disch := first | omega | simp) [lawM, e, *]; omega) | (simp_all [lawM, e]; done) | (simp_all [lawM, e]; omega))
  · have e : lawBs l = s := by rw [drop_nil (by rw [List.length_range]; omega)] at hs; simpa using hs.symm
    clear hs
    repeat' first
        | (with_reducible first | refine thN ?_ | refine thR ?_ | refine thE ?_ | refine inN ?_ | refine inR ?_ | refine inH ?_ | refine fF ?_ | refine fS ?_ | refine fR ?_ | refine fQ ?_ | refine fC ?_ | refine fB ?_ | refine fL ?_ | refine fE ?_ | refine fT ?_ | refine awBlock ?_ | refine awExit ?_ | refine awRet ?_ | refine awSkip ?_ | refine inM (by decide) ?_)
        | ((with_reducible refine awReg fun K hok hK => ?_); clear hok; (try simp (maxSteps := 10000000) (disch := first | omega | simp) [hlt]); (repeat' first
            | (with_reducible refine hK _ (by simp) ?_)
            | ((with_reducible refine gdT (fun h => ?_) (fun h => ?_)) <;> (simp (maxSteps := 10000000) (disch := first | omega | simp) [h, hlt]; (try simp at h); (try (exfalso; omega))))
            | ((with_reducible refine gdF (fun h => ?_) (fun h => ?_)) <;> (simp (maxSteps := 10000000) (disch := first | omega | simp) [h, hlt]; (try simp at h); (try (exfalso; omega))))
            | ((with_reducible refine sideSt' fun K2 hK2 => ?_); (try simp (maxSteps := 10000000) (disch := first | omega | simp) [hlt]); refine hK2 _ ?_; clear hK2 K2; (try simp (maxSteps := 10000000) (disch := first | omega | simp) [hlt]))
            | ((with_reducible refine gdU ?_); (try simp (maxSteps := 10000000) (disch := first | omega | simp) [hlt]))
            | ((with_reducible refine sideQ' ?_ ?_ fun K2 hK2 => ?_); exact rfl; exact rfl; (try simp (maxSteps := 10000000) (disch := first | omega | simp) [hlt]); with_reducible refine hK2 _ _ ?_; clear hK2 K2; (try simp (maxSteps := 10000000) (disch := first | omega | simp) [hlt]))
            | ((with_reducible refine side' ?_ fun K2 hK2 => ?_); exact rfl; (try simp (maxSteps := 10000000) (disch := first | omega | simp) [hlt]); refine hK2 _ _ (by simp) ?_; clear hK2 K2; (try simp (maxSteps := 10000000) (disch := first | omega | simp) [hlt]))) <;> clear hK K)
        | ((with_reducible refine awCond fun A B hA hB => ?_); simp (maxSteps := 10000000) (disch := first | omega | simp) [hlt]; (first | refine ⟨fun h => hA ?_, fun h => hB ?_⟩ | refine hA ?_ | refine hB ?_) <;> (clear hA hB A B; (try (exfalso; omega))))
    (refine aEnR (aRes [true] fun K hK => ?_); simp (maxSteps := 10000000) (disch := first | omega | simp) [lawM, e]; refine hK _ ?_ (by simp); clear hK; first | done | (simp (maxSteps := 10000000) (disch := first | omega | simp) [lawM, e, *]; done) | (simp (maxSteps := 10000000) (disch := first | omega | simp) [lawM, e, *]; omega) | (simp_all [lawM, e]; done) | (simp_all [lawM, e]; omega))
end
end Go.Am
