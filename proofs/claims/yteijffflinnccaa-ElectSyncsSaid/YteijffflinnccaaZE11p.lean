/- Part of the proof of ElectLeaves. -/
import Derived.Test.YteijffflinnccaaZAA
import Derived.Test.YteijffflinnccaaZPu15
set_option linter.all false
set_option maxRecDepth 100000
set_option maxHeartbeats 0
namespace Go.Am
open Go
noncomputable section
def c24 : SC := (.seq (.reg [⟨some 2, .box 30 (.tmp 0), none, []⟩,
  ⟨some 4, .assign (.const (.int .i64 0)), none, []⟩,
  ⟨some 5, .assign (.const (.int .i64 0)), none, []⟩,
  ⟨some 6, .alloc 48, none, []⟩,
  ⟨some 7, .assign (.const (.bool false)), none, []⟩] [1, 2, 6, 10, 11, 36, 43, 53, 54, 55, 56, 57, 58, 59, 77]) (.seq (.reg [⟨some 8, .assign (.const (.int .i64 0)), none, []⟩] [1, 2, 6, 8, 10, 11, 27, 36, 43, 53, 54, 55, 56, 57, 58, 59, 77]) (.seq (.reg [⟨some 9, .assign (.const (.int .i64 0)), none, []⟩] [1, 2, 6, 8, 9, 10, 11, 18, 27, 36, 43, 53, 54, 55, 56, 57, 58, 59, 77]) (.seq (.block 0 (.seq (.loop (.seq (.reg [⟨some 12, .move (.tmp 9), none, []⟩,
  ⟨some 13, .fieldAddr 30 (.tmp 2) 1, none, []⟩,
  ⟨some 14, .load 26 (.tmp 13), none, []⟩,
  ⟨some 15, .call { callee := .builtin .len, args := #[.tmp 14], argTypes := #[26] }, none, []⟩,
  ⟨some 16, .binOp .lss 3 (.tmp 12) (.tmp 15) 3, none, []⟩] [1, 2, 6, 8, 9, 10, 11, 16, 18, 27, 36, 43, 53, 54, 55, 56, 57, 58, 59, 77]) (.seq (.cond (.tmp 16) .skip (.exit 0)) (.seq (.block 1 (.seq (.reg [⟨some 19, .move (.tmp 8), none, []⟩,
  ⟨some 20, .fieldAddr 30 (.tmp 2) 1, none, []⟩,
  ⟨some 21, .load 26 (.tmp 20), none, []⟩,
  ⟨some 22, .move (.tmp 9), none, []⟩,
  ⟨some 23, .indexAddr 26 (.tmp 21) (.tmp 22), none, []⟩,
  ⟨some 24, .fieldAddr 46 (.tmp 23) 2, none, []⟩,
  ⟨some 25, .load 44 (.tmp 24), none, []⟩,
  ⟨some 26, .call { callee := .builtin .len, args := #[.tmp 25], argTypes := #[44] }, none, []⟩,
  ⟨some 27, .binOp .add 3 (.tmp 19) (.tmp 26) 3, none, []⟩,
  ⟨some 8, .assign (.tmp 27), none, []⟩] [1, 2, 6, 8, 9, 10, 11, 18, 27, 36, 43, 53, 54, 55, 56, 57, 58, 59, 77]) .skip)) (.seq (.reg [⟨some 17, .move (.tmp 9), none, []⟩,
  ⟨some 18, .binOp .add 3 (.tmp 17) (.const (.int .i64 1)) 3, none, []⟩,
  ⟨some 9, .assign (.tmp 18), none, []⟩] [1, 2, 6, 8, 9, 10, 11, 18, 27, 36, 43, 53, 54, 55, 56, 57, 58, 59, 77]) .skip))))) .skip)) (.seq (.reg [⟨some 28, .move (.tmp 8), none, []⟩,
  ⟨some 29, .binOp .eql 3 (.tmp 28) (.const (.int .i64 0)) 3, none, []⟩] [1, 2, 6, 8, 10, 11, 27, 29, 36, 43, 53, 54, 55, 56, 57, 58, 59, 77]) (.seq (.cond (.tmp 29) (.seq (.reg [⟨some 30, .build 48 #[], none, []⟩,
  ⟨some 4, .assign (.const (.int .i64 0)), none, []⟩,
  ⟨some 5, .assign (.const (.int .i64 0)), none, []⟩,
  ⟨none, .store 48 (.tmp 6) (.tmp 30), none, []⟩,
  ⟨some 7, .assign (.const (.bool false)), none, []⟩] [2, 4, 5, 6, 7, 10, 11, 36, 43, 53, 54, 55, 56, 57, 58, 59, 77]) .ret) .skip) (.seq (.reg [⟨some 31, .move (.tmp 1), none, []⟩,
  ⟨some 32, .convert 3 34 (.tmp 31), none, []⟩,
  ⟨some 33, .move (.tmp 8), none, []⟩,
  ⟨some 34, .convert 3 34 (.tmp 33), none, []⟩,
  ⟨some 35, .binOp .rem 34 (.tmp 32) (.tmp 34) 34, none, []⟩,
  ⟨some 36, .convert 34 3 (.tmp 35), none, []⟩,
  ⟨some 10, .assign (.tmp 36), none, []⟩] [2, 6, 10, 11, 36, 43, 53, 54, 55, 56, 57, 58, 59, 77]) (.seq (.reg [⟨some 11, .assign (.const (.int .i64 0)), none, []⟩] [2, 6, 10, 11, 36, 43, 53, 54, 55, 56, 57, 58, 59, 77]) (.seq (.block 2 (.seq (.loop (.seq (.reg [⟨some 37, .move (.tmp 11), none, []⟩,
  ⟨some 38, .fieldAddr 30 (.tmp 2) 1, none, []⟩,
  ⟨some 39, .load 26 (.tmp 38), none, []⟩,
  ⟨some 40, .call { callee := .builtin .len, args := #[.tmp 39], argTypes := #[26] }, none, []⟩,
  ⟨some 41, .binOp .lss 3 (.tmp 37) (.tmp 40) 3, none, []⟩] [2, 6, 10, 11, 36, 41, 43, 53, 54, 55, 56, 57, 58, 59, 77]) (.seq (.cond (.tmp 41) .skip (.exit 2)) (.seq (.block 3 (.seq (.reg [⟨some 44, .move (.tmp 10), none, []⟩,
  ⟨some 45, .fieldAddr 30 (.tmp 2) 1, none, []⟩,
  ⟨some 46, .load 26 (.tmp 45), none, []⟩,
  ⟨some 47, .move (.tmp 11), none, []⟩,
  ⟨some 48, .indexAddr 26 (.tmp 46) (.tmp 47), none, []⟩,
  ⟨some 49, .fieldAddr 46 (.tmp 48) 2, none, []⟩,
  ⟨some 50, .load 44 (.tmp 49), none, []⟩,
  ⟨some 51, .call { callee := .builtin .len, args := #[.tmp 50], argTypes := #[44] }, none, []⟩,
  ⟨some 52, .binOp .lss 3 (.tmp 44) (.tmp 51) 3, none, []⟩] [2, 6, 10, 11, 36, 43, 52, 53, 54, 55, 56, 57, 58, 59, 77]) (.seq (.cond (.tmp 52) (.seq (.reg [⟨some 53, .fieldAddr 30 (.tmp 2) 1, none, [55, 59, 60, 61, 62, 63, 64, 65, 66, 67, 68]⟩,
  ⟨some 54, .load 26 (.tmp 53), none, [55, 59, 60, 61, 62, 63, 64, 65, 66, 67, 68]⟩,
  ⟨some 55, .move (.tmp 11), none, [53, 54, 59, 60, 61, 62, 63, 64, 65, 66, 67, 68]⟩,
  ⟨some 56, .indexAddr 26 (.tmp 54) (.tmp 55), none, [59, 60, 61, 62, 63, 64, 65, 66, 67, 68]⟩,
  ⟨some 57, .fieldAddr 46 (.tmp 56) 0, none, [59, 60, 61, 62, 63, 64, 65, 66, 67, 68]⟩,
  ⟨some 58, .load 3 (.tmp 57), none, [59, 60, 61, 62, 63, 64, 65, 66, 67, 68]⟩,
  ⟨some 59, .move (.tmp 10), none, [53, 54, 55, 56, 57, 58, 60, 61, 62, 63, 64, 65, 66, 67, 68, 4]⟩,
  ⟨some 60, .fieldAddr 30 (.tmp 2) 1, none, [53, 54, 55, 56, 57, 58, 59, 62, 66, 4, 5]⟩,
  ⟨some 61, .load 26 (.tmp 60), none, [53, 54, 55, 56, 57, 58, 59, 62, 66, 4, 5]⟩,
  ⟨some 62, .move (.tmp 11), none, [53, 54, 55, 56, 57, 58, 59, 60, 61, 66, 4, 5]⟩,
  ⟨some 63, .indexAddr 26 (.tmp 61) (.tmp 62), none, [53, 54, 55, 56, 57, 58, 59, 66, 4, 5]⟩,
  ⟨some 64, .fieldAddr 46 (.tmp 63) 2, none, [53, 54, 55, 56, 57, 58, 59, 66, 4, 5]⟩,
  ⟨some 65, .load 44 (.tmp 64), none, [53, 54, 55, 56, 57, 58, 59, 66, 4, 5]⟩,
  ⟨some 66, .move (.tmp 10), none, [53, 54, 55, 56, 57, 58, 59, 60, 61, 62, 63, 64, 65, 4, 5]⟩,
  ⟨some 67, .indexAddr 44 (.tmp 65) (.tmp 66), none, [53, 54, 55, 56, 57, 58, 59, 4, 5]⟩,
  ⟨some 68, .load 48 (.tmp 67), none, [53, 54, 55, 56, 57, 58, 59, 4, 5]⟩,
  ⟨some 4, .assign (.tmp 58), none, [59, 60, 61, 62, 63, 64, 65, 66, 67, 68]⟩,
  ⟨some 5, .assign (.tmp 59), none, [60, 61, 62, 63, 64, 65, 66, 67, 68]⟩,
  ⟨none, .store 48 (.tmp 6) (.tmp 68), none, []⟩,
  ⟨some 7, .assign (.const (.bool true)), none, []⟩] [2, 4, 5, 6, 7, 10, 11, 36, 43, 53, 54, 55, 56, 57, 58, 59, 77]) .ret) .skip) (.seq (.reg [⟨some 69, .move (.tmp 10), none, []⟩,
  ⟨some 70, .fieldAddr 30 (.tmp 2) 1, none, []⟩,
  ⟨some 71, .load 26 (.tmp 70), none, []⟩,
  ⟨some 72, .move (.tmp 11), none, []⟩,
  ⟨some 73, .indexAddr 26 (.tmp 71) (.tmp 72), none, []⟩,
  ⟨some 74, .fieldAddr 46 (.tmp 73) 2, none, []⟩,
  ⟨some 75, .load 44 (.tmp 74), none, []⟩,
  ⟨some 76, .call { callee := .builtin .len, args := #[.tmp 75], argTypes := #[44] }, none, []⟩,
  ⟨some 77, .binOp .sub 3 (.tmp 69) (.tmp 76) 3, none, []⟩,
  ⟨some 10, .assign (.tmp 77), none, []⟩] [2, 6, 10, 11, 36, 43, 53, 54, 55, 56, 57, 58, 59, 77]) .skip)))) (.seq (.reg [⟨some 42, .move (.tmp 11), none, []⟩,
  ⟨some 43, .binOp .add 3 (.tmp 42) (.const (.int .i64 1)) 3, none, []⟩,
  ⟨some 11, .assign (.tmp 43), none, []⟩] [2, 6, 10, 11, 36, 43, 53, 54, 55, 56, 57, 58, 59, 77]) .skip))))) .skip)) (.seq (.reg [⟨some 78, .build 48 #[], none, []⟩,
  ⟨some 4, .assign (.const (.int .i64 0)), none, []⟩,
  ⟨some 5, .assign (.const (.int .i64 0)), none, []⟩,
  ⟨none, .store 48 (.tmp 6) (.tmp 78), none, []⟩,
  ⟨some 7, .assign (.const (.bool false)), none, []⟩] [2, 4, 5, 6, 7, 10, 11, 36, 43, 53, 54, 55, 56, 57, 58, 59, 77]) .ret))))))))))
theorem s24 : TextK Proofs.Try.prog 0 24 79 [ResultVar.tmp 4, ResultVar.tmp 5, ResultVar.cell 6 48, ResultVar.tmp 7] c24 := .mk' Proofs.Try.f24 _ (by kernel_rfl) rfl rfl rfl (by kernel_rfl) rfl (by kernel_rfl)
def encSel : Option (Int × Nat × Part) → V
  | some x => .tup [I x.1, I x.2.1, encP x.2.2, B true]
  | none => .tup [I 0, I 0, encP zP, B false]
@[simp] theorem encSel_some (a : Int) (b : Nat) (p : Part) : encSel (some (a, b, p)) = .tup [I a, I b, encP p, B true] := rfl
@[simp] theorem encSel_none : encSel none = .tup [I 0, I 0, encP zP, B false] := rfl
theorem at_mod' (n : Int) (k : Nat) (hk : 0 < k) (hk2 : k ≤ 1000000) : ∃ j : Nat, j < k ∧ IntKind.i64.wrap ((IntKind.u64.wrap n).tmod (k : Int)) = j := by
  have h0 : 0 ≤ IntKind.u64.wrap n := by simp [IntKind.wrap, IntKind.signed, IntKind.bits]; omega
  obtain ⟨a, ha⟩ := Int.eq_ofNat_of_zero_le h0
  rw [ha]
  refine ⟨a % k, Nat.mod_lt _ hk, ?_⟩
  have : (a : Int).tmod (k : Int) = ((a % k : Nat) : Int) := rfl
  rw [this, i64_wrap]
  have := Nat.mod_lt a hk
  omega
theorem pickPart_ok (m : Image) (n : Int) (hm : m.Pre) : ACall pg 24 [encM m, I n] (encSel (m.sel n)) := by
  refine s24.call mo (by simp) fun hxs => ?_
  clear hxs
  have htl := hm.tl
  have hcl := cnt_le m.topics hm.pl
  unfold c24
  repeat' first
      | (with_reducible first | refine thN ?_ | refine thR ?_ | refine thE ?_ | refine inN ?_ | refine inR ?_ | refine inH ?_ | refine fF ?_ | refine fS ?_ | refine fR ?_ | refine fQ ?_ | refine fC ?_ | refine fB ?_ | refine fL ?_ | refine fE ?_ | refine fT ?_ | refine awBlock ?_ | refine awExit ?_ | refine awRet ?_ | refine awSkip ?_ | refine inM (by decide) ?_)
      | ((with_reducible refine awReg fun K hok hK => ?_); clear hok; (try simp (maxSteps := 10000000) (disch := first | omega | simp) []); (repeat' first
          | (with_reducible refine hK _ (by simp) ?_)
          | ((with_reducible refine gdT (fun h => ?_) (fun h => ?_)) <;> (simp (maxSteps := 10000000) (disch := first | omega | simp) [h]; (try simp at h); (try (exfalso; omega))))
          | ((with_reducible refine gdF (fun h => ?_) (fun h => ?_)) <;> (simp (maxSteps := 10000000) (disch := first | omega | simp) [h]; (try simp at h); (try (exfalso; omega))))
          | ((with_reducible refine sideSt' fun K2 hK2 => ?_); (try simp (maxSteps := 10000000) (disch := first | omega | simp) []); refine hK2 _ ?_; clear hK2 K2; (try simp (maxSteps := 10000000) (disch := first | omega | simp) []))
          | ((with_reducible refine gdU ?_); (try simp (maxSteps := 10000000) (disch := first | omega | simp) []))
          | ((with_reducible refine sideQ' ?_ ?_ fun K2 hK2 => ?_); exact rfl; exact rfl; (try simp (maxSteps := 10000000) (disch := first | omega | simp) []); with_reducible refine hK2 _ _ ?_; clear hK2 K2; (try simp (maxSteps := 10000000) (disch := first | omega | simp) []))
          | ((with_reducible refine side' ?_ fun K2 hK2 => ?_); exact rfl; (try simp (maxSteps := 10000000) (disch := first | omega | simp) []); refine hK2 _ _ (by simp) ?_; clear hK2 K2; (try simp (maxSteps := 10000000) (disch := first | omega | simp) []))) <;> clear hK K)
      | ((with_reducible refine awCond fun A B hA hB => ?_); simp (maxSteps := 10000000) (disch := first | omega | simp) []; (first | refine ⟨fun h => hA ?_, fun h => hB ?_⟩ | refine hA ?_ | refine hB ?_) <;> (clear hA hB A B; (try (exfalso; omega))))
  refine awFor m.topics.length (fun i (s : Nat) => s + cnt (m.topics.drop i) = cnt m.topics) (fun i s => [(9, .p (I i)), (8, .p (I s)), (6, .p (.own [.uq [], .uq [], I 0, I 0, .uq [], .uq []])), (2, .p (.own (encM m).cells)), (1, .p (I n))]) 0 (Wk.ofA (by simp)) (by simp) fun i s hi hs => ?_
  by_cases hlt : i < m.topics.length
  · have hpl := hm.pl _ (List.getElem_mem hlt)
    rw [drop_cons hlt] at hs
    simp only [cnt] at hs
    repeat' first
        | (with_reducible first | refine thN ?_ | refine thR ?_ | refine thE ?_ | refine inN ?_ | refine inR ?_ | refine inH ?_ | refine fF ?_ | refine fS ?_ | refine fR ?_ | refine fQ ?_ | refine fC ?_ | refine fB ?_ | refine fL ?_ | refine fE ?_ | refine fT ?_ | refine awBlock ?_ | refine awExit ?_ | refine awRet ?_ | refine awSkip ?_ | refine inM (by decide) ?_)
        | ((with_reducible refine awReg fun K hok hK => ?_); clear hok; (try simp (maxSteps := 10000000) (disch := first | omega | simp) []); (repeat' first
            | (with_reducible refine hK _ (by simp) ?_)
            | ((with_reducible refine gdT (fun h => ?_) (fun h => ?_)) <;> (simp (maxSteps := 10000000) (disch := first | omega | simp) [h]; (try simp at h); (try (exfalso; omega))))
            | ((with_reducible refine gdF (fun h => ?_) (fun h => ?_)) <;> (simp (maxSteps := 10000000) (disch := first | omega | simp) [h]; (try simp at h); (try (exfalso; omega))))
            | ((with_reducible refine sideSt' fun K2 hK2 => ?_); (try simp (maxSteps := 10000000) (disch := first | omega | simp) []); refine hK2 _ ?_; clear hK2 K2; (try simp (maxSteps := 10000000) (disch := first | omega | simp) []))
            | ((with_reducible refine gdU ?_); (try simp (maxSteps := 10000000) (disch := first | omega | simp) []))
            | ((with_reducible refine sideQ' ?_ ?_ fun K2 hK2 => ?_); exact rfl; exact rfl; (try simp (maxSteps := 10000000) (disch := first | omega | simp) []); with_reducible refine hK2 _ _ ?_; clear hK2 K2; (try simp (maxSteps := 10000000) (disch := first | omega | simp) []))
            | ((with_reducible refine side' ?_ fun K2 hK2 => ?_); exact rfl; (try simp (maxSteps := 10000000) (disch := first | omega | simp) []); refine hK2 _ _ (by simp) ?_; clear hK2 K2; (try simp (maxSteps := 10000000) (disch := first | omega | simp) []))) <;> clear hK K)
        | ((with_reducible refine awCond fun A B hA hB => ?_); simp (maxSteps := 10000000) (disch := first | omega | simp) []; (first | refine ⟨fun h => hA ?_, fun h => hB ?_⟩ | refine hA ?_ | refine hB ?_) <;> (clear hA hB A B; (try (exfalso; omega))))
    (refine ⟨?_, s + m.topics[i].parts.length, ?_, Wk.ofA ?_⟩; assumption; rotate_left; focus (simp []; done))
    clear hcl hpl; simp only [← Nat.add_assoc] at hs ⊢; omega
  · have hdr : m.topics.drop i = [] := drop_nil (by omega)
    rw [hdr] at hs
    simp only [cnt, Nat.add_zero] at hs
    have hi' : i = m.topics.length := by omega
    by_cases h0 : s = 0
    · have e : m.sel n = none := by unfold Image.sel; rw [← hs, if_pos h0]
      repeat' first
          | (with_reducible first | refine thN ?_ | refine thR ?_ | refine thE ?_ | refine inN ?_ | refine inR ?_ | refine inH ?_ | refine fF ?_ | refine fS ?_ | refine fR ?_ | refine fQ ?_ | refine fC ?_ | refine fB ?_ | refine fL ?_ | refine fE ?_ | refine fT ?_ | refine awBlock ?_ | refine awExit ?_ | refine awRet ?_ | refine awSkip ?_ | refine inM (by decide) ?_)
          | ((with_reducible refine awReg fun K hok hK => ?_); clear hok; (try simp (maxSteps := 10000000) (disch := first | omega | simp) [h0]); (repeat' first
              | (with_reducible refine hK _ (by simp) ?_)
              | ((with_reducible refine gdT (fun h => ?_) (fun h => ?_)) <;> (simp (maxSteps := 10000000) (disch := first | omega | simp) [h, h0]; (try simp at h); (try (exfalso; omega))))
              | ((with_reducible refine gdF (fun h => ?_) (fun h => ?_)) <;> (simp (maxSteps := 10000000) (disch := first | omega | simp) [h, h0]; (try simp at h); (try (exfalso; omega))))
              | ((with_reducible refine sideSt' fun K2 hK2 => ?_); (try simp (maxSteps := 10000000) (disch := first | omega | simp) [h0]); refine hK2 _ ?_; clear hK2 K2; (try simp (maxSteps := 10000000) (disch := first | omega | simp) [h0]))
              | ((with_reducible refine gdU ?_); (try simp (maxSteps := 10000000) (disch := first | omega | simp) [h0]))
              | ((with_reducible refine sideQ' ?_ ?_ fun K2 hK2 => ?_); exact rfl; exact rfl; (try simp (maxSteps := 10000000) (disch := first | omega | simp) [h0]); with_reducible refine hK2 _ _ ?_; clear hK2 K2; (try simp (maxSteps := 10000000) (disch := first | omega | simp) [h0]))
              | ((with_reducible refine side' ?_ fun K2 hK2 => ?_); exact rfl; (try simp (maxSteps := 10000000) (disch := first | omega | simp) [h0]); refine hK2 _ _ (by simp) ?_; clear hK2 K2; (try simp (maxSteps := 10000000) (disch := first | omega | simp) [h0]))) <;> clear hK K)
          | ((with_reducible refine awCond fun A B hA hB => ?_); simp (maxSteps := 10000000) (disch := first | omega | simp) [h0]; (first | refine ⟨fun h => hA ?_, fun h => hB ?_⟩ | refine hA ?_ | refine hB ?_) <;> (clear hA hB A B; (try (exfalso; omega))))
      (refine aEnR (aRes [] fun K hK => ?_); simp (maxSteps := 10000000) (disch := first | omega | simp) [e, zP]; refine hK _ ?_ (by simp); simp (maxSteps := 10000000) (disch := first | omega | simp) [e, zP])
    · obtain ⟨j, hj, hje⟩ := at_mod' n s (by omega) (by omega)
      have hu : IntKind.u64.wrap (s : Int) = s := by simp [IntKind.wrap, IntKind.signed, IntKind.bits]; omega
      have e : m.sel n = pickT m.topics j := by unfold Image.sel; rw [← hs, if_neg h0, hje]; simp
      repeat' first
          | (with_reducible first | refine thN ?_ | refine thR ?_ | refine thE ?_ | refine inN ?_ | refine inR ?_ | refine inH ?_ | refine fF ?_ | refine fS ?_ | refine fR ?_ | refine fQ ?_ | refine fC ?_ | refine fB ?_ | refine fL ?_ | refine fE ?_ | refine fT ?_ | refine awBlock ?_ | refine awExit ?_ | refine awRet ?_ | refine awSkip ?_ | refine inM (by decide) ?_)
          | ((with_reducible refine awReg fun K hok hK => ?_); clear hok; (try simp (maxSteps := 10000000) (disch := first | omega | simp) [h0, hu, hje]); (repeat' first
              | (with_reducible refine hK _ (by simp) ?_)
              | ((with_reducible refine gdT (fun h => ?_) (fun h => ?_)) <;> (simp (maxSteps := 10000000) (disch := first | omega | simp) [h, h0, hu, hje]; (try simp at h); (try (exfalso; omega))))
              | ((with_reducible refine gdF (fun h => ?_) (fun h => ?_)) <;> (simp (maxSteps := 10000000) (disch := first | omega | simp) [h, h0, hu, hje]; (try simp at h); (try (exfalso; omega))))
              | ((with_reducible refine sideSt' fun K2 hK2 => ?_); (try simp (maxSteps := 10000000) (disch := first | omega | simp) [h0, hu, hje]); refine hK2 _ ?_; clear hK2 K2; (try simp (maxSteps := 10000000) (disch := first | omega | simp) [h0, hu, hje]))
              | ((with_reducible refine gdU ?_); (try simp (maxSteps := 10000000) (disch := first | omega | simp) [h0, hu, hje]))
              | ((with_reducible refine sideQ' ?_ ?_ fun K2 hK2 => ?_); exact rfl; exact rfl; (try simp (maxSteps := 10000000) (disch := first | omega | simp) [h0, hu, hje]); with_reducible refine hK2 _ _ ?_; clear hK2 K2; (try simp (maxSteps := 10000000) (disch := first | omega | simp) [h0, hu, hje]))
              | ((with_reducible refine side' ?_ fun K2 hK2 => ?_); exact rfl; (try simp (maxSteps := 10000000) (disch := first | omega | simp) [h0, hu, hje]); refine hK2 _ _ (by simp) ?_; clear hK2 K2; (try simp (maxSteps := 10000000) (disch := first | omega | simp) [h0, hu, hje]))) <;> clear hK K)
          | ((with_reducible refine awCond fun A B hA hB => ?_); simp (maxSteps := 10000000) (disch := first | omega | simp) [h0, hu, hje]; (first | refine ⟨fun h => hA ?_, fun h => hB ?_⟩ | refine hA ?_ | refine hB ?_) <;> (clear hA hB A B; (try (exfalso; omega))))
      refine awFor m.topics.length (fun i (a : Nat) => pickT (m.topics.drop i) a = m.sel n ∧ a ≤ j) (fun i a => [(11, .p (I i)), (10, .p (I a)), (6, .p (.own [.uq [], .uq [], I 0, I 0, .uq [], .uq []])), (2, .p (.own (encM m).cells))]) j (Wk.ofA (by simp)) (by simp [e]) fun i a hi ha => ?_
      obtain ⟨ha, haj⟩ := ha
      by_cases hlt : i < m.topics.length
      · have hpl := hm.pl _ (List.getElem_mem hlt)
        rw [drop_cons hlt] at ha
        simp only [pickT] at ha
        by_cases hap : a < m.topics[i].parts.length
        · have e : m.sel n = some (m.topics[i].id, a, m.topics[i].parts[a]) := by rw [← ha, if_pos hap]; simp [hap]
          repeat' first
              | (with_reducible first | refine thN ?_ | refine thR ?_ | refine thE ?_ | refine inN ?_ | refine inR ?_ | refine inH ?_ | refine fF ?_ | refine fS ?_ | refine fR ?_ | refine fQ ?_ | refine fC ?_ | refine fB ?_ | refine fL ?_ | refine fE ?_ | refine fT ?_ | refine awBlock ?_ | refine awExit ?_ | refine awRet ?_ | refine awSkip ?_ | refine inM (by decide) ?_)
              | ((with_reducible refine awReg fun K hok hK => ?_); clear hok; (try simp (maxSteps := 10000000) (disch := first | omega | simp) []); (repeat' first
                  | (with_reducible refine hK _ (by simp) ?_)
                  | ((with_reducible refine gdT (fun h => ?_) (fun h => ?_)) <;> (simp (maxSteps := 10000000) (disch := first | omega | simp) [h]; (try simp at h); (try (exfalso; omega))))
                  | ((with_reducible refine gdF (fun h => ?_) (fun h => ?_)) <;> (simp (maxSteps := 10000000) (disch := first | omega | simp) [h]; (try simp at h); (try (exfalso; omega))))
                  | ((with_reducible refine sideSt' fun K2 hK2 => ?_); (try simp (maxSteps := 10000000) (disch := first | omega | simp) []); refine hK2 _ ?_; clear hK2 K2; (try simp (maxSteps := 10000000) (disch := first | omega | simp) []))
                  | ((with_reducible refine gdU ?_); (try simp (maxSteps := 10000000) (disch := first | omega | simp) []))
                  | ((with_reducible refine sideQ' ?_ ?_ fun K2 hK2 => ?_); exact rfl; exact rfl; (try simp (maxSteps := 10000000) (disch := first | omega | simp) []); with_reducible refine hK2 _ _ ?_; clear hK2 K2; (try simp (maxSteps := 10000000) (disch := first | omega | simp) []))
                  | ((with_reducible refine side' ?_ fun K2 hK2 => ?_); exact rfl; (try simp (maxSteps := 10000000) (disch := first | omega | simp) []); refine hK2 _ _ (by simp) ?_; clear hK2 K2; (try simp (maxSteps := 10000000) (disch := first | omega | simp) []))) <;> clear hK K)
              | ((with_reducible refine awCond fun A B hA hB => ?_); simp (maxSteps := 10000000) (disch := first | omega | simp) []; (first | refine ⟨fun h => hA ?_, fun h => hB ?_⟩ | refine hA ?_ | refine hB ?_) <;> (clear hA hB A B; (try (exfalso; omega))))
          (refine aEnR (aRes [] fun K hK => ?_); simp (maxSteps := 10000000) (disch := first | omega | simp) [e]; refine hK _ ?_ (by simp); simp (maxSteps := 10000000) (disch := first | omega | simp) [e])
        · rw [if_neg hap] at ha
          repeat' first
              | (with_reducible first | refine thN ?_ | refine thR ?_ | refine thE ?_ | refine inN ?_ | refine inR ?_ | refine inH ?_ | refine fF ?_ | refine fS ?_ | refine fR ?_ | refine fQ ?_ | refine fC ?_ | refine fB ?_ | refine fL ?_ | refine fE ?_ | refine fT ?_ | refine awBlock ?_ | refine awExit ?_ | refine awRet ?_ | refine awSkip ?_ | refine inM (by decide) ?_)
              | ((with_reducible refine awReg fun K hok hK => ?_); clear hok; (try simp (maxSteps := 10000000) (disch := first | omega | simp) []); (repeat' first
                  | (with_reducible refine hK _ (by simp) ?_)
                  | ((with_reducible refine gdT (fun h => ?_) (fun h => ?_)) <;> (simp (maxSteps := 10000000) (disch := first | omega | simp) [h]; (try simp at h); (try (exfalso; omega))))
                  | ((with_reducible refine gdF (fun h => ?_) (fun h => ?_)) <;> (simp (maxSteps := 10000000) (disch := first | omega | simp) [h]; (try simp at h); (try (exfalso; omega))))
                  | ((with_reducible refine sideSt' fun K2 hK2 => ?_); (try simp (maxSteps := 10000000) (disch := first | omega | simp) []); refine hK2 _ ?_; clear hK2 K2; (try simp (maxSteps := 10000000) (disch := first | omega | simp) []))
                  | ((with_reducible refine gdU ?_); (try simp (maxSteps := 10000000) (disch := first | omega | simp) []))
                  | ((with_reducible refine sideQ' ?_ ?_ fun K2 hK2 => ?_); exact rfl; exact rfl; (try simp (maxSteps := 10000000) (disch := first | omega | simp) []); with_reducible refine hK2 _ _ ?_; clear hK2 K2; (try simp (maxSteps := 10000000) (disch := first | omega | simp) []))
                  | ((with_reducible refine side' ?_ fun K2 hK2 => ?_); exact rfl; (try simp (maxSteps := 10000000) (disch := first | omega | simp) []); refine hK2 _ _ (by simp) ?_; clear hK2 K2; (try simp (maxSteps := 10000000) (disch := first | omega | simp) []))) <;> clear hK K)
              | ((with_reducible refine awCond fun A B hA hB => ?_); simp (maxSteps := 10000000) (disch := first | omega | simp) []; (first | refine ⟨fun h => hA ?_, fun h => hB ?_⟩ | refine hA ?_ | refine hB ?_) <;> (clear hA hB A B; (try (exfalso; omega))))
          have ec : ((a - m.topics[i].parts.length : Nat) : Int) = (a : Int) - m.topics[i].parts.length := by omega
          (refine ⟨?_, a - m.topics[i].parts.length, ?_, Wk.ofA ?_⟩; assumption; rotate_left; focus (simp [ec]; done))
          exact ⟨ha, by omega⟩
      · have e : m.sel n = none := by rw [← ha, drop_nil (by omega)]; rfl
        repeat' first
            | (with_reducible first | refine thN ?_ | refine thR ?_ | refine thE ?_ | refine inN ?_ | refine inR ?_ | refine inH ?_ | refine fF ?_ | refine fS ?_ | refine fR ?_ | refine fQ ?_ | refine fC ?_ | refine fB ?_ | refine fL ?_ | refine fE ?_ | refine fT ?_ | refine awBlock ?_ | refine awExit ?_ | refine awRet ?_ | refine awSkip ?_ | refine inM (by decide) ?_)
            | ((with_reducible refine awReg fun K hok hK => ?_); clear hok; (try simp (maxSteps := 10000000) (disch := first | omega | simp) []); (repeat' first
                | (with_reducible refine hK _ (by simp) ?_)
                | ((with_reducible refine gdT (fun h => ?_) (fun h => ?_)) <;> (simp (maxSteps := 10000000) (disch := first | omega | simp) [h]; (try simp at h); (try (exfalso; omega))))
                | ((with_reducible refine gdF (fun h => ?_) (fun h => ?_)) <;> (simp (maxSteps := 10000000) (disch := first | omega | simp) [h]; (try simp at h); (try (exfalso; omega))))
                | ((with_reducible refine sideSt' fun K2 hK2 => ?_); (try simp (maxSteps := 10000000) (disch := first | omega | simp) []); refine hK2 _ ?_; clear hK2 K2; (try simp (maxSteps := 10000000) (disch := first | omega | simp) []))
                | ((with_reducible refine gdU ?_); (try simp (maxSteps := 10000000) (disch := first | omega | simp) []))
                | ((with_reducible refine sideQ' ?_ ?_ fun K2 hK2 => ?_); exact rfl; exact rfl; (try simp (maxSteps := 10000000) (disch := first | omega | simp) []); with_reducible refine hK2 _ _ ?_; clear hK2 K2; (try simp (maxSteps := 10000000) (disch := first | omega | simp) []))
                | ((with_reducible refine side' ?_ fun K2 hK2 => ?_); exact rfl; (try simp (maxSteps := 10000000) (disch := first | omega | simp) []); refine hK2 _ _ (by simp) ?_; clear hK2 K2; (try simp (maxSteps := 10000000) (disch := first | omega | simp) []))) <;> clear hK K)
            | ((with_reducible refine awCond fun A B hA hB => ?_); simp (maxSteps := 10000000) (disch := first | omega | simp) []; (first | refine ⟨fun h => hA ?_, fun h => hB ?_⟩ | refine hA ?_ | refine hB ?_) <;> (clear hA hB A B; (try (exfalso; omega))))
        (refine aEnR (aRes [] fun K hK => ?_); simp (maxSteps := 10000000) (disch := first | omega | simp) [e, zP]; refine hK _ ?_ (by simp); simp (maxSteps := 10000000) (disch := first | omega | simp) [e, zP])
end
end Go.Am
