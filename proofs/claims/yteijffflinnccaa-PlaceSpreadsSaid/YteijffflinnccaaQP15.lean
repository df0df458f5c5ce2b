/- Part of the proof of a law of placing. -/
import Derived.Test.YteijffflinnccaaQP13
set_option linter.all false
set_option maxRecDepth 100000
set_option maxHeartbeats 0
namespace Go.Am
open Go
noncomputable section
def c8 : SC := (.seq (.reg [⟨some 8, .assign (.const (.bool false)), none, []⟩] [0, 1, 2, 3, 36, 81, 82, 83, 84]) (.seq (.reg [⟨some 18, .move (.tmp 0), none, []⟩,
  ⟨some 19, .call { callee := .value (.func 28), args := #[.tmp 18], argTypes := #[61] }, none, []⟩,
  ⟨some 9, .alloc 30, none, []⟩,
  ⟨none, .store 30 (.tmp 9) (.tmp 19), none, []⟩] [1, 2, 3, 9, 36, 81, 82, 83, 84]) (.seq (.reg [⟨some 21, .load 30 (.tmp 9), none, []⟩,
  ⟨some 22, .move (.tmp 1), none, []⟩,
  ⟨some 23, .convert 5 3 (.tmp 22), none, []⟩,
  ⟨some 24, .binOp .rem 3 (.tmp 23) (.const (.int .i64 30)) 3, none, []⟩,
  ⟨some 25, .binOp .add 3 (.const (.int .i64 1)) (.tmp 24) 3, none, []⟩,
  ⟨some 26, .move (.tmp 2), none, []⟩,
  ⟨some 27, .convert 5 3 (.tmp 26), none, []⟩,
  ⟨some 28, .binOp .rem 3 (.tmp 27) (.const (.int .i64 8)) 3, none, []⟩,
  ⟨some 29, .move (.tmp 3), none, []⟩,
  ⟨some 30, .convert 62 3 (.tmp 29), none, []⟩,
  ⟨some 31, .call { callee := .value (.func 29), args := #[.tmp 21, .tmp 25, .tmp 28, .tmp 30], argTypes := #[30, 3, 3, 3] }, none, []⟩,
  ⟨some 20, .move (.tmp 31), none, []⟩,
  ⟨some 32, .extract (.tmp 20) 0, none, []⟩,
  ⟨some 33, .extract (.tmp 20) 1, none, []⟩,
  ⟨some 10, .assign (.tmp 32), none, []⟩,
  ⟨some 11, .assign (.tmp 33), none, []⟩] [9, 10, 11, 20, 31, 32, 33, 36, 81, 82, 83, 84]) (.seq (.reg [⟨some 34, .move (.tmp 11), none, []⟩,
  ⟨some 35, .binOp .neq 55 (.tmp 34) (.const .nilIface) 55, none, []⟩] [9, 10, 20, 31, 32, 35, 36, 81, 82, 83, 84]) (.seq (.cond (.tmp 35) (.seq (.reg [⟨some 36, .call { callee := .value (.func 30), args := #[], argTypes := #[] }, none, []⟩,
  ⟨some 8, .assign (.tmp 36), none, []⟩] [8, 36, 81, 82, 83, 84]) .ret) .skip) (.seq (.reg [⟨some 37, .load 30 (.tmp 9), none, []⟩,
  ⟨some 38, .call { callee := .value (.func 33), args := #[.tmp 37], argTypes := #[30] }, none, []⟩,
  ⟨some 12, .assign (.tmp 38), none, []⟩] [10, 12, 20, 31, 32, 36, 38, 81, 82, 83, 84]) (.seq (.reg [⟨some 13, .assign (.const (.int .i64 1000)), none, []⟩,
  ⟨some 14, .assign (.const (.int .i64 0)), none, []⟩] [10, 12, 13, 14, 16, 20, 31, 32, 36, 38, 69, 73, 77, 81, 82, 83, 84]) (.seq (.reg [⟨some 15, .assign (.const (.int .i64 0)), none, []⟩] [10, 12, 13, 14, 15, 16, 20, 31, 32, 36, 38, 44, 69, 73, 77, 81, 82, 83, 84]) (.seq (.block 0 (.seq (.loop (.seq (.reg [⟨some 39, .move (.tmp 15), none, []⟩,
  ⟨some 40, .move (.tmp 12), none, []⟩,
  ⟨some 41, .call { callee := .builtin .len, args := #[.tmp 40], argTypes := #[41] }, none, []⟩,
  ⟨some 42, .binOp .lss 3 (.tmp 39) (.tmp 41) 3, none, []⟩] [10, 12, 13, 14, 15, 16, 20, 31, 32, 36, 38, 42, 44, 69, 73, 77, 81, 82, 83, 84]) (.seq (.cond (.tmp 42) .skip (.exit 0)) (.seq (.block 1 (.seq (.reg [⟨some 16, .assign (.const (.int .i64 0)), none, []⟩] [10, 12, 13, 14, 15, 16, 20, 31, 32, 36, 38, 44, 69, 73, 77, 81, 82, 83, 84]) (.seq (.reg [⟨some 17, .assign (.const (.int .i64 0)), none, []⟩] [10, 12, 13, 14, 15, 16, 17, 20, 31, 32, 36, 38, 44, 50, 69, 73, 77, 81, 82, 83, 84]) (.seq (.block 2 (.seq (.loop (.seq (.reg [⟨some 45, .move (.tmp 17), none, []⟩,
  ⟨some 46, .move (.tmp 10), none, []⟩,
  ⟨some 47, .call { callee := .builtin .len, args := #[.tmp 46], argTypes := #[64] }, none, []⟩,
  ⟨some 48, .binOp .lss 3 (.tmp 45) (.tmp 47) 3, none, []⟩] [10, 12, 13, 14, 15, 16, 17, 20, 31, 32, 36, 38, 44, 48, 50, 69, 73, 77, 81, 82, 83, 84]) (.seq (.cond (.tmp 48) .skip (.exit 2)) (.seq (.block 3 (.seq (.reg [⟨some 51, .move (.tmp 10), none, []⟩,
  ⟨some 52, .move (.tmp 17), none, []⟩,
  ⟨some 53, .indexAddr 64 (.tmp 51) (.tmp 52), none, []⟩,
  ⟨some 54, .load 41 (.tmp 53), none, []⟩,
  ⟨some 55, .call { callee := .builtin .len, args := #[.tmp 54], argTypes := #[41] }, none, []⟩,
  ⟨some 56, .binOp .eql 3 (.tmp 55) (.const (.int .i64 0)) 3, none, []⟩] [10, 12, 13, 14, 15, 16, 17, 20, 31, 32, 36, 38, 44, 50, 56, 69, 73, 77, 81, 82, 83, 84]) (.seq (.cond (.tmp 56) (.seq (.reg [⟨some 8, .assign (.const (.bool false)), none, []⟩] [8, 36, 81, 82, 83, 84]) .ret) .skip) (.seq (.reg [⟨some 57, .move (.tmp 10), none, [58, 63, 64, 65, 66]⟩,
  ⟨some 58, .move (.tmp 17), none, [57, 63, 64, 65, 66]⟩,
  ⟨some 59, .indexAddr 64 (.tmp 57) (.tmp 58), none, [63, 64, 65, 66]⟩,
  ⟨some 60, .load 41 (.tmp 59), none, [63, 64, 65, 66]⟩,
  ⟨some 61, .indexAddr 41 (.tmp 60) (.const (.int .i64 0)), none, [63, 64, 65, 66]⟩,
  ⟨some 62, .load 3 (.tmp 61), none, [63, 64, 65, 66]⟩,
  ⟨some 63, .move (.tmp 12), none, [57, 58, 59, 60, 61, 62, 64]⟩,
  ⟨some 64, .move (.tmp 15), none, [57, 58, 59, 60, 61, 62, 63]⟩,
  ⟨some 65, .indexAddr 41 (.tmp 63) (.tmp 64), none, [57, 58, 59, 60, 61, 62]⟩,
  ⟨some 66, .load 3 (.tmp 65), none, [57, 58, 59, 60, 61, 62]⟩,
  ⟨some 67, .binOp .eql 3 (.tmp 62) (.tmp 66) 3, none, []⟩] [10, 12, 13, 14, 15, 16, 17, 20, 31, 32, 36, 38, 44, 50, 67, 69, 73, 77, 81, 82, 83, 84]) (.seq (.cond (.tmp 67) (.seq (.reg [⟨some 68, .move (.tmp 16), none, []⟩,
  ⟨some 69, .binOp .add 3 (.tmp 68) (.const (.int .i64 1)) 3, none, []⟩,
  ⟨some 16, .assign (.tmp 69), none, []⟩] [10, 12, 13, 14, 15, 16, 17, 20, 31, 32, 36, 38, 44, 50, 69, 73, 77, 81, 82, 83, 84]) .skip) .skip) .skip))))) (.seq (.reg [⟨some 49, .move (.tmp 17), none, []⟩,
  ⟨some 50, .binOp .add 3 (.tmp 49) (.const (.int .i64 1)) 3, none, []⟩,
  ⟨some 17, .assign (.tmp 50), none, []⟩] [10, 12, 13, 14, 15, 16, 17, 20, 31, 32, 36, 38, 44, 50, 69, 73, 77, 81, 82, 83, 84]) .skip))))) .skip)) (.seq (.reg [⟨some 70, .move (.tmp 16), none, []⟩,
  ⟨some 71, .move (.tmp 13), none, []⟩,
  ⟨some 72, .binOp .lss 3 (.tmp 70) (.tmp 71) 3, none, []⟩] [10, 12, 13, 14, 15, 16, 20, 31, 32, 36, 38, 44, 69, 72, 73, 77, 81, 82, 83, 84]) (.seq (.cond (.tmp 72) (.seq (.reg [⟨some 73, .move (.tmp 16), none, []⟩,
  ⟨some 13, .assign (.tmp 73), none, []⟩] [10, 12, 13, 14, 15, 16, 20, 31, 32, 36, 38, 44, 69, 73, 77, 81, 82, 83, 84]) .skip) .skip) (.seq (.reg [⟨some 74, .move (.tmp 16), none, []⟩,
  ⟨some 75, .move (.tmp 14), none, []⟩,
  ⟨some 76, .binOp .gtr 3 (.tmp 74) (.tmp 75) 3, none, []⟩] [10, 12, 13, 14, 15, 16, 20, 31, 32, 36, 38, 44, 69, 73, 76, 77, 81, 82, 83, 84]) (.seq (.cond (.tmp 76) (.seq (.reg [⟨some 77, .move (.tmp 16), none, []⟩,
  ⟨some 14, .assign (.tmp 77), none, []⟩] [10, 12, 13, 14, 15, 16, 20, 31, 32, 36, 38, 44, 69, 73, 77, 81, 82, 83, 84]) .skip) .skip) .skip)))))))) (.seq (.reg [⟨some 43, .move (.tmp 15), none, []⟩,
  ⟨some 44, .binOp .add 3 (.tmp 43) (.const (.int .i64 1)) 3, none, []⟩,
  ⟨some 15, .assign (.tmp 44), none, []⟩] [10, 12, 13, 14, 15, 16, 20, 31, 32, 36, 38, 44, 69, 73, 77, 81, 82, 83, 84]) .skip))))) .skip)) (.seq (.reg [⟨some 78, .move (.tmp 14), none, []⟩,
  ⟨some 79, .move (.tmp 13), none, []⟩,
  ⟨some 80, .binOp .add 3 (.tmp 79) (.const (.int .i64 1)) 3, none, []⟩,
  ⟨some 81, .binOp .leq 3 (.tmp 78) (.tmp 80) 3, none, []⟩,
  ⟨some 82, .move (.tmp 81), none, []⟩,
  ⟨some 83, .call { callee := .value (.func 30), args := #[], argTypes := #[] }, (some (82, true)), []⟩,
  ⟨some 84, .pick (.tmp 82) (.tmp 83) (.const (.bool false)), none, []⟩,
  ⟨some 8, .assign (.tmp 84), none, []⟩] [8, 36, 81, 82, 83, 84]) .ret))))))))))
theorem s8 : TextK Proofs.Try.prog 0 8 85 [ResultVar.tmp 8] c8 := .mk' Proofs.Try.f8 _ (by kernel_rfl) rfl rfl rfl (by kernel_rfl) rfl (by kernel_rfl)
theorem spreads_walk (l : List Int) (parts r start : Int) (hp : 0 ≤ parts ∧ parts ≤ 255) (hr : 0 ≤ r ∧ r ≤ 255) (hst : 0 ≤ start ∧ start ≤ 65535) :
    ACall pg 8 [.sl (l.map U8), .c (.int .u8 parts), .c (.int .u8 r), .c (.int .u16 start)] (B true) := by
  refine s8.call mo (by simp) fun hxs => ?_
  clear hxs
  unfold c8
  have hb := brokersL_ok l
  have few := lawM_few l
  generalize lawM l = m at hb few
  obtain ⟨k, hk, hk15⟩ := tmodN (x := parts) (n := 30) hp.1 (by omega)
  obtain ⟨q, hq, hq8⟩ := tmodN (x := r) (n := 8) hr.1 (by omega)
  simp only [Int.cast_ofNat_Int] at hk hq
  have ha := assign_ok m (1 + k) q start few.len few.hor few.hnd
  have hw := worksP_ok
  rcases hx : m.assign (1 + k) q start with ⟨rows, er⟩
  rw [hx] at ha
  cases er with
  | some e =>
    repeat' first
        | (with_reducible first | refine thN ?_ | refine thR ?_ | refine thE ?_ | refine inN ?_ | refine inR ?_ | refine inH ?_ | refine fF ?_ | refine fS ?_ | refine fR ?_ | refine fQ ?_ | refine fC ?_ | refine fB ?_ | refine fL ?_ | refine fE ?_ | refine fT ?_ | refine awBlock ?_ | refine awExit ?_ | refine awRet ?_ | refine awSkip ?_ | refine inM (by decide) ?_)
        | ((with_reducible refine awReg fun K hok hK => ?_); clear hok; (try simp (maxSteps := 10000000) (disch := first | omega | simp) [hk, hq, isConst]); (repeat' first
            | (with_reducible refine hK _ (by simp) ?_)
            | ((with_reducible refine gdT (fun h => ?_) (fun h => ?_)) <;> (simp (maxSteps := 10000000) (disch := first | omega | simp) [h, hk, hq, isConst]; (try simp at h); (try (exfalso; omega))))
            | ((with_reducible refine gdF (fun h => ?_) (fun h => ?_)) <;> (simp (maxSteps := 10000000) (disch := first | omega | simp) [h, hk, hq, isConst]; (try simp at h); (try (exfalso; omega))))
            | ((with_reducible refine callS' fun K2 hK2 => ?_); (try simp (maxSteps := 10000000) (disch := first | omega | simp) [hk, hq, isConst]); (first | (refine hK2 _ _ (hb) rfl fun hk9 => ?_; clear hk9) | (refine hK2 _ _ (ha) rfl fun hk9 => ?_; clear hk9) | (refine hK2 _ _ (hw) rfl fun hk9 => ?_; clear hk9)); clear hK2 K2; (try simp (maxSteps := 10000000) (disch := first | omega | simp) [hk, hq, isConst]))
            | ((with_reducible refine callF' fun K2 hK2 => ?_); (try simp (maxSteps := 10000000) (disch := first | omega | simp) [hk, hq, isConst]); (first | refine hK2 _ _ _ (hb) fun _ => ?_ | refine hK2 _ _ _ (ha) fun _ => ?_ | refine hK2 _ _ _ (hw) fun _ => ?_); clear hK2 K2; (try simp (maxSteps := 10000000) (disch := first | omega | simp) [hk, hq, isConst]))
            | ((with_reducible refine callM' rfl fun K2 hK2 => ?_); (try simp (maxSteps := 10000000) (disch := first | omega | simp) [hk, hq, isConst]); (first | refine hK2 _ _ _ _ _ _ _ (hb) rfl fun _ _ => ?_ | refine hK2 _ _ _ _ _ _ _ (ha) rfl fun _ _ => ?_ | refine hK2 _ _ _ _ _ _ _ (hw) rfl fun _ _ => ?_); clear hK2 K2; (try simp (maxSteps := 10000000) (disch := first | omega | simp) [hk, hq, isConst]))
            | ((with_reducible refine callT' rfl fun K2 hK2 => ?_); (try simp (maxSteps := 10000000) (disch := first | omega | simp) [hk, hq, isConst]); (first | refine hK2 _ _ _ _ _ (hb) fun _ => ?_ | refine hK2 _ _ _ _ _ (ha) fun _ => ?_ | refine hK2 _ _ _ _ _ (hw) fun _ => ?_); clear hK2 K2; (try simp (maxSteps := 10000000) (disch := first | omega | simp) [hk, hq, isConst]))
            | ((with_reducible refine sideSt' fun K2 hK2 => ?_); (try simp (maxSteps := 10000000) (disch := first | omega | simp) [hk, hq, isConst]); refine hK2 _ ?_; clear hK2 K2; (try simp (maxSteps := 10000000) (disch := first | omega | simp) [hk, hq, isConst]))
            | ((with_reducible refine gdU ?_); (try simp (maxSteps := 10000000) (disch := first | omega | simp) [hk, hq, isConst]))
            | ((with_reducible refine sideQ' ?_ ?_ fun K2 hK2 => ?_); exact rfl; exact rfl; (try simp (maxSteps := 10000000) (disch := first | omega | simp) [hk, hq, isConst]); with_reducible refine hK2 _ _ ?_; clear hK2 K2; (try simp (maxSteps := 10000000) (disch := first | omega | simp) [hk, hq, isConst]))
            | ((with_reducible refine side' ?_ fun K2 hK2 => ?_); exact rfl; (try simp (maxSteps := 10000000) (disch := first | omega | simp) [hk, hq, isConst]); refine hK2 _ _ (by simp) ?_; clear hK2 K2; (try simp (maxSteps := 10000000) (disch := first | omega | simp) [hk, hq, isConst]))) <;> clear hK K)
        | ((with_reducible refine awCond fun A B hA hB => ?_); simp (maxSteps := 10000000) (disch := first | omega | simp) [hk, hq, isConst]; (first | refine ⟨fun h => hA ?_, fun h => hB ?_⟩ | refine hA ?_ | refine hB ?_) <;> (clear hA hB A B; (try (exfalso; omega))))
    all_goals (refine aEnR (aRes [] fun K hK => ?_); simp (maxSteps := 10000000) (disch := first | omega | simp) []; refine hK _ ?_ (by simp); simp (maxSteps := 10000000) (disch := first | omega | simp) [])
  | none =>
    obtain ⟨h1, h2, h3, h4, h5, h6, h7⟩ := assign_none hx
    have hrl : rows.length = 1 + k := by rw [h1, rowsP_len]; omega
    have hrow : ∀ row ∈ rows, row.length = q := fun row h => (rowsP_mem few (s := start.toNat) (P := (1 + (k : Int)).toNat) (by omega) (by rw [h1] at h; simpa using h)).1
    have hr1 := refOrder_ok m few.len
    have hol : (refOrder m).length ≤ 100 := by rw [← few.refp.length_eq]; exact few.olen
    have hsp : ∀ id ∈ refOrder m, (1 + k) / m.order.length ≤ rows.countP (fun row => row.getD 0 0 == id) ∧ rows.countP (fun row => row.getD 0 0 == id) ≤ (1 + k) / m.order.length + 1 := by
      intro id hid
      have := spread (m := m) start.toNat q (1 + k) (by omega) (fun id hid => (few.hor id hid).1) few.hnd (few.refp.mem_iff.2 hid)
      rw [h1]
      have e1 : ((q : Int)).toNat = q := by omega
      have e2 : (1 + (k : Int)).toNat = 1 + k := by omega
      rw [e1, e2]
      exact this
    have hQ : (1 + k) / m.order.length ≤ 30 := Nat.le_trans (Nat.div_le_self _ _) (by omega)
    generalize (1 + k) / m.order.length = Q at *
    generalize refOrder m = ro at *
    clear hx h1
    repeat' first
        | (with_reducible first | refine thN ?_ | refine thR ?_ | refine thE ?_ | refine inN ?_ | refine inR ?_ | refine inH ?_ | refine fF ?_ | refine fS ?_ | refine fR ?_ | refine fQ ?_ | refine fC ?_ | refine fB ?_ | refine fL ?_ | refine fE ?_ | refine fT ?_ | refine awBlock ?_ | refine awExit ?_ | refine awRet ?_ | refine awSkip ?_ | refine inM (by decide) ?_)
        | ((with_reducible refine awReg fun K hok hK => ?_); clear hok; (try simp (maxSteps := 10000000) (disch := first | omega | simp) [hk, hq, isConst]); (repeat' first
            | (with_reducible refine hK _ (by simp) ?_)
            | ((with_reducible refine gdT (fun h => ?_) (fun h => ?_)) <;> (simp (maxSteps := 10000000) (disch := first | omega | simp) [h, hk, hq, isConst]; (try simp at h); (try (exfalso; omega))))
            | ((with_reducible refine gdF (fun h => ?_) (fun h => ?_)) <;> (simp (maxSteps := 10000000) (disch := first | omega | simp) [h, hk, hq, isConst]; (try simp at h); (try (exfalso; omega))))
            | ((with_reducible refine callS' fun K2 hK2 => ?_); (try simp (maxSteps := 10000000) (disch := first | omega | simp) [hk, hq, isConst]); (first | (refine hK2 _ _ (hb) rfl fun hk9 => ?_; clear hk9) | (refine hK2 _ _ (ha) rfl fun hk9 => ?_; clear hk9) | (refine hK2 _ _ (hr1) rfl fun hk9 => ?_; clear hk9)); clear hK2 K2; (try simp (maxSteps := 10000000) (disch := first | omega | simp) [hk, hq, isConst]))
            | ((with_reducible refine callF' fun K2 hK2 => ?_); (try simp (maxSteps := 10000000) (disch := first | omega | simp) [hk, hq, isConst]); (first | refine hK2 _ _ _ (hb) fun _ => ?_ | refine hK2 _ _ _ (ha) fun _ => ?_ | refine hK2 _ _ _ (hr1) fun _ => ?_); clear hK2 K2; (try simp (maxSteps := 10000000) (disch := first | omega | simp) [hk, hq, isConst]))
            | ((with_reducible refine callM' rfl fun K2 hK2 => ?_); (try simp (maxSteps := 10000000) (disch := first | omega | simp) [hk, hq, isConst]); (first | refine hK2 _ _ _ _ _ _ _ (hb) rfl fun _ _ => ?_ | refine hK2 _ _ _ _ _ _ _ (ha) rfl fun _ _ => ?_ | refine hK2 _ _ _ _ _ _ _ (hr1) rfl fun _ _ => ?_); clear hK2 K2; (try simp (maxSteps := 10000000) (disch := first | omega | simp) [hk, hq, isConst]))
            | ((with_reducible refine callT' rfl fun K2 hK2 => ?_); (try simp (maxSteps := 10000000) (disch := first | omega | simp) [hk, hq, isConst]); (first | refine hK2 _ _ _ _ _ (hb) fun _ => ?_ | refine hK2 _ _ _ _ _ (ha) fun _ => ?_ | refine hK2 _ _ _ _ _ (hr1) fun _ => ?_); clear hK2 K2; (try simp (maxSteps := 10000000) (disch := first | omega | simp) [hk, hq, isConst]))
            | ((with_reducible refine sideSt' fun K2 hK2 => ?_); (try simp (maxSteps := 10000000) (disch := first | omega | simp) [hk, hq, isConst]); refine hK2 _ ?_; clear hK2 K2; (try simp (maxSteps := 10000000) (disch := first | omega | simp) [hk, hq, isConst]))
            | ((with_reducible refine gdU ?_); (try simp (maxSteps := 10000000) (disch := first | omega | simp) [hk, hq, isConst]))
            | ((with_reducible refine sideQ' ?_ ?_ fun K2 hK2 => ?_); exact rfl; exact rfl; (try simp (maxSteps := 10000000) (disch := first | omega | simp) [hk, hq, isConst]); with_reducible refine hK2 _ _ ?_; clear hK2 K2; (try simp (maxSteps := 10000000) (disch := first | omega | simp) [hk, hq, isConst]))
            | ((with_reducible refine side' ?_ fun K2 hK2 => ?_); exact rfl; (try simp (maxSteps := 10000000) (disch := first | omega | simp) [hk, hq, isConst]); refine hK2 _ _ (by simp) ?_; clear hK2 K2; (try simp (maxSteps := 10000000) (disch := first | omega | simp) [hk, hq, isConst]))) <;> clear hK K)
        | ((with_reducible refine awCond fun A B hA hB => ?_); simp (maxSteps := 10000000) (disch := first | omega | simp) [hk, hq, isConst]; (first | refine ⟨fun h => hA ?_, fun h => hB ?_⟩ | refine hA ?_ | refine hB ?_) <;> (clear hA hB A B; (try (exfalso; omega))))
    refine awFor ro.length (fun j (s : Int × Int) => (Q : Int) ≤ s.1 ∧ s.1 ≤ 1000 ∧ 0 ≤ s.2 ∧ s.2 ≤ Q + 1) (fun j s => [(15, .p (I j)), (14, .p (I s.2)), (13, .p (I s.1)), (12, .p (.sl (ro.map I))), (10, .p (.sl (rows.map Li)))]) (1000, 0)
      ((Wk.frz0 (r := 10) rfl).trans ((Wk.frz0 (r := 12) rfl).trans (Wk.ofA (by simp)))) ⟨by simp only; omega, by simp only; omega, by simp only; omega, by simp only; omega⟩ fun j s hj hs => ?_
    obtain ⟨least, most⟩ := s
    simp only at hs
    by_cases hjl : j < ro.length
    · have hspj := hsp ro[j] (List.getElem_mem hjl)
      repeat' first
          | (with_reducible first | refine thN ?_ | refine thR ?_ | refine thE ?_ | refine inN ?_ | refine inR ?_ | refine inH ?_ | refine fF ?_ | refine fS ?_ | refine fR ?_ | refine fQ ?_ | refine fC ?_ | refine fB ?_ | refine fL ?_ | refine fE ?_ | refine fT ?_ | refine awBlock ?_ | refine awExit ?_ | refine awRet ?_ | refine awSkip ?_ | refine inM (by decide) ?_)
          | ((with_reducible refine awReg fun K hok hK => ?_); clear hok; (try simp (maxSteps := 10000000) (disch := first | omega | simp) [hjl]); (repeat' first
              | (with_reducible refine hK _ (by simp) ?_)
              | ((with_reducible refine gdT (fun h => ?_) (fun h => ?_)) <;> (simp (maxSteps := 10000000) (disch := first | omega | simp) [h, hjl]; (try simp at h); (try (exfalso; omega))))
              | ((with_reducible refine gdF (fun h => ?_) (fun h => ?_)) <;> (simp (maxSteps := 10000000) (disch := first | omega | simp) [h, hjl]; (try simp at h); (try (exfalso; omega))))
              | ((with_reducible refine sideSt' fun K2 hK2 => ?_); (try simp (maxSteps := 10000000) (disch := first | omega | simp) [hjl]); refine hK2 _ ?_; clear hK2 K2; (try simp (maxSteps := 10000000) (disch := first | omega | simp) [hjl]))
              | ((with_reducible refine gdU ?_); (try simp (maxSteps := 10000000) (disch := first | omega | simp) [hjl]))
              | ((with_reducible refine sideQ' ?_ ?_ fun K2 hK2 => ?_); exact rfl; exact rfl; (try simp (maxSteps := 10000000) (disch := first | omega | simp) [hjl]); with_reducible refine hK2 _ _ ?_; clear hK2 K2; (try simp (maxSteps := 10000000) (disch := first | omega | simp) [hjl]))
              | ((with_reducible refine side' ?_ fun K2 hK2 => ?_); exact rfl; (try simp (maxSteps := 10000000) (disch := first | omega | simp) [hjl]); refine hK2 _ _ (by simp) ?_; clear hK2 K2; (try simp (maxSteps := 10000000) (disch := first | omega | simp) [hjl]))) <;> clear hK K)
          | ((with_reducible refine awCond fun A B hA hB => ?_); simp (maxSteps := 10000000) (disch := first | omega | simp) [hjl]; (first | refine ⟨fun h => hA ?_, fun h => hB ?_⟩ | refine hA ?_ | refine hB ?_) <;> (clear hA hB A B; (try (exfalso; omega))))
      refine awFor rows.length (fun i (n : Nat) => n + (rows.drop i).countP (fun row => row.getD 0 0 == ro[j]) = rows.countP (fun row => row.getD 0 0 == ro[j]) ∧ n ≤ i)
        (fun i n => [(17, .p (I i)), (16, .p (I n)), (15, .p (I j)), (14, .p (I most)), (13, .p (I least)), (12, .p (.sl (ro.map I))), (10, .p (.sl (rows.map Li)))]) 0 (Wk.ofA (by simp)) ⟨by simp, by omega⟩ fun i n hi hn => ?_
      obtain ⟨hn, hni⟩ := hn
      by_cases hlt : i < rows.length
      · rw [drop_cons hlt, List.countP_cons] at hn
        have g1 := hrow rows[i] (List.getElem_mem hlt)
        have hg0 : 0 < rows[i].length := by omega
        have hq0 : ¬ (q : Int) = 0 := by omega
        have hg : rows[i].getD 0 0 = rows[i][0] := by rw [List.getD_eq_getElem?_getD, List.getElem?_eq_getElem hg0]; rfl
        rw [hg] at hn
        by_cases he : rows[i][0] = ro[j]
        · have he2 : (rows[i][0] == ro[j]) = true := by simpa using he
          rw [he2] at hn
          simp only [if_true] at hn
          repeat' first
              | (with_reducible first | refine thN ?_ | refine thR ?_ | refine thE ?_ | refine inN ?_ | refine inR ?_ | refine inH ?_ | refine fF ?_ | refine fS ?_ | refine fR ?_ | refine fQ ?_ | refine fC ?_ | refine fB ?_ | refine fL ?_ | refine fE ?_ | refine fT ?_ | refine awBlock ?_ | refine awExit ?_ | refine awRet ?_ | refine awSkip ?_ | refine inM (by decide) ?_)
              | ((with_reducible refine awReg fun K hok hK => ?_); clear hok; (try simp (maxSteps := 10000000) (disch := first | omega | simp) [hjl, hlt, g1, hg0, he, hq0]); (repeat' first
                  | (with_reducible refine hK _ (by simp) ?_)
                  | ((with_reducible refine gdT (fun h => ?_) (fun h => ?_)) <;> (simp (maxSteps := 10000000) (disch := first | omega | simp) [h, hjl, hlt, g1, hg0, he, hq0]; (try simp at h); (try (exfalso; omega))))
                  | ((with_reducible refine gdF (fun h => ?_) (fun h => ?_)) <;> (simp (maxSteps := 10000000) (disch := first | omega | simp) [h, hjl, hlt, g1, hg0, he, hq0]; (try simp at h); (try (exfalso; omega))))
                  | ((with_reducible refine sideSt' fun K2 hK2 => ?_); (try simp (maxSteps := 10000000) (disch := first | omega | simp) [hjl, hlt, g1, hg0, he, hq0]); refine hK2 _ ?_; clear hK2 K2; (try simp (maxSteps := 10000000) (disch := first | omega | simp) [hjl, hlt, g1, hg0, he, hq0]))
                  | ((with_reducible refine gdU ?_); (try simp (maxSteps := 10000000) (disch := first | omega | simp) [hjl, hlt, g1, hg0, he, hq0]))
                  | ((with_reducible refine sideQ' ?_ ?_ fun K2 hK2 => ?_); exact rfl; exact rfl; (try simp (maxSteps := 10000000) (disch := first | omega | simp) [hjl, hlt, g1, hg0, he, hq0]); with_reducible refine hK2 _ _ ?_; clear hK2 K2; (try simp (maxSteps := 10000000) (disch := first | omega | simp) [hjl, hlt, g1, hg0, he, hq0]))
                  | ((with_reducible refine side' ?_ fun K2 hK2 => ?_); exact rfl; (try simp (maxSteps := 10000000) (disch := first | omega | simp) [hjl, hlt, g1, hg0, he, hq0]); refine hK2 _ _ (by simp) ?_; clear hK2 K2; (try simp (maxSteps := 10000000) (disch := first | omega | simp) [hjl, hlt, g1, hg0, he, hq0]))) <;> clear hK K)
              | ((with_reducible refine awCond fun A B hA hB => ?_); simp (maxSteps := 10000000) (disch := first | omega | simp) [hjl, hlt, g1, hg0, he, hq0]; (first | refine ⟨fun h => hA ?_, fun h => hB ?_⟩ | refine hA ?_ | refine hB ?_) <;> (clear hA hB A B; (try (exfalso; omega))))
          (refine ⟨?_, n + 1, ?_, Wk.ofA ?_⟩; assumption; rotate_left; focus (simp []; done))
          exact ⟨by omega, by omega⟩
        · have he2 : (rows[i][0] == ro[j]) = false := by simpa using he
          rw [he2] at hn
          simp only [Bool.false_eq_true, if_false] at hn
          repeat' first
              | (with_reducible first | refine thN ?_ | refine thR ?_ | refine thE ?_ | refine inN ?_ | refine inR ?_ | refine inH ?_ | refine fF ?_ | refine fS ?_ | refine fR ?_ | refine fQ ?_ | refine fC ?_ | refine fB ?_ | refine fL ?_ | refine fE ?_ | refine fT ?_ | refine awBlock ?_ | refine awExit ?_ | refine awRet ?_ | refine awSkip ?_ | refine inM (by decide) ?_)
              | ((with_reducible refine awReg fun K hok hK => ?_); clear hok; (try simp (maxSteps := 10000000) (disch := first | omega | simp) [hjl, hlt, g1, hg0, he, hq0]); (repeat' first
                  | (with_reducible refine hK _ (by simp) ?_)
                  | ((with_reducible refine gdT (fun h => ?_) (fun h => ?_)) <;> (simp (maxSteps := 10000000) (disch := first | omega | simp) [h, hjl, hlt, g1, hg0, he, hq0]; (try simp at h); (try (exfalso; omega))))
                  | ((with_reducible refine gdF (fun h => ?_) (fun h => ?_)) <;> (simp (maxSteps := 10000000) (disch := first | omega | simp) [h, hjl, hlt, g1, hg0, he, hq0]; (try simp at h); (try (exfalso; omega))))
                  | ((with_reducible refine sideSt' fun K2 hK2 => ?_); (try simp (maxSteps := 10000000) (disch := first | omega | simp) [hjl, hlt, g1, hg0, he, hq0]); refine hK2 _ ?_; clear hK2 K2; (try simp (maxSteps := 10000000) (disch := first | omega | simp) [hjl, hlt, g1, hg0, he, hq0]))
                  | ((with_reducible refine gdU ?_); (try simp (maxSteps := 10000000) (disch := first | omega | simp) [hjl, hlt, g1, hg0, he, hq0]))
                  | ((with_reducible refine sideQ' ?_ ?_ fun K2 hK2 => ?_); exact rfl; exact rfl; (try simp (maxSteps := 10000000) (disch := first | omega | simp) [hjl, hlt, g1, hg0, he, hq0]); with_reducible refine hK2 _ _ ?_; clear hK2 K2; (try simp (maxSteps := 10000000) (disch := first | omega | simp) [hjl, hlt, g1, hg0, he, hq0]))
                  | ((with_reducible refine side' ?_ fun K2 hK2 => ?_); exact rfl; (try simp (maxSteps := 10000000) (disch := first | omega | simp) [hjl, hlt, g1, hg0, he, hq0]); refine hK2 _ _ (by simp) ?_; clear hK2 K2; (try simp (maxSteps := 10000000) (disch := first | omega | simp) [hjl, hlt, g1, hg0, he, hq0]))) <;> clear hK K)
              | ((with_reducible refine awCond fun A B hA hB => ?_); simp (maxSteps := 10000000) (disch := first | omega | simp) [hjl, hlt, g1, hg0, he, hq0]; (first | refine ⟨fun h => hA ?_, fun h => hB ?_⟩ | refine hA ?_ | refine hB ?_) <;> (clear hA hB A B; (try (exfalso; omega))))
          (refine ⟨?_, n, ?_, Wk.ofA ?_⟩; assumption; rotate_left; focus (simp []; done))
          exact ⟨by omega, by omega⟩
      · have e : rows.countP (fun row => row.getD 0 0 == ro[j]) = n := by rw [drop_nil (by omega)] at hn; simpa using hn.symm
        rw [e] at hspj
        clear hn e
        by_cases c1 : (n : Int) < least
        · by_cases c2 : most < (n : Int)
          · repeat' first
                | (with_reducible first | refine thN ?_ | refine thR ?_ | refine thE ?_ | refine inN ?_ | refine inR ?_ | refine inH ?_ | refine fF ?_ | refine fS ?_ | refine fR ?_ | refine fQ ?_ | refine fC ?_ | refine fB ?_ | refine fL ?_ | refine fE ?_ | refine fT ?_ | refine awBlock ?_ | refine awExit ?_ | refine awRet ?_ | refine awSkip ?_ | refine inM (by decide) ?_)
                | ((with_reducible refine awReg fun K hok hK => ?_); clear hok; (try simp (maxSteps := 10000000) (disch := first | omega | simp) [hlt, c1, c2]); (repeat' first
                    | (with_reducible refine hK _ (by simp) ?_)
                    | ((with_reducible refine gdT (fun h => ?_) (fun h => ?_)) <;> (simp (maxSteps := 10000000) (disch := first | omega | simp) [h, hlt, c1, c2]; (try simp at h); (try (exfalso; omega))))
                    | ((with_reducible refine gdF (fun h => ?_) (fun h => ?_)) <;> (simp (maxSteps := 10000000) (disch := first | omega | simp) [h, hlt, c1, c2]; (try simp at h); (try (exfalso; omega))))
                    | ((with_reducible refine sideSt' fun K2 hK2 => ?_); (try simp (maxSteps := 10000000) (disch := first | omega | simp) [hlt, c1, c2]); refine hK2 _ ?_; clear hK2 K2; (try simp (maxSteps := 10000000) (disch := first | omega | simp) [hlt, c1, c2]))
                    | ((with_reducible refine gdU ?_); (try simp (maxSteps := 10000000) (disch := first | omega | simp) [hlt, c1, c2]))
                    | ((with_reducible refine sideQ' ?_ ?_ fun K2 hK2 => ?_); exact rfl; exact rfl; (try simp (maxSteps := 10000000) (disch := first | omega | simp) [hlt, c1, c2]); with_reducible refine hK2 _ _ ?_; clear hK2 K2; (try simp (maxSteps := 10000000) (disch := first | omega | simp) [hlt, c1, c2]))
                    | ((with_reducible refine side' ?_ fun K2 hK2 => ?_); exact rfl; (try simp (maxSteps := 10000000) (disch := first | omega | simp) [hlt, c1, c2]); refine hK2 _ _ (by simp) ?_; clear hK2 K2; (try simp (maxSteps := 10000000) (disch := first | omega | simp) [hlt, c1, c2]))) <;> clear hK K)
                | ((with_reducible refine awCond fun A B hA hB => ?_); simp (maxSteps := 10000000) (disch := first | omega | simp) [hlt, c1, c2]; (first | refine ⟨fun h => hA ?_, fun h => hB ?_⟩ | refine hA ?_ | refine hB ?_) <;> (clear hA hB A B; (try (exfalso; omega))))
            (refine ⟨?_, ((n : Int), (n : Int)), ?_, Wk.ofA ?_⟩; assumption; rotate_left; focus (simp []; done))
            simp only; omega
          · repeat' first
                | (with_reducible first | refine thN ?_ | refine thR ?_ | refine thE ?_ | refine inN ?_ | refine inR ?_ | refine inH ?_ | refine fF ?_ | refine fS ?_ | refine fR ?_ | refine fQ ?_ | refine fC ?_ | refine fB ?_ | refine fL ?_ | refine fE ?_ | refine fT ?_ | refine awBlock ?_ | refine awExit ?_ | refine awRet ?_ | refine awSkip ?_ | refine inM (by decide) ?_)
                | ((with_reducible refine awReg fun K hok hK => ?_); clear hok; (try simp (maxSteps := 10000000) (disch := first | omega | simp) [hlt, c1, c2]); (repeat' first
                    | (with_reducible refine hK _ (by simp) ?_)
                    | ((with_reducible refine gdT (fun h => ?_) (fun h => ?_)) <;> (simp (maxSteps := 10000000) (disch := first | omega | simp) [h, hlt, c1, c2]; (try simp at h); (try (exfalso; omega))))
                    | ((with_reducible refine gdF (fun h => ?_) (fun h => ?_)) <;> (simp (maxSteps := 10000000) (disch := first | omega | simp) [h, hlt, c1, c2]; (try simp at h); (try (exfalso; omega))))
                    | ((with_reducible refine sideSt' fun K2 hK2 => ?_); (try simp (maxSteps := 10000000) (disch := first | omega | simp) [hlt, c1, c2]); refine hK2 _ ?_; clear hK2 K2; (try simp (maxSteps := 10000000) (disch := first | omega | simp) [hlt, c1, c2]))
                    | ((with_reducible refine gdU ?_); (try simp (maxSteps := 10000000) (disch := first | omega | simp) [hlt, c1, c2]))
                    | ((with_reducible refine sideQ' ?_ ?_ fun K2 hK2 => ?_); exact rfl; exact rfl; (try simp (maxSteps := 10000000) (disch := first | omega | simp) [hlt, c1, c2]); with_reducible refine hK2 _ _ ?_; clear hK2 K2; (try simp (maxSteps := 10000000) (disch := first | omega | simp) [hlt, c1, c2]))
                    | ((with_reducible refine side' ?_ fun K2 hK2 => ?_); exact rfl; (try simp (maxSteps := 10000000) (disch := first | omega | simp) [hlt, c1, c2]); refine hK2 _ _ (by simp) ?_; clear hK2 K2; (try simp (maxSteps := 10000000) (disch := first | omega | simp) [hlt, c1, c2]))) <;> clear hK K)
                | ((with_reducible refine awCond fun A B hA hB => ?_); simp (maxSteps := 10000000) (disch := first | omega | simp) [hlt, c1, c2]; (first | refine ⟨fun h => hA ?_, fun h => hB ?_⟩ | refine hA ?_ | refine hB ?_) <;> (clear hA hB A B; (try (exfalso; omega))))
            (refine ⟨?_, ((n : Int), most), ?_, Wk.ofA ?_⟩; assumption; rotate_left; focus (simp []; done))
            simp only; omega
        · by_cases c2 : most < (n : Int)
          · repeat' first
                | (with_reducible first | refine thN ?_ | refine thR ?_ | refine thE ?_ | refine inN ?_ | refine inR ?_ | refine inH ?_ | refine fF ?_ | refine fS ?_ | refine fR ?_ | refine fQ ?_ | refine fC ?_ | refine fB ?_ | refine fL ?_ | refine fE ?_ | refine fT ?_ | refine awBlock ?_ | refine awExit ?_ | refine awRet ?_ | refine awSkip ?_ | refine inM (by decide) ?_)
                | ((with_reducible refine awReg fun K hok hK => ?_); clear hok; (try simp (maxSteps := 10000000) (disch := first | omega | simp) [hlt, c1, c2]); (repeat' first
                    | (with_reducible refine hK _ (by simp) ?_)
                    | ((with_reducible refine gdT (fun h => ?_) (fun h => ?_)) <;> (simp (maxSteps := 10000000) (disch := first | omega | simp) [h, hlt, c1, c2]; (try simp at h); (try (exfalso; omega))))
                    | ((with_reducible refine gdF (fun h => ?_) (fun h => ?_)) <;> (simp (maxSteps := 10000000) (disch := first | omega | simp) [h, hlt, c1, c2]; (try simp at h); (try (exfalso; omega))))
                    | ((with_reducible refine sideSt' fun K2 hK2 => ?_); (try simp (maxSteps := 10000000) (disch := first | omega | simp) [hlt, c1, c2]); refine hK2 _ ?_; clear hK2 K2; (try simp (maxSteps := 10000000) (disch := first | omega | simp) [hlt, c1, c2]))
                    | ((with_reducible refine gdU ?_); (try simp (maxSteps := 10000000) (disch := first | omega | simp) [hlt, c1, c2]))
                    | ((with_reducible refine sideQ' ?_ ?_ fun K2 hK2 => ?_); exact rfl; exact rfl; (try simp (maxSteps := 10000000) (disch := first | omega | simp) [hlt, c1, c2]); with_reducible refine hK2 _ _ ?_; clear hK2 K2; (try simp (maxSteps := 10000000) (disch := first | omega | simp) [hlt, c1, c2]))
                    | ((with_reducible refine side' ?_ fun K2 hK2 => ?_); exact rfl; (try simp (maxSteps := 10000000) (disch := first | omega | simp) [hlt, c1, c2]); refine hK2 _ _ (by simp) ?_; clear hK2 K2; (try simp (maxSteps := 10000000) (disch := first | omega | simp) [hlt, c1, c2]))) <;> clear hK K)
                | ((with_reducible refine awCond fun A B hA hB => ?_); simp (maxSteps := 10000000) (disch := first | omega | simp) [hlt, c1, c2]; (first | refine ⟨fun h => hA ?_, fun h => hB ?_⟩ | refine hA ?_ | refine hB ?_) <;> (clear hA hB A B; (try (exfalso; omega))))
            (refine ⟨?_, (least, (n : Int)), ?_, Wk.ofA ?_⟩; assumption; rotate_left; focus (simp []; done))
            simp only; omega
          · repeat' first
                | (with_reducible first | refine thN ?_ | refine thR ?_ | refine thE ?_ | refine inN ?_ | refine inR ?_ | refine inH ?_ | refine fF ?_ | refine fS ?_ | refine fR ?_ | refine fQ ?_ | refine fC ?_ | refine fB ?_ | refine fL ?_ | refine fE ?_ | refine fT ?_ | refine awBlock ?_ | refine awExit ?_ | refine awRet ?_ | refine awSkip ?_ | refine inM (by decide) ?_)
                | ((with_reducible refine awReg fun K hok hK => ?_); clear hok; (try simp (maxSteps := 10000000) (disch := first | omega | simp) [hlt, c1, c2]); (repeat' first
                    | (with_reducible refine hK _ (by simp) ?_)
                    | ((with_reducible refine gdT (fun h => ?_) (fun h => ?_)) <;> (simp (maxSteps := 10000000) (disch := first | omega | simp) [h, hlt, c1, c2]; (try simp at h); (try (exfalso; omega))))
                    | ((with_reducible refine gdF (fun h => ?_) (fun h => ?_)) <;> (simp (maxSteps := 10000000) (disch := first | omega | simp) [h, hlt, c1, c2]; (try simp at h); (try (exfalso; omega))))
                    | ((with_reducible refine sideSt' fun K2 hK2 => ?_); (try simp (maxSteps := 10000000) (disch := first | omega | simp) [hlt, c1, c2]); refine hK2 _ ?_; clear hK2 K2; (try simp (maxSteps := 10000000) (disch := first | omega | simp) [hlt, c1, c2]))
                    | ((with_reducible refine gdU ?_); (try simp (maxSteps := 10000000) (disch := first | omega | simp) [hlt, c1, c2]))
                    | ((with_reducible refine sideQ' ?_ ?_ fun K2 hK2 => ?_); exact rfl; exact rfl; (try simp (maxSteps := 10000000) (disch := first | omega | simp) [hlt, c1, c2]); with_reducible refine hK2 _ _ ?_; clear hK2 K2; (try simp (maxSteps := 10000000) (disch := first | omega | simp) [hlt, c1, c2]))
                    | ((with_reducible refine side' ?_ fun K2 hK2 => ?_); exact rfl; (try simp (maxSteps := 10000000) (disch := first | omega | simp) [hlt, c1, c2]); refine hK2 _ _ (by simp) ?_; clear hK2 K2; (try simp (maxSteps := 10000000) (disch := first | omega | simp) [hlt, c1, c2]))) <;> clear hK K)
                | ((with_reducible refine awCond fun A B hA hB => ?_); simp (maxSteps := 10000000) (disch := first | omega | simp) [hlt, c1, c2]; (first | refine ⟨fun h => hA ?_, fun h => hB ?_⟩ | refine hA ?_ | refine hB ?_) <;> (clear hA hB A B; (try (exfalso; omega))))
            (refine ⟨?_, (least, most), ?_, Wk.ofA ?_⟩; assumption; rotate_left; focus (simp []; done))
            simp only; omega
    · have hml : most ≤ least + 1 := by omega
      repeat' first
          | (with_reducible first | refine thN ?_ | refine thR ?_ | refine thE ?_ | refine inN ?_ | refine inR ?_ | refine inH ?_ | refine fF ?_ | refine fS ?_ | refine fR ?_ | refine fQ ?_ | refine fC ?_ | refine fB ?_ | refine fL ?_ | refine fE ?_ | refine fT ?_ | refine awBlock ?_ | refine awExit ?_ | refine awRet ?_ | refine awSkip ?_ | refine inM (by decide) ?_)
          | ((with_reducible refine awReg fun K hok hK => ?_); clear hok; (try simp (maxSteps := 10000000) (disch := first | omega | simp) [hjl, hml]); (repeat' first
              | (with_reducible refine hK _ (by simp) ?_)
              | ((with_reducible refine gdT (fun h => ?_) (fun h => ?_)) <;> (simp (maxSteps := 10000000) (disch := first | omega | simp) [h, hjl, hml]; (try simp at h); (try (exfalso; omega))))
              | ((with_reducible refine gdF (fun h => ?_) (fun h => ?_)) <;> (simp (maxSteps := 10000000) (disch := first | omega | simp) [h, hjl, hml]; (try simp at h); (try (exfalso; omega))))
              | ((with_reducible refine callS' fun K2 hK2 => ?_); (try simp (maxSteps := 10000000) (disch := first | omega | simp) [hjl, hml]); (first | (refine hK2 _ _ (hw) rfl fun hk9 => ?_; clear hk9)); clear hK2 K2; (try simp (maxSteps := 10000000) (disch := first | omega | simp) [hjl, hml]))
              | ((with_reducible refine callF' fun K2 hK2 => ?_); (try simp (maxSteps := 10000000) (disch := first | omega | simp) [hjl, hml]); (first | refine hK2 _ _ _ (hw) fun _ => ?_); clear hK2 K2; (try simp (maxSteps := 10000000) (disch := first | omega | simp) [hjl, hml]))
              | ((with_reducible refine callM' rfl fun K2 hK2 => ?_); (try simp (maxSteps := 10000000) (disch := first | omega | simp) [hjl, hml]); (first | refine hK2 _ _ _ _ _ _ _ (hw) rfl fun _ _ => ?_); clear hK2 K2; (try simp (maxSteps := 10000000) (disch := first | omega | simp) [hjl, hml]))
              | ((with_reducible refine callT' rfl fun K2 hK2 => ?_); (try simp (maxSteps := 10000000) (disch := first | omega | simp) [hjl, hml]); (first | refine hK2 _ _ _ _ _ (hw) fun _ => ?_); clear hK2 K2; (try simp (maxSteps := 10000000) (disch := first | omega | simp) [hjl, hml]))
              | ((with_reducible refine sideSt' fun K2 hK2 => ?_); (try simp (maxSteps := 10000000) (disch := first | omega | simp) [hjl, hml]); refine hK2 _ ?_; clear hK2 K2; (try simp (maxSteps := 10000000) (disch := first | omega | simp) [hjl, hml]))
              | ((with_reducible refine gdU ?_); (try simp (maxSteps := 10000000) (disch := first | omega | simp) [hjl, hml]))
              | ((with_reducible refine sideQ' ?_ ?_ fun K2 hK2 => ?_); exact rfl; exact rfl; (try simp (maxSteps := 10000000) (disch := first | omega | simp) [hjl, hml]); with_reducible refine hK2 _ _ ?_; clear hK2 K2; (try simp (maxSteps := 10000000) (disch := first | omega | simp) [hjl, hml]))
              | ((with_reducible refine side' ?_ fun K2 hK2 => ?_); exact rfl; (try simp (maxSteps := 10000000) (disch := first | omega | simp) [hjl, hml]); refine hK2 _ _ (by simp) ?_; clear hK2 K2; (try simp (maxSteps := 10000000) (disch := first | omega | simp) [hjl, hml]))) <;> clear hK K)
          | ((with_reducible refine awCond fun A B hA hB => ?_); simp (maxSteps := 10000000) (disch := first | omega | simp) [hjl, hml]; (first | refine ⟨fun h => hA ?_, fun h => hB ?_⟩ | refine hA ?_ | refine hB ?_) <;> (clear hA hB A B; (try (exfalso; omega))))
      all_goals (refine aEnR (aRes [] fun K hK => ?_); simp (maxSteps := 10000000) (disch := first | omega | simp) []; refine hK _ ?_ (by simp); simp (maxSteps := 10000000) (disch := first | omega | simp) [])
end
end Go.Am
