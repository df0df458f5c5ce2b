/- Part of the proof of a law of placing. -/
import Derived.Test.YteijffflinnccaaQP13
set_option linter.all false
set_option maxRecDepth 100000
set_option maxHeartbeats 0
namespace Go.Am
open Go
noncomputable section
def c7 : SC := (.seq (.reg [⟨some 8, .assign (.const (.bool false)), none, []⟩] [0, 1, 2, 3, 34, 57]) (.seq (.reg [⟨some 15, .move (.tmp 0), none, []⟩,
  ⟨some 16, .call { callee := .value (.func 28), args := #[.tmp 15], argTypes := #[61] }, none, []⟩,
  ⟨some 9, .alloc 30, none, []⟩,
  ⟨none, .store 30 (.tmp 9) (.tmp 16), none, []⟩] [1, 2, 3, 9, 34, 57]) (.seq (.reg [⟨some 17, .move (.tmp 2), none, []⟩,
  ⟨some 18, .convert 5 3 (.tmp 17), none, []⟩,
  ⟨some 19, .binOp .rem 3 (.tmp 18) (.const (.int .i64 8)) 3, none, []⟩,
  ⟨some 10, .assign (.tmp 19), none, []⟩] [1, 3, 9, 10, 19, 34, 57]) (.seq (.reg [⟨some 21, .load 30 (.tmp 9), none, []⟩,
  ⟨some 22, .move (.tmp 1), none, []⟩,
  ⟨some 23, .convert 5 3 (.tmp 22), none, []⟩,
  ⟨some 24, .binOp .rem 3 (.tmp 23) (.const (.int .i64 15)) 3, none, []⟩,
  ⟨some 25, .binOp .add 3 (.const (.int .i64 1)) (.tmp 24) 3, none, []⟩,
  ⟨some 26, .move (.tmp 10), none, []⟩,
  ⟨some 27, .move (.tmp 3), none, []⟩,
  ⟨some 28, .convert 62 3 (.tmp 27), none, []⟩,
  ⟨some 29, .call { callee := .value (.func 29), args := #[.tmp 21, .tmp 25, .tmp 26, .tmp 28], argTypes := #[30, 3, 3, 3] }, none, []⟩,
  ⟨some 20, .move (.tmp 29), none, []⟩,
  ⟨some 30, .extract (.tmp 20) 0, none, []⟩,
  ⟨some 31, .extract (.tmp 20) 1, none, []⟩,
  ⟨some 11, .assign (.tmp 30), none, []⟩,
  ⟨some 12, .assign (.tmp 31), none, []⟩] [9, 10, 11, 12, 19, 20, 29, 30, 31, 34, 57]) (.seq (.reg [⟨some 32, .move (.tmp 12), none, []⟩,
  ⟨some 33, .binOp .neq 55 (.tmp 32) (.const .nilIface) 55, none, []⟩] [9, 10, 11, 19, 20, 29, 30, 33, 34, 57]) (.seq (.cond (.tmp 33) (.seq (.reg [⟨some 34, .call { callee := .value (.func 30), args := #[], argTypes := #[] }, none, []⟩,
  ⟨some 8, .assign (.tmp 34), none, []⟩] [8, 34, 57]) .ret) .skip) (.seq (.reg [⟨some 35, .load 30 (.tmp 9), none, [36, 37]⟩,
  ⟨some 36, .load 30 (.tmp 9), none, [35]⟩,
  ⟨some 37, .call { callee := .value (.func 33), args := #[.tmp 36], argTypes := #[30] }, none, [35]⟩,
  ⟨some 38, .call { callee := .value (.func 32), args := #[.tmp 35, .tmp 37], argTypes := #[30, 41] }, none, []⟩,
  ⟨some 13, .assign (.tmp 38), none, []⟩] [9, 10, 11, 13, 19, 20, 29, 30, 34, 38, 42, 57]) (.seq (.reg [⟨some 39, .move (.tmp 10), none, []⟩,
  ⟨some 40, .move (.tmp 13), none, []⟩,
  ⟨some 41, .binOp .lss 3 (.tmp 39) (.tmp 40) 3, none, []⟩] [9, 10, 11, 13, 19, 20, 29, 30, 34, 38, 41, 42, 57]) (.seq (.cond (.tmp 41) (.seq (.reg [⟨some 42, .move (.tmp 10), none, []⟩,
  ⟨some 13, .assign (.tmp 42), none, []⟩] [9, 10, 11, 13, 19, 20, 29, 30, 34, 38, 42, 57]) .skip) .skip) (.seq (.reg [⟨some 14, .assign (.const (.int .i64 0)), none, []⟩] [9, 10, 11, 13, 14, 19, 20, 29, 30, 34, 38, 42, 48, 57]) (.seq (.block 0 (.seq (.loop (.seq (.reg [⟨some 43, .move (.tmp 14), none, []⟩,
  ⟨some 44, .move (.tmp 11), none, []⟩,
  ⟨some 45, .call { callee := .builtin .len, args := #[.tmp 44], argTypes := #[64] }, none, []⟩,
  ⟨some 46, .binOp .lss 3 (.tmp 43) (.tmp 45) 3, none, []⟩] [9, 10, 11, 13, 14, 19, 20, 29, 30, 34, 38, 42, 46, 48, 57]) (.seq (.cond (.tmp 46) .skip (.exit 0)) (.seq (.block 1 (.seq (.reg [⟨some 49, .load 30 (.tmp 9), none, [50, 51, 52, 53, 55]⟩,
  ⟨some 50, .move (.tmp 11), none, [49, 51, 55]⟩,
  ⟨some 51, .move (.tmp 14), none, [49, 50, 55]⟩,
  ⟨some 52, .indexAddr 64 (.tmp 50) (.tmp 51), none, [49, 55]⟩,
  ⟨some 53, .load 41 (.tmp 52), none, [49, 55]⟩,
  ⟨some 54, .call { callee := .value (.func 32), args := #[.tmp 49, .tmp 53], argTypes := #[30, 41] }, none, [55]⟩,
  ⟨some 55, .move (.tmp 13), none, [49, 50, 51, 52, 53, 54]⟩,
  ⟨some 56, .binOp .neq 3 (.tmp 54) (.tmp 55) 3, none, []⟩] [9, 10, 11, 13, 14, 19, 20, 29, 30, 34, 38, 42, 48, 56, 57]) (.seq (.cond (.tmp 56) (.seq (.reg [⟨some 8, .assign (.const (.bool false)), none, []⟩] [8, 34, 57]) .ret) .skip) .skip))) (.seq (.reg [⟨some 47, .move (.tmp 14), none, []⟩,
  ⟨some 48, .binOp .add 3 (.tmp 47) (.const (.int .i64 1)) 3, none, []⟩,
  ⟨some 14, .assign (.tmp 48), none, []⟩] [9, 10, 11, 13, 14, 19, 20, 29, 30, 34, 38, 42, 48, 57]) .skip))))) .skip)) (.seq (.reg [⟨some 57, .call { callee := .value (.func 30), args := #[], argTypes := #[] }, none, []⟩,
  ⟨some 8, .assign (.tmp 57), none, []⟩] [8, 34, 57]) .ret))))))))))))
theorem s7 : TextK Proofs.Try.prog 0 7 58 [ResultVar.tmp 8] c7 := .mk' Proofs.Try.f7 _ (by kernel_rfl) rfl rfl rfl (by kernel_rfl) rfl (by kernel_rfl)
theorem racks_walk (l : List Int) (parts r start : Int) (hp : 0 ≤ parts ∧ parts ≤ 255) (hr : 0 ≤ r ∧ r ≤ 255) (hst : 0 ≤ start ∧ start ≤ 65535) :
    ACall pg 7 [.sl (l.map U8), .c (.int .u8 parts), .c (.int .u8 r), .c (.int .u16 start)] (B true) := by
  refine s7.call mo (by simp) fun hxs => ?_
  clear hxs
  unfold c7
  have hb := brokersL_ok l
  have few := lawM_few l
  generalize lawM l = m at hb few
  obtain ⟨k, hk, hk15⟩ := tmodN (x := parts) (n := 15) hp.1 (by omega)
  obtain ⟨q, hq, hq8⟩ := tmodN (x := r) (n := 8) hr.1 (by omega)
  simp only [Int.cast_ofNat_Int] at hk hq
  have ha := assign_ok m (1 + k) q start few.len few.hor few.hnd
  have hw := worksP_ok
  rcases hx : m.assign (1 + k) q start with ⟨rows, er⟩
  rw [hx] at ha
  cases er with
  | some e =>
    repeat' first
        | (with_reducible first | refine thN ?_ | refine thR ?_ | refine thE ?_ | refine inN ?_ | refine inR ?_ | refine inH ?_ | refine fF ?_ | refine fS ?_ | refine fR ?_ | refine fQ ?_ | refine fC ?_ | refine fB ?_ | refine fL ?_ | refine fE ?_ | refine fT ?_ | refine awBlock ?_ | refine awExit ?_ | refine awRet ?_ | refine awSkip ?_ | refine inM (by decide) ?_)
        | ((with_reducible refine awReg fun K hok hK => ?_); clear hok; (try simp (maxSteps := 10000000) (disch := first | omega | simp) [hk, hq, isConst]); (repeat' first
            | (with_reducible refine hK _ (by simp) ?_)
            | ((with_reducible refine gdT (fun h => ?_) (fun h => ?_)) <;> (simp (maxSteps := 10000000) (disch := first | omega | simp) [h, hk, hq, isConst]; (try simp at h); (try (exfalso; omega))))
            | ((with_reducible refine gdF (fun h => ?_) (fun h => ?_)) <;> (simp (maxSteps := 10000000) (disch := first | omega | simp) [h, hk, hq, isConst]; (try simp at h); (try (exfalso; omega))))
            | ((with_reducible refine callS' fun K2 hK2 => ?_); (try simp (maxSteps := 10000000) (disch := first | omega | simp) [hk, hq, isConst]); (first | (refine hK2 _ _ (hb) rfl fun hk9 => ?_; clear hk9) | (refine hK2 _ _ (ha) rfl fun hk9 => ?_; clear hk9) | (refine hK2 _ _ (hw) rfl fun hk9 => ?_; clear hk9)); clear hK2 K2; (try simp (maxSteps := 10000000) (disch := first | omega | simp) [hk, hq, isConst]))
            | ((with_reducible refine callF' fun K2 hK2 => ?_); (try simp (maxSteps := 10000000) (disch := first | omega | simp) [hk, hq, isConst]); (first | refine hK2 _ _ _ (hb) fun _ => ?_ | refine hK2 _ _ _ (ha) fun _ => ?_ | refine hK2 _ _ _ (hw) fun _ => ?_); clear hK2 K2; (try simp (maxSteps := 10000000) (disch := first | omega | simp) [hk, hq, isConst]))
            | ((with_reducible refine sideS' fun K2 hK2 => ?_); (try simp (maxSteps := 10000000) (disch := first | omega | simp) [hk, hq, isConst]); (first | refine hK2 _ _ (hb) rfl ?_ | refine hK2 _ _ (ha) rfl ?_ | refine hK2 _ _ (hw) rfl ?_); clear hK2 K2; (try simp (maxSteps := 10000000) (disch := first | omega | simp) [hk, hq, isConst]))
            | ((with_reducible refine sideF' fun K2 hK2 => ?_); (try simp (maxSteps := 10000000) (disch := first | omega | simp) [hk, hq, isConst]); (first | refine hK2 _ _ _ (hb) (by simp) ?_ | refine hK2 _ _ _ (ha) (by simp) ?_ | refine hK2 _ _ _ (hw) (by simp) ?_); clear hK2 K2; (try simp (maxSteps := 10000000) (disch := first | omega | simp) [hk, hq, isConst]))
            | ((with_reducible refine callM' rfl fun K2 hK2 => ?_); (try simp (maxSteps := 10000000) (disch := first | omega | simp) [hk, hq, isConst]); (first | refine hK2 _ _ _ _ _ _ _ (hb) rfl fun _ _ => ?_ | refine hK2 _ _ _ _ _ _ _ (ha) rfl fun _ _ => ?_ | refine hK2 _ _ _ _ _ _ _ (hw) rfl fun _ _ => ?_); clear hK2 K2; (try simp (maxSteps := 10000000) (disch := first | omega | simp) [hk, hq, isConst]))
            | ((with_reducible refine callT' rfl fun K2 hK2 => ?_); (try simp (maxSteps := 10000000) (disch := first | omega | simp) [hk, hq, isConst]); (first | refine hK2 _ _ _ _ _ (hb) fun _ => ?_ | refine hK2 _ _ _ _ _ (ha) fun _ => ?_ | refine hK2 _ _ _ _ _ (hw) fun _ => ?_); clear hK2 K2; (try simp (maxSteps := 10000000) (disch := first | omega | simp) [hk, hq, isConst]))
            | ((with_reducible refine sideSt' fun K2 hK2 => ?_); (try simp (maxSteps := 10000000) (disch := first | omega | simp) [hk, hq, isConst]); refine hK2 _ ?_; clear hK2 K2; (try simp (maxSteps := 10000000) (disch := first | omega | simp) [hk, hq, isConst]))
            | ((with_reducible refine gdU ?_); (try simp (maxSteps := 10000000) (disch := first | omega | simp) [hk, hq, isConst]))
            | ((with_reducible refine sideQ' ?_ ?_ fun K2 hK2 => ?_); exact rfl; exact rfl; (try simp (maxSteps := 10000000) (disch := first | omega | simp) [hk, hq, isConst]); with_reducible refine hK2 _ _ ?_; clear hK2 K2; (try simp (maxSteps := 10000000) (disch := first | omega | simp) [hk, hq, isConst]))
            | ((with_reducible refine side' ?_ fun K2 hK2 => ?_); exact rfl; (try simp (maxSteps := 10000000) (disch := first | omega | simp) [hk, hq, isConst]); refine hK2 _ _ (by simp) ?_; clear hK2 K2; (try simp (maxSteps := 10000000) (disch := first | omega | simp) [hk, hq, isConst]))) <;> clear hK K)
        | ((with_reducible refine awCond fun A B hA hB => ?_); simp (maxSteps := 10000000) (disch := first | omega | simp) [hk, hq, isConst]; (first | refine ⟨fun h => hA ?_, fun h => hB ?_⟩ | refine hA ?_ | refine hB ?_) <;> (clear hA hB A B; (try (exfalso; omega))))
    all_goals (refine aEnR (aRes [] fun K hK => ?_); simp (maxSteps := 10000000) (disch := first | omega | simp) []; refine hK _ ?_ (by simp); simp (maxSteps := 10000000) (disch := first | omega | simp) [])
  | none =>
    obtain ⟨h1, h2, h3, h4, h5, h6, h7⟩ := assign_none hx
    have hrl : rows.length = 1 + k := by rw [h1, rowsP_len]; omega
    have hrow : ∀ row ∈ rows, row.length = q ∧ row.Nodup ∧ (∀ id ∈ row, id ∈ m.order) ∧ racksN m row = min q (racksN m (refOrder m)) := fun row h => rowsP_mem few (by omega) (by rw [h1] at h; simpa using h)
    clear hx h1
    have hr1 := refOrder_ok m few.len
    have hol : (refOrder m).length ≤ 100 := by rw [← few.refp.length_eq]; exact few.olen
    have hr2 := lawRacks_ok m (refOrder m) (by omega)
    generalize refOrder m = ro at *
    generalize hN : racksN m ro = N at *
    obtain ⟨w, hw2⟩ : ∃ w, w = min q N := ⟨_, rfl⟩
    have tail : True := trivial
    by_cases hqn : q < N
    · have hwq : w = q := by omega
      subst hwq
      repeat' first
          | (with_reducible first | refine thN ?_ | refine thR ?_ | refine thE ?_ | refine inN ?_ | refine inR ?_ | refine inH ?_ | refine fF ?_ | refine fS ?_ | refine fR ?_ | refine fQ ?_ | refine fC ?_ | refine fB ?_ | refine fL ?_ | refine fE ?_ | refine fT ?_ | refine awBlock ?_ | refine awExit ?_ | refine awRet ?_ | refine awSkip ?_ | refine inM (by decide) ?_)
          | ((with_reducible refine awReg fun K hok hK => ?_); clear hok; (try simp (maxSteps := 10000000) (disch := first | omega | simp) [hk, hq, hqn, isConst]); (repeat' first
              | (with_reducible refine hK _ (by simp) ?_)
              | ((with_reducible refine gdT (fun h => ?_) (fun h => ?_)) <;> (simp (maxSteps := 10000000) (disch := first | omega | simp) [h, hk, hq, hqn, isConst]; (try simp at h); (try (exfalso; omega))))
              | ((with_reducible refine gdF (fun h => ?_) (fun h => ?_)) <;> (simp (maxSteps := 10000000) (disch := first | omega | simp) [h, hk, hq, hqn, isConst]; (try simp at h); (try (exfalso; omega))))
              | ((with_reducible refine callS' fun K2 hK2 => ?_); (try simp (maxSteps := 10000000) (disch := first | omega | simp) [hk, hq, hqn, isConst]); (first | (refine hK2 _ _ (hb) rfl fun hk9 => ?_; clear hk9) | (refine hK2 _ _ (ha) rfl fun hk9 => ?_; clear hk9) | (refine hK2 _ _ (hr1) rfl fun hk9 => ?_; clear hk9) | (refine hK2 _ _ (hr2) rfl fun hk9 => ?_; clear hk9)); clear hK2 K2; (try simp (maxSteps := 10000000) (disch := first | omega | simp) [hk, hq, hqn, isConst]))
              | ((with_reducible refine callF' fun K2 hK2 => ?_); (try simp (maxSteps := 10000000) (disch := first | omega | simp) [hk, hq, hqn, isConst]); (first | refine hK2 _ _ _ (hb) fun _ => ?_ | refine hK2 _ _ _ (ha) fun _ => ?_ | refine hK2 _ _ _ (hr1) fun _ => ?_ | refine hK2 _ _ _ (hr2) fun _ => ?_); clear hK2 K2; (try simp (maxSteps := 10000000) (disch := first | omega | simp) [hk, hq, hqn, isConst]))
              | ((with_reducible refine sideS' fun K2 hK2 => ?_); (try simp (maxSteps := 10000000) (disch := first | omega | simp) [hk, hq, hqn, isConst]); (first | refine hK2 _ _ (hb) rfl ?_ | refine hK2 _ _ (ha) rfl ?_ | refine hK2 _ _ (hr1) rfl ?_ | refine hK2 _ _ (hr2) rfl ?_); clear hK2 K2; (try simp (maxSteps := 10000000) (disch := first | omega | simp) [hk, hq, hqn, isConst]))
              | ((with_reducible refine sideF' fun K2 hK2 => ?_); (try simp (maxSteps := 10000000) (disch := first | omega | simp) [hk, hq, hqn, isConst]); (first | refine hK2 _ _ _ (hb) (by simp) ?_ | refine hK2 _ _ _ (ha) (by simp) ?_ | refine hK2 _ _ _ (hr1) (by simp) ?_ | refine hK2 _ _ _ (hr2) (by simp) ?_); clear hK2 K2; (try simp (maxSteps := 10000000) (disch := first | omega | simp) [hk, hq, hqn, isConst]))
              | ((with_reducible refine callM' rfl fun K2 hK2 => ?_); (try simp (maxSteps := 10000000) (disch := first | omega | simp) [hk, hq, hqn, isConst]); (first | refine hK2 _ _ _ _ _ _ _ (hb) rfl fun _ _ => ?_ | refine hK2 _ _ _ _ _ _ _ (ha) rfl fun _ _ => ?_ | refine hK2 _ _ _ _ _ _ _ (hr1) rfl fun _ _ => ?_ | refine hK2 _ _ _ _ _ _ _ (hr2) rfl fun _ _ => ?_); clear hK2 K2; (try simp (maxSteps := 10000000) (disch := first | omega | simp) [hk, hq, hqn, isConst]))
              | ((with_reducible refine callT' rfl fun K2 hK2 => ?_); (try simp (maxSteps := 10000000) (disch := first | omega | simp) [hk, hq, hqn, isConst]); (first | refine hK2 _ _ _ _ _ (hb) fun _ => ?_ | refine hK2 _ _ _ _ _ (ha) fun _ => ?_ | refine hK2 _ _ _ _ _ (hr1) fun _ => ?_ | refine hK2 _ _ _ _ _ (hr2) fun _ => ?_); clear hK2 K2; (try simp (maxSteps := 10000000) (disch := first | omega | simp) [hk, hq, hqn, isConst]))
              | ((with_reducible refine sideSt' fun K2 hK2 => ?_); (try simp (maxSteps := 10000000) (disch := first | omega | simp) [hk, hq, hqn, isConst]); refine hK2 _ ?_; clear hK2 K2; (try simp (maxSteps := 10000000) (disch := first | omega | simp) [hk, hq, hqn, isConst]))
              | ((with_reducible refine gdU ?_); (try simp (maxSteps := 10000000) (disch := first | omega | simp) [hk, hq, hqn, isConst]))
              | ((with_reducible refine sideQ' ?_ ?_ fun K2 hK2 => ?_); exact rfl; exact rfl; (try simp (maxSteps := 10000000) (disch := first | omega | simp) [hk, hq, hqn, isConst]); with_reducible refine hK2 _ _ ?_; clear hK2 K2; (try simp (maxSteps := 10000000) (disch := first | omega | simp) [hk, hq, hqn, isConst]))
              | ((with_reducible refine side' ?_ fun K2 hK2 => ?_); exact rfl; (try simp (maxSteps := 10000000) (disch := first | omega | simp) [hk, hq, hqn, isConst]); refine hK2 _ _ (by simp) ?_; clear hK2 K2; (try simp (maxSteps := 10000000) (disch := first | omega | simp) [hk, hq, hqn, isConst]))) <;> clear hK K)
          | ((with_reducible refine awCond fun A B hA hB => ?_); simp (maxSteps := 10000000) (disch := first | omega | simp) [hk, hq, hqn, isConst]; (first | refine ⟨fun h => hA ?_, fun h => hB ?_⟩ | refine hA ?_ | refine hB ?_) <;> (clear hA hB A B; (try (exfalso; omega))))
      refine awFor rows.length (fun i (_ : Unit) => True) (fun i _ => [(14, .p (I i)), (13, .p (I w)), (11, .p (.sl (rows.map Li))), (9, .p (.own (encM m).cells))]) ()
        ((Wk.frz0 (r := 11) rfl).trans (Wk.ofA (by simp))) trivial fun i _ hi _ => ?_
      by_cases hlt : i < rows.length
      · obtain ⟨g1, g2, g3, g4⟩ := hrow rows[i] (List.getElem_mem hlt)
        have hc := lawRacks_ok m rows[i] (by omega)
        rw [g4, ← hw2] at hc
        repeat' first
            | (with_reducible first | refine thN ?_ | refine thR ?_ | refine thE ?_ | refine inN ?_ | refine inR ?_ | refine inH ?_ | refine fF ?_ | refine fS ?_ | refine fR ?_ | refine fQ ?_ | refine fC ?_ | refine fB ?_ | refine fL ?_ | refine fE ?_ | refine fT ?_ | refine awBlock ?_ | refine awExit ?_ | refine awRet ?_ | refine awSkip ?_ | refine inM (by decide) ?_)
            | ((with_reducible refine awReg fun K hok hK => ?_); clear hok; (try simp (maxSteps := 10000000) (disch := first | omega | simp) [hlt, isConst]); (repeat' first
                | (with_reducible refine hK _ (by simp) ?_)
                | ((with_reducible refine gdT (fun h => ?_) (fun h => ?_)) <;> (simp (maxSteps := 10000000) (disch := first | omega | simp) [h, hlt, isConst]; (try simp at h); (try (exfalso; omega))))
                | ((with_reducible refine gdF (fun h => ?_) (fun h => ?_)) <;> (simp (maxSteps := 10000000) (disch := first | omega | simp) [h, hlt, isConst]; (try simp at h); (try (exfalso; omega))))
                | ((with_reducible refine callS' fun K2 hK2 => ?_); (try simp (maxSteps := 10000000) (disch := first | omega | simp) [hlt, isConst]); (first | (refine hK2 _ _ (hc) rfl fun hk9 => ?_; clear hk9)); clear hK2 K2; (try simp (maxSteps := 10000000) (disch := first | omega | simp) [hlt, isConst]))
                | ((with_reducible refine callF' fun K2 hK2 => ?_); (try simp (maxSteps := 10000000) (disch := first | omega | simp) [hlt, isConst]); (first | refine hK2 _ _ _ (hc) fun _ => ?_); clear hK2 K2; (try simp (maxSteps := 10000000) (disch := first | omega | simp) [hlt, isConst]))
                | ((with_reducible refine sideS' fun K2 hK2 => ?_); (try simp (maxSteps := 10000000) (disch := first | omega | simp) [hlt, isConst]); (first | refine hK2 _ _ (hc) rfl ?_); clear hK2 K2; (try simp (maxSteps := 10000000) (disch := first | omega | simp) [hlt, isConst]))
                | ((with_reducible refine sideF' fun K2 hK2 => ?_); (try simp (maxSteps := 10000000) (disch := first | omega | simp) [hlt, isConst]); (first | refine hK2 _ _ _ (hc) (by simp) ?_); clear hK2 K2; (try simp (maxSteps := 10000000) (disch := first | omega | simp) [hlt, isConst]))
                | ((with_reducible refine callM' rfl fun K2 hK2 => ?_); (try simp (maxSteps := 10000000) (disch := first | omega | simp) [hlt, isConst]); (first | refine hK2 _ _ _ _ _ _ _ (hc) rfl fun _ _ => ?_); clear hK2 K2; (try simp (maxSteps := 10000000) (disch := first | omega | simp) [hlt, isConst]))
                | ((with_reducible refine callT' rfl fun K2 hK2 => ?_); (try simp (maxSteps := 10000000) (disch := first | omega | simp) [hlt, isConst]); (first | refine hK2 _ _ _ _ _ (hc) fun _ => ?_); clear hK2 K2; (try simp (maxSteps := 10000000) (disch := first | omega | simp) [hlt, isConst]))
                | ((with_reducible refine sideSt' fun K2 hK2 => ?_); (try simp (maxSteps := 10000000) (disch := first | omega | simp) [hlt, isConst]); refine hK2 _ ?_; clear hK2 K2; (try simp (maxSteps := 10000000) (disch := first | omega | simp) [hlt, isConst]))
                | ((with_reducible refine gdU ?_); (try simp (maxSteps := 10000000) (disch := first | omega | simp) [hlt, isConst]))
                | ((with_reducible refine sideQ' ?_ ?_ fun K2 hK2 => ?_); exact rfl; exact rfl; (try simp (maxSteps := 10000000) (disch := first | omega | simp) [hlt, isConst]); with_reducible refine hK2 _ _ ?_; clear hK2 K2; (try simp (maxSteps := 10000000) (disch := first | omega | simp) [hlt, isConst]))
                | ((with_reducible refine side' ?_ fun K2 hK2 => ?_); exact rfl; (try simp (maxSteps := 10000000) (disch := first | omega | simp) [hlt, isConst]); refine hK2 _ _ (by simp) ?_; clear hK2 K2; (try simp (maxSteps := 10000000) (disch := first | omega | simp) [hlt, isConst]))) <;> clear hK K)
            | ((with_reducible refine awCond fun A B hA hB => ?_); simp (maxSteps := 10000000) (disch := first | omega | simp) [hlt, isConst]; (first | refine ⟨fun h => hA ?_, fun h => hB ?_⟩ | refine hA ?_ | refine hB ?_) <;> (clear hA hB A B; (try (exfalso; omega))))
        (refine ⟨?_, (), ?_, Wk.ofA ?_⟩; assumption; rotate_left; focus (simp []; done))
        trivial
      · have hi2 : i = rows.length := by omega
        repeat' first
            | (with_reducible first | refine thN ?_ | refine thR ?_ | refine thE ?_ | refine inN ?_ | refine inR ?_ | refine inH ?_ | refine fF ?_ | refine fS ?_ | refine fR ?_ | refine fQ ?_ | refine fC ?_ | refine fB ?_ | refine fL ?_ | refine fE ?_ | refine fT ?_ | refine awBlock ?_ | refine awExit ?_ | refine awRet ?_ | refine awSkip ?_ | refine inM (by decide) ?_)
            | ((with_reducible refine awReg fun K hok hK => ?_); clear hok; (try simp (maxSteps := 10000000) (disch := first | omega | simp) [hlt, hrl]); (repeat' first
                | (with_reducible refine hK _ (by simp) ?_)
                | ((with_reducible refine gdT (fun h => ?_) (fun h => ?_)) <;> (simp (maxSteps := 10000000) (disch := first | omega | simp) [h, hlt, hrl]; (try simp at h); (try (exfalso; omega))))
                | ((with_reducible refine gdF (fun h => ?_) (fun h => ?_)) <;> (simp (maxSteps := 10000000) (disch := first | omega | simp) [h, hlt, hrl]; (try simp at h); (try (exfalso; omega))))
                | ((with_reducible refine callS' fun K2 hK2 => ?_); (try simp (maxSteps := 10000000) (disch := first | omega | simp) [hlt, hrl]); (first | (refine hK2 _ _ (hw) rfl fun hk9 => ?_; clear hk9)); clear hK2 K2; (try simp (maxSteps := 10000000) (disch := first | omega | simp) [hlt, hrl]))
                | ((with_reducible refine callF' fun K2 hK2 => ?_); (try simp (maxSteps := 10000000) (disch := first | omega | simp) [hlt, hrl]); (first | refine hK2 _ _ _ (hw) fun _ => ?_); clear hK2 K2; (try simp (maxSteps := 10000000) (disch := first | omega | simp) [hlt, hrl]))
                | ((with_reducible refine sideS' fun K2 hK2 => ?_); (try simp (maxSteps := 10000000) (disch := first | omega | simp) [hlt, hrl]); (first | refine hK2 _ _ (hw) rfl ?_); clear hK2 K2; (try simp (maxSteps := 10000000) (disch := first | omega | simp) [hlt, hrl]))
                | ((with_reducible refine sideF' fun K2 hK2 => ?_); (try simp (maxSteps := 10000000) (disch := first | omega | simp) [hlt, hrl]); (first | refine hK2 _ _ _ (hw) (by simp) ?_); clear hK2 K2; (try simp (maxSteps := 10000000) (disch := first | omega | simp) [hlt, hrl]))
                | ((with_reducible refine callM' rfl fun K2 hK2 => ?_); (try simp (maxSteps := 10000000) (disch := first | omega | simp) [hlt, hrl]); (first | refine hK2 _ _ _ _ _ _ _ (hw) rfl fun _ _ => ?_); clear hK2 K2; (try simp (maxSteps := 10000000) (disch := first | omega | simp) [hlt, hrl]))
                | ((with_reducible refine callT' rfl fun K2 hK2 => ?_); (try simp (maxSteps := 10000000) (disch := first | omega | simp) [hlt, hrl]); (first | refine hK2 _ _ _ _ _ (hw) fun _ => ?_); clear hK2 K2; (try simp (maxSteps := 10000000) (disch := first | omega | simp) [hlt, hrl]))
                | ((with_reducible refine sideSt' fun K2 hK2 => ?_); (try simp (maxSteps := 10000000) (disch := first | omega | simp) [hlt, hrl]); refine hK2 _ ?_; clear hK2 K2; (try simp (maxSteps := 10000000) (disch := first | omega | simp) [hlt, hrl]))
                | ((with_reducible refine gdU ?_); (try simp (maxSteps := 10000000) (disch := first | omega | simp) [hlt, hrl]))
                | ((with_reducible refine sideQ' ?_ ?_ fun K2 hK2 => ?_); exact rfl; exact rfl; (try simp (maxSteps := 10000000) (disch := first | omega | simp) [hlt, hrl]); with_reducible refine hK2 _ _ ?_; clear hK2 K2; (try simp (maxSteps := 10000000) (disch := first | omega | simp) [hlt, hrl]))
                | ((with_reducible refine side' ?_ fun K2 hK2 => ?_); exact rfl; (try simp (maxSteps := 10000000) (disch := first | omega | simp) [hlt, hrl]); refine hK2 _ _ (by simp) ?_; clear hK2 K2; (try simp (maxSteps := 10000000) (disch := first | omega | simp) [hlt, hrl]))) <;> clear hK K)
            | ((with_reducible refine awCond fun A B hA hB => ?_); simp (maxSteps := 10000000) (disch := first | omega | simp) [hlt, hrl]; (first | refine ⟨fun h => hA ?_, fun h => hB ?_⟩ | refine hA ?_ | refine hB ?_) <;> (clear hA hB A B; (try (exfalso; omega))))
        all_goals (refine aEnR (aRes [] fun K hK => ?_); simp (maxSteps := 10000000) (disch := first | omega | simp) []; refine hK _ ?_ (by simp); simp (maxSteps := 10000000) (disch := first | omega | simp) [])
    · have hwN : w = N := by omega
      subst hwN
      repeat' first
          | (with_reducible first | refine thN ?_ | refine thR ?_ | refine thE ?_ | refine inN ?_ | refine inR ?_ | refine inH ?_ | refine fF ?_ | refine fS ?_ | refine fR ?_ | refine fQ ?_ | refine fC ?_ | refine fB ?_ | refine fL ?_ | refine fE ?_ | refine fT ?_ | refine awBlock ?_ | refine awExit ?_ | refine awRet ?_ | refine awSkip ?_ | refine inM (by decide) ?_)
          | ((with_reducible refine awReg fun K hok hK => ?_); clear hok; (try simp (maxSteps := 10000000) (disch := first | omega | simp) [hk, hq, hqn, isConst]); (repeat' first
              | (with_reducible refine hK _ (by simp) ?_)
              | ((with_reducible refine gdT (fun h => ?_) (fun h => ?_)) <;> (simp (maxSteps := 10000000) (disch := first | omega | simp) [h, hk, hq, hqn, isConst]; (try simp at h); (try (exfalso; omega))))
              | ((with_reducible refine gdF (fun h => ?_) (fun h => ?_)) <;> (simp (maxSteps := 10000000) (disch := first | omega | simp) [h, hk, hq, hqn, isConst]; (try simp at h); (try (exfalso; omega))))
              | ((with_reducible refine callS' fun K2 hK2 => ?_); (try simp (maxSteps := 10000000) (disch := first | omega | simp) [hk, hq, hqn, isConst]); (first | (refine hK2 _ _ (hb) rfl fun hk9 => ?_; clear hk9) | (refine hK2 _ _ (ha) rfl fun hk9 => ?_; clear hk9) | (refine hK2 _ _ (hr1) rfl fun hk9 => ?_; clear hk9) | (refine hK2 _ _ (hr2) rfl fun hk9 => ?_; clear hk9)); clear hK2 K2; (try simp (maxSteps := 10000000) (disch := first | omega | simp) [hk, hq, hqn, isConst]))
              | ((with_reducible refine callF' fun K2 hK2 => ?_); (try simp (maxSteps := 10000000) (disch := first | omega | simp) [hk, hq, hqn, isConst]); (first | refine hK2 _ _ _ (hb) fun _ => ?_ | refine hK2 _ _ _ (ha) fun _ => ?_ | refine hK2 _ _ _ (hr1) fun _ => ?_ | refine hK2 _ _ _ (hr2) fun _ => ?_); clear hK2 K2; (try simp (maxSteps := 10000000) (disch := first | omega | simp) [hk, hq, hqn, isConst]))
              | ((with_reducible refine sideS' fun K2 hK2 => ?_); (try simp (maxSteps := 10000000) (disch := first | omega | simp) [hk, hq, hqn, isConst]); (first | refine hK2 _ _ (hb) rfl ?_ | refine hK2 _ _ (ha) rfl ?_ | refine hK2 _ _ (hr1) rfl ?_ | refine hK2 _ _ (hr2) rfl ?_); clear hK2 K2; (try simp (maxSteps := 10000000) (disch := first | omega | simp) [hk, hq, hqn, isConst]))
              | ((with_reducible refine sideF' fun K2 hK2 => ?_); (try simp (maxSteps := 10000000) (disch := first | omega | simp) [hk, hq, hqn, isConst]); (first | refine hK2 _ _ _ (hb) (by simp) ?_ | refine hK2 _ _ _ (ha) (by simp) ?_ | refine hK2 _ _ _ (hr1) (by simp) ?_ | refine hK2 _ _ _ (hr2) (by simp) ?_); clear hK2 K2; (try simp (maxSteps := 10000000) (disch := first | omega | simp) [hk, hq, hqn, isConst]))
              | ((with_reducible refine callM' rfl fun K2 hK2 => ?_); (try simp (maxSteps := 10000000) (disch := first | omega | simp) [hk, hq, hqn, isConst]); (first | refine hK2 _ _ _ _ _ _ _ (hb) rfl fun _ _ => ?_ | refine hK2 _ _ _ _ _ _ _ (ha) rfl fun _ _ => ?_ | refine hK2 _ _ _ _ _ _ _ (hr1) rfl fun _ _ => ?_ | refine hK2 _ _ _ _ _ _ _ (hr2) rfl fun _ _ => ?_); clear hK2 K2; (try simp (maxSteps := 10000000) (disch := first | omega | simp) [hk, hq, hqn, isConst]))
              | ((with_reducible refine callT' rfl fun K2 hK2 => ?_); (try simp (maxSteps := 10000000) (disch := first | omega | simp) [hk, hq, hqn, isConst]); (first | refine hK2 _ _ _ _ _ (hb) fun _ => ?_ | refine hK2 _ _ _ _ _ (ha) fun _ => ?_ | refine hK2 _ _ _ _ _ (hr1) fun _ => ?_ | refine hK2 _ _ _ _ _ (hr2) fun _ => ?_); clear hK2 K2; (try simp (maxSteps := 10000000) (disch := first | omega | simp) [hk, hq, hqn, isConst]))
              | ((with_reducible refine sideSt' fun K2 hK2 => ?_); (try simp (maxSteps := 10000000) (disch := first | omega | simp) [hk, hq, hqn, isConst]); refine hK2 _ ?_; clear hK2 K2; (try simp (maxSteps := 10000000) (disch := first | omega | simp) [hk, hq, hqn, isConst]))
              | ((with_reducible refine gdU ?_); (try simp (maxSteps := 10000000) (disch := first | omega | simp) [hk, hq, hqn, isConst]))
              | ((with_reducible refine sideQ' ?_ ?_ fun K2 hK2 => ?_); exact rfl; exact rfl; (try simp (maxSteps := 10000000) (disch := first | omega | simp) [hk, hq, hqn, isConst]); with_reducible refine hK2 _ _ ?_; clear hK2 K2; (try simp (maxSteps := 10000000) (disch := first | omega | simp) [hk, hq, hqn, isConst]))
              | ((with_reducible refine side' ?_ fun K2 hK2 => ?_); exact rfl; (try simp (maxSteps := 10000000) (disch := first | omega | simp) [hk, hq, hqn, isConst]); refine hK2 _ _ (by simp) ?_; clear hK2 K2; (try simp (maxSteps := 10000000) (disch := first | omega | simp) [hk, hq, hqn, isConst]))) <;> clear hK K)
          | ((with_reducible refine awCond fun A B hA hB => ?_); simp (maxSteps := 10000000) (disch := first | omega | simp) [hk, hq, hqn, isConst]; (first | refine ⟨fun h => hA ?_, fun h => hB ?_⟩ | refine hA ?_ | refine hB ?_) <;> (clear hA hB A B; (try (exfalso; omega))))
      refine awFor rows.length (fun i (_ : Unit) => True) (fun i _ => [(14, .p (I i)), (13, .p (I w)), (11, .p (.sl (rows.map Li))), (9, .p (.own (encM m).cells))]) ()
        ((Wk.frz0 (r := 11) rfl).trans (Wk.ofA (by simp))) trivial fun i _ hi _ => ?_
      by_cases hlt : i < rows.length
      · obtain ⟨g1, g2, g3, g4⟩ := hrow rows[i] (List.getElem_mem hlt)
        have hc := lawRacks_ok m rows[i] (by omega)
        rw [g4, ← hw2] at hc
        repeat' first
            | (with_reducible first | refine thN ?_ | refine thR ?_ | refine thE ?_ | refine inN ?_ | refine inR ?_ | refine inH ?_ | refine fF ?_ | refine fS ?_ | refine fR ?_ | refine fQ ?_ | refine fC ?_ | refine fB ?_ | refine fL ?_ | refine fE ?_ | refine fT ?_ | refine awBlock ?_ | refine awExit ?_ | refine awRet ?_ | refine awSkip ?_ | refine inM (by decide) ?_)
            | ((with_reducible refine awReg fun K hok hK => ?_); clear hok; (try simp (maxSteps := 10000000) (disch := first | omega | simp) [hlt, isConst]); (repeat' first
                | (with_reducible refine hK _ (by simp) ?_)
                | ((with_reducible refine gdT (fun h => ?_) (fun h => ?_)) <;> (simp (maxSteps := 10000000) (disch := first | omega | simp) [h, hlt, isConst]; (try simp at h); (try (exfalso; omega))))
                | ((with_reducible refine gdF (fun h => ?_) (fun h => ?_)) <;> (simp (maxSteps := 10000000) (disch := first | omega | simp) [h, hlt, isConst]; (try simp at h); (try (exfalso; omega))))
                | ((with_reducible refine callS' fun K2 hK2 => ?_); (try simp (maxSteps := 10000000) (disch := first | omega | simp) [hlt, isConst]); (first | (refine hK2 _ _ (hc) rfl fun hk9 => ?_; clear hk9)); clear hK2 K2; (try simp (maxSteps := 10000000) (disch := first | omega | simp) [hlt, isConst]))
                | ((with_reducible refine callF' fun K2 hK2 => ?_); (try simp (maxSteps := 10000000) (disch := first | omega | simp) [hlt, isConst]); (first | refine hK2 _ _ _ (hc) fun _ => ?_); clear hK2 K2; (try simp (maxSteps := 10000000) (disch := first | omega | simp) [hlt, isConst]))
                | ((with_reducible refine sideS' fun K2 hK2 => ?_); (try simp (maxSteps := 10000000) (disch := first | omega | simp) [hlt, isConst]); (first | refine hK2 _ _ (hc) rfl ?_); clear hK2 K2; (try simp (maxSteps := 10000000) (disch := first | omega | simp) [hlt, isConst]))
                | ((with_reducible refine sideF' fun K2 hK2 => ?_); (try simp (maxSteps := 10000000) (disch := first | omega | simp) [hlt, isConst]); (first | refine hK2 _ _ _ (hc) (by simp) ?_); clear hK2 K2; (try simp (maxSteps := 10000000) (disch := first | omega | simp) [hlt, isConst]))
                | ((with_reducible refine callM' rfl fun K2 hK2 => ?_); (try simp (maxSteps := 10000000) (disch := first | omega | simp) [hlt, isConst]); (first | refine hK2 _ _ _ _ _ _ _ (hc) rfl fun _ _ => ?_); clear hK2 K2; (try simp (maxSteps := 10000000) (disch := first | omega | simp) [hlt, isConst]))
                | ((with_reducible refine callT' rfl fun K2 hK2 => ?_); (try simp (maxSteps := 10000000) (disch := first | omega | simp) [hlt, isConst]); (first | refine hK2 _ _ _ _ _ (hc) fun _ => ?_); clear hK2 K2; (try simp (maxSteps := 10000000) (disch := first | omega | simp) [hlt, isConst]))
                | ((with_reducible refine sideSt' fun K2 hK2 => ?_); (try simp (maxSteps := 10000000) (disch := first | omega | simp) [hlt, isConst]); refine hK2 _ ?_; clear hK2 K2; (try simp (maxSteps := 10000000) (disch := first | omega | simp) [hlt, isConst]))
                | ((with_reducible refine gdU ?_); (try simp (maxSteps := 10000000) (disch := first | omega | simp) [hlt, isConst]))
                | ((with_reducible refine sideQ' ?_ ?_ fun K2 hK2 => ?_); exact rfl; exact rfl; (try simp (maxSteps := 10000000) (disch := first | omega | simp) [hlt, isConst]); with_reducible refine hK2 _ _ ?_; clear hK2 K2; (try simp (maxSteps := 10000000) (disch := first | omega | simp) [hlt, isConst]))
                | ((with_reducible refine side' ?_ fun K2 hK2 => ?_); exact rfl; (try simp (maxSteps := 10000000) (disch := first | omega | simp) [hlt, isConst]); refine hK2 _ _ (by simp) ?_; clear hK2 K2; (try simp (maxSteps := 10000000) (disch := first | omega | simp) [hlt, isConst]))) <;> clear hK K)
            | ((with_reducible refine awCond fun A B hA hB => ?_); simp (maxSteps := 10000000) (disch := first | omega | simp) [hlt, isConst]; (first | refine ⟨fun h => hA ?_, fun h => hB ?_⟩ | refine hA ?_ | refine hB ?_) <;> (clear hA hB A B; (try (exfalso; omega))))
        (refine ⟨?_, (), ?_, Wk.ofA ?_⟩; assumption; rotate_left; focus (simp []; done))
        trivial
      · have hi2 : i = rows.length := by omega
        repeat' first
            | (with_reducible first | refine thN ?_ | refine thR ?_ | refine thE ?_ | refine inN ?_ | refine inR ?_ | refine inH ?_ | refine fF ?_ | refine fS ?_ | refine fR ?_ | refine fQ ?_ | refine fC ?_ | refine fB ?_ | refine fL ?_ | refine fE ?_ | refine fT ?_ | refine awBlock ?_ | refine awExit ?_ | refine awRet ?_ | refine awSkip ?_ | refine inM (by decide) ?_)
            | ((with_reducible refine awReg fun K hok hK => ?_); clear hok; (try simp (maxSteps := 10000000) (disch := first | omega | simp) [hlt, hrl]); (repeat' first
                | (with_reducible refine hK _ (by simp) ?_)
                | ((with_reducible refine gdT (fun h => ?_) (fun h => ?_)) <;> (simp (maxSteps := 10000000) (disch := first | omega | simp) [h, hlt, hrl]; (try simp at h); (try (exfalso; omega))))
                | ((with_reducible refine gdF (fun h => ?_) (fun h => ?_)) <;> (simp (maxSteps := 10000000) (disch := first | omega | simp) [h, hlt, hrl]; (try simp at h); (try (exfalso; omega))))
                | ((with_reducible refine callS' fun K2 hK2 => ?_); (try simp (maxSteps := 10000000) (disch := first | omega | simp) [hlt, hrl]); (first | (refine hK2 _ _ (hw) rfl fun hk9 => ?_; clear hk9)); clear hK2 K2; (try simp (maxSteps := 10000000) (disch := first | omega | simp) [hlt, hrl]))
                | ((with_reducible refine callF' fun K2 hK2 => ?_); (try simp (maxSteps := 10000000) (disch := first | omega | simp) [hlt, hrl]); (first | refine hK2 _ _ _ (hw) fun _ => ?_); clear hK2 K2; (try simp (maxSteps := 10000000) (disch := first | omega | simp) [hlt, hrl]))
                | ((with_reducible refine sideS' fun K2 hK2 => ?_); (try simp (maxSteps := 10000000) (disch := first | omega | simp) [hlt, hrl]); (first | refine hK2 _ _ (hw) rfl ?_); clear hK2 K2; (try simp (maxSteps := 10000000) (disch := first | omega | simp) [hlt, hrl]))
                | ((with_reducible refine sideF' fun K2 hK2 => ?_); (try simp (maxSteps := 10000000) (disch := first | omega | simp) [hlt, hrl]); (first | refine hK2 _ _ _ (hw) (by simp) ?_); clear hK2 K2; (try simp (maxSteps := 10000000) (disch := first | omega | simp) [hlt, hrl]))
                | ((with_reducible refine callM' rfl fun K2 hK2 => ?_); (try simp (maxSteps := 10000000) (disch := first | omega | simp) [hlt, hrl]); (first | refine hK2 _ _ _ _ _ _ _ (hw) rfl fun _ _ => ?_); clear hK2 K2; (try simp (maxSteps := 10000000) (disch := first | omega | simp) [hlt, hrl]))
                | ((with_reducible refine callT' rfl fun K2 hK2 => ?_); (try simp (maxSteps := 10000000) (disch := first | omega | simp) [hlt, hrl]); (first | refine hK2 _ _ _ _ _ (hw) fun _ => ?_); clear hK2 K2; (try simp (maxSteps := 10000000) (disch := first | omega | simp) [hlt, hrl]))
                | ((with_reducible refine sideSt' fun K2 hK2 => ?_); (try simp (maxSteps := 10000000) (disch := first | omega | simp) [hlt, hrl]); refine hK2 _ ?_; clear hK2 K2; (try simp (maxSteps := 10000000) (disch := first | omega | simp) [hlt, hrl]))
                | ((with_reducible refine gdU ?_); (try simp (maxSteps := 10000000) (disch := first | omega | simp) [hlt, hrl]))
                | ((with_reducible refine sideQ' ?_ ?_ fun K2 hK2 => ?_); exact rfl; exact rfl; (try simp (maxSteps := 10000000) (disch := first | omega | simp) [hlt, hrl]); with_reducible refine hK2 _ _ ?_; clear hK2 K2; (try simp (maxSteps := 10000000) (disch := first | omega | simp) [hlt, hrl]))
                | ((with_reducible refine side' ?_ fun K2 hK2 => ?_); exact rfl; (try simp (maxSteps := 10000000) (disch := first | omega | simp) [hlt, hrl]); refine hK2 _ _ (by simp) ?_; clear hK2 K2; (try simp (maxSteps := 10000000) (disch := first | omega | simp) [hlt, hrl]))) <;> clear hK K)
            | ((with_reducible refine awCond fun A B hA hB => ?_); simp (maxSteps := 10000000) (disch := first | omega | simp) [hlt, hrl]; (first | refine ⟨fun h => hA ?_, fun h => hB ?_⟩ | refine hA ?_ | refine hB ?_) <;> (clear hA hB A B; (try (exfalso; omega))))
        all_goals (refine aEnR (aRes [] fun K hK => ?_); simp (maxSteps := 10000000) (disch := first | omega | simp) []; refine hK _ ?_ (by simp); simp (maxSteps := 10000000) (disch := first | omega | simp) [])
end
end Go.Am
