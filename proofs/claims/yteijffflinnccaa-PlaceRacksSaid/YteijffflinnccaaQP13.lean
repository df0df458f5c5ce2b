/- Part of the proof of a law of placing. -/
import Derived.Test.YteijffflinnccaaQP10
import Derived.Test.YteijffflinnccaaQP11
import Derived.Test.YteijffflinnccaaQP12
import Derived.Test.YteijffflinnccaaQPK
set_option linter.all false
set_option maxRecDepth 100000
set_option maxHeartbeats 0
namespace Go.Am
open Go
noncomputable section
def c6 : SC := (.seq (.reg [⟨some 8, .assign (.const (.bool false)), none, []⟩] [0, 1, 2, 3, 31, 62, 63, 64, 65]) (.seq (.reg [⟨some 13, .move (.tmp 0), none, []⟩,
  ⟨some 14, .call { callee := .value (.func 28), args := #[.tmp 13], argTypes := #[61] }, none, []⟩,
  ⟨some 9, .alloc 30, none, []⟩,
  ⟨none, .store 30 (.tmp 9) (.tmp 14), none, []⟩] [1, 2, 3, 9, 31, 62, 63, 64, 65]) (.seq (.reg [⟨some 16, .load 30 (.tmp 9), none, []⟩,
  ⟨some 17, .move (.tmp 1), none, []⟩,
  ⟨some 18, .convert 5 3 (.tmp 17), none, []⟩,
  ⟨some 19, .binOp .rem 3 (.tmp 18) (.const (.int .i64 15)) 3, none, []⟩,
  ⟨some 20, .binOp .add 3 (.const (.int .i64 1)) (.tmp 19) 3, none, []⟩,
  ⟨some 21, .move (.tmp 2), none, []⟩,
  ⟨some 22, .convert 5 3 (.tmp 21), none, []⟩,
  ⟨some 23, .binOp .rem 3 (.tmp 22) (.const (.int .i64 8)) 3, none, []⟩,
  ⟨some 24, .move (.tmp 3), none, []⟩,
  ⟨some 25, .convert 62 3 (.tmp 24), none, []⟩,
  ⟨some 26, .call { callee := .value (.func 29), args := #[.tmp 16, .tmp 20, .tmp 23, .tmp 25], argTypes := #[30, 3, 3, 3] }, none, []⟩,
  ⟨some 15, .move (.tmp 26), none, []⟩,
  ⟨some 27, .extract (.tmp 15) 0, none, []⟩,
  ⟨some 28, .extract (.tmp 15) 1, none, []⟩,
  ⟨some 10, .assign (.tmp 27), none, []⟩,
  ⟨some 11, .assign (.tmp 28), none, []⟩] [1, 2, 9, 10, 11, 15, 26, 27, 28, 31, 62, 63, 64, 65]) (.seq (.reg [⟨some 29, .move (.tmp 11), none, []⟩,
  ⟨some 30, .binOp .neq 55 (.tmp 29) (.const .nilIface) 55, none, []⟩] [1, 2, 9, 10, 15, 26, 27, 30, 31, 62, 63, 64, 65]) (.seq (.cond (.tmp 30) (.seq (.reg [⟨some 31, .call { callee := .value (.func 30), args := #[], argTypes := #[] }, none, []⟩,
  ⟨some 8, .assign (.tmp 31), none, []⟩] [8, 31, 62, 63, 64, 65]) .ret) .skip) (.seq (.reg [⟨some 12, .assign (.const (.int .i64 0)), none, []⟩] [1, 2, 9, 10, 12, 15, 26, 27, 31, 37, 62, 63, 64, 65]) (.seq (.block 0 (.seq (.loop (.seq (.reg [⟨some 32, .move (.tmp 12), none, []⟩,
  ⟨some 33, .move (.tmp 10), none, []⟩,
  ⟨some 34, .call { callee := .builtin .len, args := #[.tmp 33], argTypes := #[64] }, none, []⟩,
  ⟨some 35, .binOp .lss 3 (.tmp 32) (.tmp 34) 3, none, []⟩] [1, 2, 9, 10, 12, 15, 26, 27, 31, 35, 37, 62, 63, 64, 65]) (.seq (.cond (.tmp 35) .skip (.exit 0)) (.seq (.block 1 (.seq (.reg [⟨some 38, .move (.tmp 10), none, [39, 43, 44, 45]⟩,
  ⟨some 39, .move (.tmp 12), none, [38, 43, 44, 45]⟩,
  ⟨some 40, .indexAddr 64 (.tmp 38) (.tmp 39), none, [43, 44, 45]⟩,
  ⟨some 41, .load 41 (.tmp 40), none, [43, 44, 45]⟩,
  ⟨some 42, .call { callee := .builtin .len, args := #[.tmp 41], argTypes := #[41] }, none, [43, 44, 45]⟩,
  ⟨some 43, .move (.tmp 2), none, [38, 39, 40, 41, 42]⟩,
  ⟨some 44, .convert 5 3 (.tmp 43), none, [38, 39, 40, 41, 42]⟩,
  ⟨some 45, .binOp .rem 3 (.tmp 44) (.const (.int .i64 8)) 3, none, [38, 39, 40, 41, 42]⟩,
  ⟨some 46, .binOp .neq 3 (.tmp 42) (.tmp 45) 3, none, []⟩,
  ⟨some 47, .move (.tmp 46), none, []⟩,
  ⟨some 48, .load 30 (.tmp 9), (some (47, false)), [49, 50, 51, 52]⟩,
  ⟨some 49, .move (.tmp 10), (some (47, false)), [48, 50]⟩,
  ⟨some 50, .move (.tmp 12), (some (47, false)), [48, 49]⟩,
  ⟨some 51, .indexAddr 64 (.tmp 49) (.tmp 50), (some (47, false)), [48]⟩,
  ⟨some 52, .load 41 (.tmp 51), (some (47, false)), [48]⟩,
  ⟨some 53, .call { callee := .value (.func 31), args := #[.tmp 48, .tmp 52], argTypes := #[30, 41] }, (some (47, false)), []⟩,
  ⟨some 54, .binOp .neq 55 (.tmp 53) (.const .nilIface) 55, (some (47, false)), []⟩,
  ⟨some 55, .pick (.tmp 47) (.const (.bool true)) (.tmp 54), none, []⟩] [1, 2, 9, 10, 12, 15, 26, 27, 31, 37, 46, 47, 54, 55, 62, 63, 64, 65]) (.seq (.cond (.tmp 55) (.seq (.reg [⟨some 8, .assign (.const (.bool false)), none, []⟩] [8, 31, 62, 63, 64, 65]) .ret) .skip) .skip))) (.seq (.reg [⟨some 36, .move (.tmp 12), none, []⟩,
  ⟨some 37, .binOp .add 3 (.tmp 36) (.const (.int .i64 1)) 3, none, []⟩,
  ⟨some 12, .assign (.tmp 37), none, []⟩] [1, 2, 9, 10, 12, 15, 26, 27, 31, 37, 62, 63, 64, 65]) .skip))))) .skip)) (.seq (.reg [⟨some 56, .move (.tmp 10), none, []⟩,
  ⟨some 57, .call { callee := .builtin .len, args := #[.tmp 56], argTypes := #[64] }, none, []⟩,
  ⟨some 58, .move (.tmp 1), none, []⟩,
  ⟨some 59, .convert 5 3 (.tmp 58), none, []⟩,
  ⟨some 60, .binOp .rem 3 (.tmp 59) (.const (.int .i64 15)) 3, none, []⟩,
  ⟨some 61, .binOp .add 3 (.const (.int .i64 1)) (.tmp 60) 3, none, []⟩,
  ⟨some 62, .binOp .eql 3 (.tmp 57) (.tmp 61) 3, none, []⟩,
  ⟨some 63, .move (.tmp 62), none, []⟩,
  ⟨some 64, .call { callee := .value (.func 30), args := #[], argTypes := #[] }, (some (63, true)), []⟩,
  ⟨some 65, .pick (.tmp 63) (.tmp 64) (.const (.bool false)), none, []⟩,
  ⟨some 8, .assign (.tmp 65), none, []⟩] [8, 31, 62, 63, 64, 65]) .ret))))))))
theorem s6 : TextK Proofs.Try.prog 0 6 66 [ResultVar.tmp 8] c6 := .mk' Proofs.Try.f6 _ (by kernel_rfl) rfl rfl rfl (by kernel_rfl) rfl (by kernel_rfl)
theorem lawBs_len (l : List Int) : (lawBs l).length = min l.length 12 := by simp [lawBs]
theorem lawM_few (l : List Int) : (lawM l).Few := by
  refine ⟨?_, ?_, ?_⟩
  · show (lawBs l).length ≤ 100
    rw [lawBs_len]; omega
  · intro b hb
    simp only [lawM, lawBs, List.mem_map] at hb
    obtain ⟨i, _, rfl⟩ := hb
    simp only [lawB]; omega
  · simp only [lawM, lawBs, List.map_map]
    rw [List.nodup_iff_pairwise_ne, List.pairwise_map]
    refine List.Pairwise.imp ?_ List.nodup_range
    intro a b hab e
    simp only [Function.comp_apply, lawB] at e
    omega
theorem tmodN {x : Int} {n : Nat} (h : 0 ≤ x) (hn : 0 < n) : ∃ k : Nat, x.tmod (n : Int) = k ∧ k < n := by
  obtain ⟨y, rfl⟩ : ∃ y : Nat, x = y := ⟨x.toNat, by omega⟩
  exact ⟨y % n, rfl, Nat.mod_lt _ hn⟩
theorem right_walk (l : List Int) (parts r start : Int) (hp : 0 ≤ parts ∧ parts ≤ 255) (hr : 0 ≤ r ∧ r ≤ 255) (hst : 0 ≤ start ∧ start ≤ 65535) :
    ACall pg 6 [.sl (l.map U8), .c (.int .u8 parts), .c (.int .u8 r), .c (.int .u16 start)] (B true) := by
  refine s6.call mo (by simp) fun hxs => ?_
  clear hxs
  unfold c6
  have hb := brokersL_ok l
  have few := lawM_few l
  generalize lawM l = m at hb few
  obtain ⟨k, hk, hk15⟩ := tmodN (x := parts) (n := 15) hp.1 (by omega)
  obtain ⟨q, hq, hq8⟩ := tmodN (x := r) (n := 8) hr.1 (by omega)
  simp only [Int.cast_ofNat_Int] at hk hq
  have ha := assign_ok m (1 + k) q start few.len few.hor few.hnd
  have hw := worksP_ok
  rcases hx : m.assign (1 + k) q start with ⟨rows, er⟩
  rw [hx] at ha
  cases er with
  | some e =>
    repeat' first
        | (with_reducible first | refine thN ?_ | refine thR ?_ | refine thE ?_ | refine inN ?_ | refine inR ?_ | refine inH ?_ | refine fF ?_ | refine fS ?_ | refine fR ?_ | refine fQ ?_ | refine fC ?_ | refine fB ?_ | refine fL ?_ | refine fE ?_ | refine fT ?_ | refine awBlock ?_ | refine awExit ?_ | refine awRet ?_ | refine awSkip ?_ | refine inM (by decide) ?_)
        | ((with_reducible refine awReg fun K hok hK => ?_); clear hok; (try simp (maxSteps := 10000000) (disch := first | omega | simp) [hk, hq, isConst]); (repeat' first
            | (with_reducible refine hK _ (by simp) ?_)
            | ((with_reducible refine gdT (fun h => ?_) (fun h => ?_)) <;> (simp (maxSteps := 10000000) (disch := first | omega | simp) [h, hk, hq, isConst]; (try simp at h); (try (exfalso; omega))))
            | ((with_reducible refine gdF (fun h => ?_) (fun h => ?_)) <;> (simp (maxSteps := 10000000) (disch := first | omega | simp) [h, hk, hq, isConst]; (try simp at h); (try (exfalso; omega))))
            | ((with_reducible refine callS' fun K2 hK2 => ?_); (try simp (maxSteps := 10000000) (disch := first | omega | simp) [hk, hq, isConst]); (first | (refine hK2 _ _ (hb) rfl fun hk9 => ?_; clear hk9) | (refine hK2 _ _ (ha) rfl fun hk9 => ?_; clear hk9) | (refine hK2 _ _ (hw) rfl fun hk9 => ?_; clear hk9)); clear hK2 K2; (try simp (maxSteps := 10000000) (disch := first | omega | simp) [hk, hq, isConst]))
            | ((with_reducible refine callF' fun K2 hK2 => ?_); (try simp (maxSteps := 10000000) (disch := first | omega | simp) [hk, hq, isConst]); (first | refine hK2 _ _ _ (hb) fun _ => ?_ | refine hK2 _ _ _ (ha) fun _ => ?_ | refine hK2 _ _ _ (hw) fun _ => ?_); clear hK2 K2; (try simp (maxSteps := 10000000) (disch := first | omega | simp) [hk, hq, isConst]))
            | ((with_reducible refine sideS' fun K2 hK2 => ?_); (try simp (maxSteps := 10000000) (disch := first | omega | simp) [hk, hq, isConst]); (first | refine hK2 _ _ (hb) rfl ?_ | refine hK2 _ _ (ha) rfl ?_ | refine hK2 _ _ (hw) rfl ?_); clear hK2 K2; (try simp (maxSteps := 10000000) (disch := first | omega | simp) [hk, hq, isConst]))
            | ((with_reducible refine sideF' fun K2 hK2 => ?_); (try simp (maxSteps := 10000000) (disch := first | omega | simp) [hk, hq, isConst]); (first | refine hK2 _ _ _ (hb) (by simp) ?_ | refine hK2 _ _ _ (ha) (by simp) ?_ | refine hK2 _ _ _ (hw) (by simp) ?_); clear hK2 K2; (try simp (maxSteps := 10000000) (disch := first | omega | simp) [hk, hq, isConst]))
            | ((with_reducible refine callM' rfl fun K2 hK2 => ?_); (try simp (maxSteps := 10000000) (disch := first | omega | simp) [hk, hq, isConst]); (first | refine hK2 _ _ _ _ _ _ _ (hb) rfl fun _ _ => ?_ | refine hK2 _ _ _ _ _ _ _ (ha) rfl fun _ _ => ?_ | refine hK2 _ _ _ _ _ _ _ (hw) rfl fun _ _ => ?_); clear hK2 K2; (try simp (maxSteps := 10000000) (disch := first | omega | simp) [hk, hq, isConst]))
            | ((with_reducible refine callT' rfl fun K2 hK2 => ?_); (try simp (maxSteps := 10000000) (disch := first | omega | simp) [hk, hq, isConst]); (first | refine hK2 _ _ _ _ _ (hb) fun _ => ?_ | refine hK2 _ _ _ _ _ (ha) fun _ => ?_ | refine hK2 _ _ _ _ _ (hw) fun _ => ?_); clear hK2 K2; (try simp (maxSteps := 10000000) (disch := first | omega | simp) [hk, hq, isConst]))
            | ((with_reducible refine sideSt' fun K2 hK2 => ?_); (try simp (maxSteps := 10000000) (disch := first | omega | simp) [hk, hq, isConst]); refine hK2 _ ?_; clear hK2 K2; (try simp (maxSteps := 10000000) (disch := first | omega | simp) [hk, hq, isConst]))
            | ((with_reducible refine gdU ?_); (try simp (maxSteps := 10000000) (disch := first | omega | simp) [hk, hq, isConst]))
            | ((with_reducible refine sideQ' ?_ ?_ fun K2 hK2 => ?_); exact rfl; exact rfl; (try simp (maxSteps := 10000000) (disch := first | omega | simp) [hk, hq, isConst]); with_reducible refine hK2 _ _ ?_; clear hK2 K2; (try simp (maxSteps := 10000000) (disch := first | omega | simp) [hk, hq, isConst]))
            | ((with_reducible refine side' ?_ fun K2 hK2 => ?_); exact rfl; (try simp (maxSteps := 10000000) (disch := first | omega | simp) [hk, hq, isConst]); refine hK2 _ _ (by simp) ?_; clear hK2 K2; (try simp (maxSteps := 10000000) (disch := first | omega | simp) [hk, hq, isConst]))) <;> clear hK K)
        | ((with_reducible refine awCond fun A B hA hB => ?_); simp (maxSteps := 10000000) (disch := first | omega | simp) [hk, hq, isConst]; (first | refine ⟨fun h => hA ?_, fun h => hB ?_⟩ | refine hA ?_ | refine hB ?_) <;> (clear hA hB A B; (try (exfalso; omega))))
    all_goals (refine aEnR (aRes [] fun K hK => ?_); simp (maxSteps := 10000000) (disch := first | omega | simp) []; refine hK _ ?_ (by simp); simp (maxSteps := 10000000) (disch := first | omega | simp) [])
  | none =>
    obtain ⟨h1, h2, h3, h4, h5, h6, h7⟩ := assign_none hx
    have hrl : rows.length = 1 + k := by rw [h1, rowsP_len]; omega
    have hrow : ∀ row ∈ rows, row.length = q ∧ row.Nodup ∧ (∀ id ∈ row, id ∈ m.order) ∧ racksN m row = min q (racksN m (refOrder m)) := fun row h => rowsP_mem few (by omega) (by rw [h1] at h; simpa using h)
    clear hx h1
    repeat' first
        | (with_reducible first | refine thN ?_ | refine thR ?_ | refine thE ?_ | refine inN ?_ | refine inR ?_ | refine inH ?_ | refine fF ?_ | refine fS ?_ | refine fR ?_ | refine fQ ?_ | refine fC ?_ | refine fB ?_ | refine fL ?_ | refine fE ?_ | refine fT ?_ | refine awBlock ?_ | refine awExit ?_ | refine awRet ?_ | refine awSkip ?_ | refine inM (by decide) ?_)
        | ((with_reducible refine awReg fun K hok hK => ?_); clear hok; (try simp (maxSteps := 10000000) (disch := first | omega | simp) [hk, hq, isConst]); (repeat' first
            | (with_reducible refine hK _ (by simp) ?_)
            | ((with_reducible refine gdT (fun h => ?_) (fun h => ?_)) <;> (simp (maxSteps := 10000000) (disch := first | omega | simp) [h, hk, hq, isConst]; (try simp at h); (try (exfalso; omega))))
            | ((with_reducible refine gdF (fun h => ?_) (fun h => ?_)) <;> (simp (maxSteps := 10000000) (disch := first | omega | simp) [h, hk, hq, isConst]; (try simp at h); (try (exfalso; omega))))
            | ((with_reducible refine callS' fun K2 hK2 => ?_); (try simp (maxSteps := 10000000) (disch := first | omega | simp) [hk, hq, isConst]); (first | (refine hK2 _ _ (hb) rfl fun hk9 => ?_; clear hk9) | (refine hK2 _ _ (ha) rfl fun hk9 => ?_; clear hk9) | (refine hK2 _ _ (hw) rfl fun hk9 => ?_; clear hk9)); clear hK2 K2; (try simp (maxSteps := 10000000) (disch := first | omega | simp) [hk, hq, isConst]))
            | ((with_reducible refine callF' fun K2 hK2 => ?_); (try simp (maxSteps := 10000000) (disch := first | omega | simp) [hk, hq, isConst]); (first | refine hK2 _ _ _ (hb) fun _ => ?_ | refine hK2 _ _ _ (ha) fun _ => ?_ | refine hK2 _ _ _ (hw) fun _ => ?_); clear hK2 K2; (try simp (maxSteps := 10000000) (disch := first | omega | simp) [hk, hq, isConst]))
            | ((with_reducible refine sideS' fun K2 hK2 => ?_); (try simp (maxSteps := 10000000) (disch := first | omega | simp) [hk, hq, isConst]); (first | refine hK2 _ _ (hb) rfl ?_ | refine hK2 _ _ (ha) rfl ?_ | refine hK2 _ _ (hw) rfl ?_); clear hK2 K2; (try simp (maxSteps := 10000000) (disch := first | omega | simp) [hk, hq, isConst]))
            | ((with_reducible refine sideF' fun K2 hK2 => ?_); (try simp (maxSteps := 10000000) (disch := first | omega | simp) [hk, hq, isConst]); (first | refine hK2 _ _ _ (hb) (by simp) ?_ | refine hK2 _ _ _ (ha) (by simp) ?_ | refine hK2 _ _ _ (hw) (by simp) ?_); clear hK2 K2; (try simp (maxSteps := 10000000) (disch := first | omega | simp) [hk, hq, isConst]))
            | ((with_reducible refine callM' rfl fun K2 hK2 => ?_); (try simp (maxSteps := 10000000) (disch := first | omega | simp) [hk, hq, isConst]); (first | refine hK2 _ _ _ _ _ _ _ (hb) rfl fun _ _ => ?_ | refine hK2 _ _ _ _ _ _ _ (ha) rfl fun _ _ => ?_ | refine hK2 _ _ _ _ _ _ _ (hw) rfl fun _ _ => ?_); clear hK2 K2; (try simp (maxSteps := 10000000) (disch := first | omega | simp) [hk, hq, isConst]))
            | ((with_reducible refine callT' rfl fun K2 hK2 => ?_); (try simp (maxSteps := 10000000) (disch := first | omega | simp) [hk, hq, isConst]); (first | refine hK2 _ _ _ _ _ (hb) fun _ => ?_ | refine hK2 _ _ _ _ _ (ha) fun _ => ?_ | refine hK2 _ _ _ _ _ (hw) fun _ => ?_); clear hK2 K2; (try simp (maxSteps := 10000000) (disch := first | omega | simp) [hk, hq, isConst]))
            | ((with_reducible refine sideSt' fun K2 hK2 => ?_); (try simp (maxSteps := 10000000) (disch := first | omega | simp) [hk, hq, isConst]); refine hK2 _ ?_; clear hK2 K2; (try simp (maxSteps := 10000000) (disch := first | omega | simp) [hk, hq, isConst]))
            | ((with_reducible refine gdU ?_); (try simp (maxSteps := 10000000) (disch := first | omega | simp) [hk, hq, isConst]))
            | ((with_reducible refine sideQ' ?_ ?_ fun K2 hK2 => ?_); exact rfl; exact rfl; (try simp (maxSteps := 10000000) (disch := first | omega | simp) [hk, hq, isConst]); with_reducible refine hK2 _ _ ?_; clear hK2 K2; (try simp (maxSteps := 10000000) (disch := first | omega | simp) [hk, hq, isConst]))
            | ((with_reducible refine side' ?_ fun K2 hK2 => ?_); exact rfl; (try simp (maxSteps := 10000000) (disch := first | omega | simp) [hk, hq, isConst]); refine hK2 _ _ (by simp) ?_; clear hK2 K2; (try simp (maxSteps := 10000000) (disch := first | omega | simp) [hk, hq, isConst]))) <;> clear hK K)
        | ((with_reducible refine awCond fun A B hA hB => ?_); simp (maxSteps := 10000000) (disch := first | omega | simp) [hk, hq, isConst]; (first | refine ⟨fun h => hA ?_, fun h => hB ?_⟩ | refine hA ?_ | refine hB ?_) <;> (clear hA hB A B; (try (exfalso; omega))))
    refine awFor rows.length (fun i (_ : Unit) => True) (fun i _ => [(12, .p (I i)), (10, .p (.sl (rows.map Li))), (9, .p (.own (encM m).cells)), (2, .p (.c (.int .u8 r))), (1, .p (.c (.int .u8 parts)))]) ()
      ((Wk.frz0 (r := 10) rfl).trans (Wk.ofA (by simp))) trivial fun i _ hi _ => ?_
    by_cases hlt : i < rows.length
    · obtain ⟨g1, g2, g3, _⟩ := hrow rows[i] (List.getElem_mem hlt)
      have hc := check_ok m rows[i] few.len (by omega)
      rw [ckP_none (by omega) (by omega) g3 g2] at hc
      change ACall _ _ _ (.c .nilIface) at hc
      repeat' first
          | (with_reducible first | refine thN ?_ | refine thR ?_ | refine thE ?_ | refine inN ?_ | refine inR ?_ | refine inH ?_ | refine fF ?_ | refine fS ?_ | refine fR ?_ | refine fQ ?_ | refine fC ?_ | refine fB ?_ | refine fL ?_ | refine fE ?_ | refine fT ?_ | refine awBlock ?_ | refine awExit ?_ | refine awRet ?_ | refine awSkip ?_ | refine inM (by decide) ?_)
          | ((with_reducible refine awReg fun K hok hK => ?_); clear hok; (try simp (maxSteps := 10000000) (disch := first | omega | simp) [hk, hq, hlt, g1, isConst]); (repeat' first
              | (with_reducible refine hK _ (by simp) ?_)
              | ((with_reducible refine gdT (fun h => ?_) (fun h => ?_)) <;> (simp (maxSteps := 10000000) (disch := first | omega | simp) [h, hk, hq, hlt, g1, isConst]; (try simp at h); (try (exfalso; omega))))
              | ((with_reducible refine gdF (fun h => ?_) (fun h => ?_)) <;> (simp (maxSteps := 10000000) (disch := first | omega | simp) [h, hk, hq, hlt, g1, isConst]; (try simp at h); (try (exfalso; omega))))
              | ((with_reducible refine callS' fun K2 hK2 => ?_); (try simp (maxSteps := 10000000) (disch := first | omega | simp) [hk, hq, hlt, g1, isConst]); (first | (refine hK2 _ _ (hc) rfl fun hk9 => ?_; clear hk9)); clear hK2 K2; (try simp (maxSteps := 10000000) (disch := first | omega | simp) [hk, hq, hlt, g1, isConst]))
              | ((with_reducible refine callF' fun K2 hK2 => ?_); (try simp (maxSteps := 10000000) (disch := first | omega | simp) [hk, hq, hlt, g1, isConst]); (first | refine hK2 _ _ _ (hc) fun _ => ?_); clear hK2 K2; (try simp (maxSteps := 10000000) (disch := first | omega | simp) [hk, hq, hlt, g1, isConst]))
              | ((with_reducible refine sideS' fun K2 hK2 => ?_); (try simp (maxSteps := 10000000) (disch := first | omega | simp) [hk, hq, hlt, g1, isConst]); (first | refine hK2 _ _ (hc) rfl ?_); clear hK2 K2; (try simp (maxSteps := 10000000) (disch := first | omega | simp) [hk, hq, hlt, g1, isConst]))
              | ((with_reducible refine sideF' fun K2 hK2 => ?_); (try simp (maxSteps := 10000000) (disch := first | omega | simp) [hk, hq, hlt, g1, isConst]); (first | refine hK2 _ _ _ (hc) (by simp) ?_); clear hK2 K2; (try simp (maxSteps := 10000000) (disch := first | omega | simp) [hk, hq, hlt, g1, isConst]))
              | ((with_reducible refine callM' rfl fun K2 hK2 => ?_); (try simp (maxSteps := 10000000) (disch := first | omega | simp) [hk, hq, hlt, g1, isConst]); (first | refine hK2 _ _ _ _ _ _ _ (hc) rfl fun _ _ => ?_); clear hK2 K2; (try simp (maxSteps := 10000000) (disch := first | omega | simp) [hk, hq, hlt, g1, isConst]))
              | ((with_reducible refine callT' rfl fun K2 hK2 => ?_); (try simp (maxSteps := 10000000) (disch := first | omega | simp) [hk, hq, hlt, g1, isConst]); (first | refine hK2 _ _ _ _ _ (hc) fun _ => ?_); clear hK2 K2; (try simp (maxSteps := 10000000) (disch := first | omega | simp) [hk, hq, hlt, g1, isConst]))
              | ((with_reducible refine sideSt' fun K2 hK2 => ?_); (try simp (maxSteps := 10000000) (disch := first | omega | simp) [hk, hq, hlt, g1, isConst]); refine hK2 _ ?_; clear hK2 K2; (try simp (maxSteps := 10000000) (disch := first | omega | simp) [hk, hq, hlt, g1, isConst]))
              | ((with_reducible refine gdU ?_); (try simp (maxSteps := 10000000) (disch := first | omega | simp) [hk, hq, hlt, g1, isConst]))
              | ((with_reducible refine sideQ' ?_ ?_ fun K2 hK2 => ?_); exact rfl; exact rfl; (try simp (maxSteps := 10000000) (disch := first | omega | simp) [hk, hq, hlt, g1, isConst]); with_reducible refine hK2 _ _ ?_; clear hK2 K2; (try simp (maxSteps := 10000000) (disch := first | omega | simp) [hk, hq, hlt, g1, isConst]))
              | ((with_reducible refine side' ?_ fun K2 hK2 => ?_); exact rfl; (try simp (maxSteps := 10000000) (disch := first | omega | simp) [hk, hq, hlt, g1, isConst]); refine hK2 _ _ (by simp) ?_; clear hK2 K2; (try simp (maxSteps := 10000000) (disch := first | omega | simp) [hk, hq, hlt, g1, isConst]))) <;> clear hK K)
          | ((with_reducible refine awCond fun A B hA hB => ?_); simp (maxSteps := 10000000) (disch := first | omega | simp) [hk, hq, hlt, g1, isConst]; (first | refine ⟨fun h => hA ?_, fun h => hB ?_⟩ | refine hA ?_ | refine hB ?_) <;> (clear hA hB A B; (try (exfalso; omega))))
      (refine ⟨?_, (), ?_, Wk.ofA ?_⟩; assumption; rotate_left; focus (simp []; done))
      trivial
    · have hi2 : i = rows.length := by omega
      repeat' first
          | (with_reducible first | refine thN ?_ | refine thR ?_ | refine thE ?_ | refine inN ?_ | refine inR ?_ | refine inH ?_ | refine fF ?_ | refine fS ?_ | refine fR ?_ | refine fQ ?_ | refine fC ?_ | refine fB ?_ | refine fL ?_ | refine fE ?_ | refine fT ?_ | refine awBlock ?_ | refine awExit ?_ | refine awRet ?_ | refine awSkip ?_ | refine inM (by decide) ?_)
          | ((with_reducible refine awReg fun K hok hK => ?_); clear hok; (try simp (maxSteps := 10000000) (disch := first | omega | simp) [hk, hq, hlt, hrl]); (repeat' first
              | (with_reducible refine hK _ (by simp) ?_)
              | ((with_reducible refine gdT (fun h => ?_) (fun h => ?_)) <;> (simp (maxSteps := 10000000) (disch := first | omega | simp) [h, hk, hq, hlt, hrl]; (try simp at h); (try (exfalso; omega))))
              | ((with_reducible refine gdF (fun h => ?_) (fun h => ?_)) <;> (simp (maxSteps := 10000000) (disch := first | omega | simp) [h, hk, hq, hlt, hrl]; (try simp at h); (try (exfalso; omega))))
              | ((with_reducible refine callS' fun K2 hK2 => ?_); (try simp (maxSteps := 10000000) (disch := first | omega | simp) [hk, hq, hlt, hrl]); (first | (refine hK2 _ _ (hw) rfl fun hk9 => ?_; clear hk9)); clear hK2 K2; (try simp (maxSteps := 10000000) (disch := first | omega | simp) [hk, hq, hlt, hrl]))
              | ((with_reducible refine callF' fun K2 hK2 => ?_); (try simp (maxSteps := 10000000) (disch := first | omega | simp) [hk, hq, hlt, hrl]); (first | refine hK2 _ _ _ (hw) fun _ => ?_); clear hK2 K2; (try simp (maxSteps := 10000000) (disch := first | omega | simp) [hk, hq, hlt, hrl]))
              | ((with_reducible refine sideS' fun K2 hK2 => ?_); (try simp (maxSteps := 10000000) (disch := first | omega | simp) [hk, hq, hlt, hrl]); (first | refine hK2 _ _ (hw) rfl ?_); clear hK2 K2; (try simp (maxSteps := 10000000) (disch := first | omega | simp) [hk, hq, hlt, hrl]))
              | ((with_reducible refine sideF' fun K2 hK2 => ?_); (try simp (maxSteps := 10000000) (disch := first | omega | simp) [hk, hq, hlt, hrl]); (first | refine hK2 _ _ _ (hw) (by simp) ?_); clear hK2 K2; (try simp (maxSteps := 10000000) (disch := first | omega | simp) [hk, hq, hlt, hrl]))
              | ((with_reducible refine callM' rfl fun K2 hK2 => ?_); (try simp (maxSteps := 10000000) (disch := first | omega | simp) [hk, hq, hlt, hrl]); (first | refine hK2 _ _ _ _ _ _ _ (hw) rfl fun _ _ => ?_); clear hK2 K2; (try simp (maxSteps := 10000000) (disch := first | omega | simp) [hk, hq, hlt, hrl]))
              | ((with_reducible refine callT' rfl fun K2 hK2 => ?_); (try simp (maxSteps := 10000000) (disch := first | omega | simp) [hk, hq, hlt, hrl]); (first | refine hK2 _ _ _ _ _ (hw) fun _ => ?_); clear hK2 K2; (try simp (maxSteps := 10000000) (disch := first | omega | simp) [hk, hq, hlt, hrl]))
              | ((with_reducible refine sideSt' fun K2 hK2 => ?_); (try simp (maxSteps := 10000000) (disch := first | omega | simp) [hk, hq, hlt, hrl]); refine hK2 _ ?_; clear hK2 K2; (try simp (maxSteps := 10000000) (disch := first | omega | simp) [hk, hq, hlt, hrl]))
              | ((with_reducible refine gdU ?_); (try simp (maxSteps := 10000000) (disch := first | omega | simp) [hk, hq, hlt, hrl]))
              | ((with_reducible refine sideQ' ?_ ?_ fun K2 hK2 => ?_); exact rfl; exact rfl; (try simp (maxSteps := 10000000) (disch := first | omega | simp) [hk, hq, hlt, hrl]); with_reducible refine hK2 _ _ ?_; clear hK2 K2; (try simp (maxSteps := 10000000) (disch := first | omega | simp) [hk, hq, hlt, hrl]))
              | ((with_reducible refine side' ?_ fun K2 hK2 => ?_); exact rfl; (try simp (maxSteps := 10000000) (disch := first | omega | simp) [hk, hq, hlt, hrl]); refine hK2 _ _ (by simp) ?_; clear hK2 K2; (try simp (maxSteps := 10000000) (disch := first | omega | simp) [hk, hq, hlt, hrl]))) <;> clear hK K)
          | ((with_reducible refine awCond fun A B hA hB => ?_); simp (maxSteps := 10000000) (disch := first | omega | simp) [hk, hq, hlt, hrl]; (first | refine ⟨fun h => hA ?_, fun h => hB ?_⟩ | refine hA ?_ | refine hB ?_) <;> (clear hA hB A B; (try (exfalso; omega))))
      all_goals (refine aEnR (aRes [] fun K hK => ?_); simp (maxSteps := 10000000) (disch := first | omega | simp) []; refine hK _ ?_ (by simp); simp (maxSteps := 10000000) (disch := first | omega | simp) [])
end
end Go.Am
