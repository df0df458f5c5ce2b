/- Part of the proof of ElectLeaves. -/
import Derived.Test.YteijffflinnccaaZA23
import Derived.Test.YteijffflinnccaaZAA
import Derived.Test.YteijffflinnccaaZE4q
import Derived.Test.YteijffflinnccaaZE4s
import Derived.Test.YteijffflinnccaaZE5c
import Derived.Test.YteijffflinnccaaZE5l
import Derived.Test.YteijffflinnccaaZED
set_option linter.all false
set_option maxRecDepth 100000
set_option maxHeartbeats 0
namespace Go.Am
open Go
noncomputable section
def c15 : SC := (.seq (.reg [⟨some 0, .assign (.const (.bool false)), none, []⟩] []) (.seq (.reg [⟨some 12, .call { callee := .value (.func 49), args := #[], argTypes := #[] }, none, []⟩,
  ⟨some 13, .call { callee := .value (.func 16), args := #[.tmp 12], argTypes := #[22] }, none, []⟩,
  ⟨some 1, .alloc 30, none, []⟩,
  ⟨none, .store 30 (.tmp 1) (.tmp 13), none, []⟩] [1]) (.seq (.reg [⟨some 15, .load 30 (.tmp 1), none, []⟩,
  ⟨some 16, .call { callee := .value (.func 50), args := #[.tmp 15, .const (.int .i64 1), .const (.int .i64 0)], argTypes := #[30, 3, 3] }, none, []⟩,
  ⟨some 14, .move (.tmp 16), none, []⟩,
  ⟨some 17, .extract (.tmp 14) 0, none, []⟩,
  ⟨some 18, .extract (.tmp 14) 1, none, []⟩,
  ⟨some 2, .alloc 48, none, []⟩,
  ⟨none, .store 48 (.tmp 2) (.tmp 17), none, []⟩,
  ⟨some 3, .assign (.tmp 18), none, []⟩] [1, 2]) (.seq (.reg [⟨some 19, .load 30 (.tmp 1), none, []⟩,
  ⟨some 20, .load 48 (.tmp 2), none, []⟩,
  ⟨some 21, .call { callee := .value (.func 51), args := #[.tmp 19, .tmp 20, .const (.int .i64 1)], argTypes := #[30, 48, 3] }, none, []⟩,
  ⟨some 4, .alloc 48, none, []⟩,
  ⟨none, .store 48 (.tmp 4) (.tmp 21), none, []⟩] [1, 2, 4]) (.seq (.reg [⟨some 23, .load 30 (.tmp 1), none, []⟩,
  ⟨some 24, .load 48 (.tmp 4), none, []⟩,
  ⟨some 25, .call { callee := .value (.func 52), args := #[.tmp 23, .tmp 24], argTypes := #[30, 48] }, none, []⟩,
  ⟨some 22, .move (.tmp 25), none, []⟩,
  ⟨some 26, .extract (.tmp 22) 0, none, []⟩,
  ⟨some 27, .extract (.tmp 22) 1, none, []⟩,
  ⟨some 5, .alloc 48, none, []⟩,
  ⟨none, .store 48 (.tmp 5) (.tmp 26), none, []⟩,
  ⟨some 6, .assign (.tmp 27), none, []⟩] [1, 2, 4, 5, 6, 22, 25, 27]) (.seq (.reg [⟨some 29, .load 30 (.tmp 1), none, []⟩,
  ⟨some 30, .load 48 (.tmp 2), none, []⟩,
  ⟨some 31, .buildSlice 41 1 #[(0, .const (.int .i64 1))], none, []⟩,
  ⟨some 32, .call { callee := .value (.func 25), args := #[.tmp 29, .tmp 30, .const (.int .i64 1), .const (.int .i64 0), .tmp 31], argTypes := #[30, 48, 3, 3, 41] }, none, []⟩,
  ⟨some 28, .move (.tmp 32), none, []⟩,
  ⟨some 33, .extract (.tmp 28) 0, none, []⟩,
  ⟨some 34, .extract (.tmp 28) 1, none, []⟩,
  ⟨some 7, .alloc 48, none, []⟩,
  ⟨none, .store 48 (.tmp 7) (.tmp 33), none, []⟩,
  ⟨some 8, .assign (.tmp 34), none, []⟩] [1, 2, 4, 5, 6, 8, 22, 25, 27, 28, 32, 34]) (.seq (.reg [⟨some 36, .load 30 (.tmp 1), none, []⟩,
  ⟨some 37, .load 48 (.tmp 2), none, []⟩,
  ⟨some 38, .buildSlice 41 1 #[(0, .const (.int .i64 1))], none, []⟩,
  ⟨some 39, .call { callee := .value (.func 25), args := #[.tmp 36, .tmp 37, .const (.int .i64 1), .const (.int .i64 3), .tmp 38], argTypes := #[30, 48, 3, 3, 41] }, none, []⟩,
  ⟨some 35, .move (.tmp 39), none, []⟩,
  ⟨some 40, .extract (.tmp 35) 0, none, []⟩,
  ⟨some 41, .extract (.tmp 35) 1, none, []⟩,
  ⟨some 9, .alloc 48, none, []⟩,
  ⟨none, .store 48 (.tmp 9) (.tmp 40), none, []⟩,
  ⟨some 10, .assign (.tmp 41), none, []⟩] [1, 2, 4, 5, 6, 8, 10, 22, 25, 27, 28, 32, 34, 35, 39, 41]) (.seq (.reg [⟨some 42, .load 30 (.tmp 1), none, []⟩,
  ⟨some 43, .call { callee := .value (.func 18), args := #[.tmp 42, .const (.int .i64 1)], argTypes := #[30, 3] }, none, []⟩,
  ⟨some 11, .assign (.tmp 43), none, []⟩] [1, 2, 4, 5, 6, 8, 10, 11, 22, 25, 27, 28, 32, 34, 35, 39, 41, 43]) (.seq (.reg (⟨some 44, .fieldAddr 48 (.tmp 4) 2, none, []⟩ ::
  ⟨some 45, .load 3 (.tmp 44), none, []⟩ ::
  ⟨some 46, .binOp .eql 3 (.tmp 45) (.const (.int .i64 2)) 3, none, []⟩ ::
  ⟨some 47, .move (.tmp 46), none, []⟩ ::
  ⟨some 48, .fieldAddr 48 (.tmp 4) 3, (some (47, true)), []⟩ ::
  ⟨some 49, .load 3 (.tmp 48), (some (47, true)), []⟩ ::
  ⟨some 50, .binOp .eql 3 (.tmp 49) (.const (.int .i64 1)) 3, (some (47, true)), []⟩ ::
  ⟨some 51, .pick (.tmp 47) (.tmp 50) (.const (.bool false)), none, []⟩ ::
  ⟨some 52, .move (.tmp 51), none, []⟩ ::
  ⟨some 53, .fieldAddr 48 (.tmp 4) 1, (some (52, true)), []⟩ ::
  ⟨some 54, .load 41 (.tmp 53), (some (52, true)), []⟩ ::
  ⟨some 55, .call { callee := .builtin .len, args := #[.tmp 54], argTypes := #[41] }, (some (52, true)), []⟩ ::
  ⟨some 56, .binOp .eql 3 (.tmp 55) (.const (.int .i64 1)) 3, (some (52, true)), []⟩ ::
  ⟨some 57, .pick (.tmp 52) (.tmp 56) (.const (.bool false)), none, []⟩ ::
  ⟨some 58, .move (.tmp 57), none, []⟩ ::
  ⟨some 59, .move (.tmp 6), (some (58, true)), []⟩ ::
  ⟨some 60, .call { callee := .value (.func 53), args := #[.tmp 59, .const (.int .i64 17)], argTypes := #[55, 35] }, (some (58, true)), []⟩ ::
  ⟨some 61, .pick (.tmp 58) (.tmp 60) (.const (.bool false)), none, []⟩ ::
  ⟨some 62, .move (.tmp 61), none, []⟩ ::
  ⟨some 63, .fieldAddr 48 (.tmp 5) 2, (some (62, true)), []⟩ ::
  ⟨some 64, .load 3 (.tmp 63), (some (62, true)), []⟩ ::
  ⟨some 65, .binOp .eql 3 (.tmp 64) (.const (.int .i64 2)) 3, (some (62, true)), []⟩ ::
  ⟨some 66, .pick (.tmp 62) (.tmp 65) (.const (.bool false)), none, []⟩ ::
  ⟨some 67, .move (.tmp 66), none, []⟩ ::
  ⟨some 68, .move (.tmp 8), (some (67, true)), []⟩ ::
  ⟨some 69, .binOp .eql 55 (.tmp 68) (.const .nilIface) 55, (some (67, true)), []⟩ ::
  ⟨some 70, .pick (.tmp 67) (.tmp 69) (.const (.bool false)), none, []⟩ ::
  ⟨some 71, .move (.tmp 70), none, []⟩ ::
  ⟨some 72, .move (.tmp 10), (some (71, true)), []⟩ ::
  ⟨some 73, .call { callee := .value (.func 53), args := #[.tmp 72, .const (.int .i64 11)], argTypes := #[55, 35] }, (some (71, true)), []⟩ ::
  ⟨some 74, .pick (.tmp 71) (.tmp 73) (.const (.bool false)), none, []⟩ ::
  ⟨some 75, .move (.tmp 74), none, []⟩ ::
  ⟨some 76, .move (.tmp 11), (some (75, true)), []⟩ ::
  ⟨some 77, .call { callee := .builtin .len, args := #[.tmp 76], argTypes := #[22] }, (some (75, true)), []⟩ ::
  ⟨some 78, .binOp .eql 3 (.tmp 77) (.const (.int .i64 1)) 3, (some (75, true)), []⟩ ::
  ⟨some 79, .pick (.tmp 75) (.tmp 78) (.const (.bool false)), none, []⟩ ::
  ⟨some 80, .move (.tmp 79), none, []⟩ ::
  ⟨some 81, .move (.tmp 11), (some (80, true)), []⟩ ::
  ⟨some 82, .indexAddr 22 (.tmp 81) (.const (.int .i64 0)), (some (80, true)), []⟩ ::
  ⟨some 83, .fieldAddr 43 (.tmp 82) 5, (some (80, true)), []⟩ ::
  ⟨some 84, .load 3 (.tmp 83), (some (80, true)), []⟩ ::
  ⟨some 85, .binOp .eql 3 (.tmp 84) (.const (.int .i64 2)) 3, (some (80, true)), []⟩ ::
  ⟨some 86, .pick (.tmp 80) (.tmp 85) (.const (.bool false)), none, []⟩ ::
  ⟨some 87, .move (.tmp 86), none, []⟩ ::
  ⟨some 88, .load 30 (.tmp 1), (some (87, true)), []⟩ ::
  ⟨some 89, .load 48 (.tmp 2), (some (87, true)), []⟩ ::
  ⟨some 90, .call { callee := .value (.func 54), args := #[.tmp 88, .tmp 89, .const (.int .i64 1)], argTypes := #[30, 48, 3] }, (some (87, true)), []⟩ ::
  ⟨some 91, .binOp .eql 3 (.tmp 90) (.const (.int .i64 2)) 3, (some (87, true)), []⟩ ::
  ⟨some 92, .pick (.tmp 87) (.tmp 91) (.const (.bool false)), none, []⟩ ::
  ⟨some 93, .move (.tmp 92), none, []⟩ ::
  ⟨some 94, .load 30 (.tmp 1), (some (93, true)), []⟩ ::
  ⟨some 95, .load 48 (.tmp 2), (some (93, true)), []⟩ ::
  ⟨some 96, .call { callee := .value (.func 55), args := #[.tmp 94, .tmp 95], argTypes := #[30, 48] }, (some (93, true)), []⟩ ::
  ⟨some 97, .field 48 (.tmp 96) 2, (some (93, true)), []⟩ ::
  ⟨some 98, .binOp .eql 3 (.tmp 97) (.const (.int .i64 1)) 3, (some (93, true)), []⟩ ::
  ⟨some 99, .pick (.tmp 93) (.tmp 98) (.const (.bool false)), none, []⟩ ::
  ⟨some 100, .move (.tmp 99), none, []⟩ ::
  ⟨some 101, .load 30 (.tmp 1), (some (100, true)), []⟩ ::
  ⟨some 102, .call { callee := .value (.func 22), args := #[.tmp 101, .const (.int .i64 2)], argTypes := #[30, 3] }, (some (100, true)), []⟩ ::
  ⟨some 103, .call { callee := .builtin .len, args := #[.tmp 102], argTypes := #[22] }, (some (100, true)), []⟩ ::
  ⟨some 104, .binOp .eql 3 (.tmp 103) (.const (.int .i64 0)) 3, (some (100, true)), []⟩ ::
  ⟨some 105, .pick (.tmp 100) (.tmp 104) (.const (.bool false)), none, []⟩ ::
  ⟨some 0, .assign (.tmp 105), none, []⟩ :: []) [0, 46, 47, 50, 51, 52, 56, 57, 58, 60, 61, 62, 65, 66, 67, 69, 70, 71, 73, 74, 75, 78, 79, 80, 85, 86, 87, 91, 92, 93, 98, 99, 100, 104, 105]) .ret)))))))))
theorem s15 : TextK Proofs.Try.prog 0 15 106 [ResultVar.tmp 0] c15 := .mk' Proofs.Try.f15 _ (by kernel_rfl) rfl rfl rfl (by kernel_rfl) rfl (by kernel_rfl)
theorem works_ok : ACall pg 15 [] (B true) := by
  refine s15.call mo (by simp) fun hxs => ?_
  clear hxs
  have hpre := fm_inv.pre (by decide)
  have hbk : fm.Brk := ⟨fm_inv.bs, fun b hb => by have := fm_inv.br b hb; omega, by have := fm_inv.bl; omega⟩
  have hsp : fp.Small := ⟨by decide, by decide, by decide, by decide⟩
  have hsq : fq.Small := ⟨by decide, by decide, by decide, by decide⟩
  have hbp : ∀ n ∈ fp.ids, big62 n := by decide
  have hbq : ∀ n ∈ fq.ids, big62 n := by decide
  have hep : 0 ≤ fp.epoch ∧ fp.epoch ≤ 1000000 := by decide
  have heq : 0 ≤ fq.epoch ∧ fq.epoch ≤ 1000000 := by decide
  have htt : fm.topics = [⟨1, bs [116], [fp]⟩] := by kernel_rfl
  have hsm : fm.Sml := ⟨hpre.tl, hpre.pl, by rw [htt]; intro t ht p hp; simp at ht; subst ht; simp at hp; subst hp; exact hsp⟩
  have h1 := made_ok firstL (by decide)
  have h2 := part_ok fm 1 0
  rw [fm_part] at h2
  have h3 := lose_ok fm fp 1 hbk hsp hbp hep
  rw [fm_lose] at h3
  have h4 := prefer_ok fm fq hbk hsq (by decide) hbq heq
  rw [fm_prefer] at h4
  have h5 := sync_ok fm fp 1 0 [1] hbk hsp (by decide) hbp
  rw [fm_sync0] at h5
  have h6 := sync_ok fm fp 1 3 [1] hbk hsp (by decide) hbp
  rw [fm_sync3] at h6
  have hall : ∀ t ∈ fm.topics, ∀ p ∈ t.parts, p = fp := by rw [htt]; intro t ht p hp; simp at ht; subst ht; simpa using hp
  have h7 := leave_ok fm 1 hbk hsm (fun t ht p hp => by rw [hall t ht p hp]; exact hbp) (fun t ht p hp => by rw [hall t ht p hp]; exact hep) (fun t ht p hp => by rw [hall t ht p hp, fm_lose]; exact hsq)
  rw [fm_leave] at h7
  have h8 := chooseP_ok fm fp 1 hbk hsp hbp
  rw [fm_choose] at h8
  have h9 := gain_ok fm fp hbk hsp hbp hep
  rw [fm_gain] at h9
  have hop : (fm.opened 2).brokers = fm.brokers := by kernel_rfl
  have hbk2 : (fm.opened 2).Brk := ⟨by rw [hop]; exact hbk.bs, by rw [hop]; exact hbk.br, by rw [hop]; exact hbk.bl⟩
  have hg2 : (fm.opened 2).gain fp = fp := by kernel_rfl
  have h10 := come_ok fm 2 hpre hsm hbk2 (fun t ht p hp => by rw [hall t ht p hp]; exact hbp) (fun t ht p hp => by rw [hall t ht p hp]; exact hep) (fun t ht p hp => by rw [hall t ht p hp, hg2]; exact hsp)
  rw [fm_come] at h10
  unfold c15
  have f1 : fq.leader = 2 := rfl
  have f2 : fq.epoch = 1 := rfl
  have f3 : fq.isr.length = 1 := rfl
  have f4 : fp.leader = 1 := rfl
  have hfl : fldT pg 48 2 = some (3, 2) := by kernel_rfl
  have f5 : (change 1 0 fq).leader = 2 := rfl
  repeat' first
      | (with_reducible first | refine thN ?_ | refine thR ?_ | refine thE ?_ | refine inN ?_ | refine inR ?_ | refine inH ?_ | refine fF ?_ | refine fS ?_ | refine fR ?_ | refine fQ ?_ | refine fC ?_ | refine fB ?_ | refine fL ?_ | refine fE ?_ | refine fT ?_ | refine awBlock ?_ | refine awExit ?_ | refine awRet ?_ | refine awSkip ?_ | refine inM (by decide) ?_)
      | ((with_reducible refine awReg fun K hok hK => ?_); clear hok; (try simp (maxSteps := 10000000) (disch := first | omega | simp) [f1, f2, f3, f4, f5, isConst, hfl]); (repeat' first
          | (with_reducible refine hK _ (by simp) ?_)
          | ((with_reducible refine gdT (fun h => ?_) (fun h => ?_)) <;> (simp (maxSteps := 10000000) (disch := first | omega | simp) [h, f1, f2, f3, f4, f5, isConst, hfl]; (try simp at h); (try (exfalso; omega))))
          | ((with_reducible refine gdF (fun h => ?_) (fun h => ?_)) <;> (simp (maxSteps := 10000000) (disch := first | omega | simp) [h, f1, f2, f3, f4, f5, isConst, hfl]; (try simp at h); (try (exfalso; omega))))
          | ((with_reducible refine callS' fun K2 hK2 => ?_); (try simp (maxSteps := 10000000) (disch := first | omega | simp) [f1, f2, f3, f4, f5, isConst, hfl]); (first | (refine hK2 _ _ (first_ok) rfl fun hk9 => ?_; clear hk9) | (refine hK2 _ _ (h1) rfl fun hk9 => ?_; clear hk9) | (refine hK2 _ _ (h2) rfl fun hk9 => ?_; clear hk9) | (refine hK2 _ _ (h3) rfl fun hk9 => ?_; clear hk9) | (refine hK2 _ _ (h4) rfl fun hk9 => ?_; clear hk9) | (refine hK2 _ _ (h5) rfl fun hk9 => ?_; clear hk9) | (refine hK2 _ _ (h6) rfl fun hk9 => ?_; clear hk9) | (refine hK2 _ _ (h7) rfl fun hk9 => ?_; clear hk9) | (refine hK2 _ _ (h8) rfl fun hk9 => ?_; clear hk9) | (refine hK2 _ _ (h9) rfl fun hk9 => ?_; clear hk9) | (refine hK2 _ _ (h10) rfl fun hk9 => ?_; clear hk9) | (refine hK2 _ _ (isF_ok _ _ _ _) rfl fun hk9 => ?_; clear hk9)); clear hK2 K2; (try simp (maxSteps := 10000000) (disch := first | omega | simp) [f1, f2, f3, f4, f5, isConst, hfl]))
          | ((with_reducible refine callF' fun K2 hK2 => ?_); (try simp (maxSteps := 10000000) (disch := first | omega | simp) [f1, f2, f3, f4, f5, isConst, hfl]); (first | refine hK2 _ _ _ (first_ok) fun _ => ?_ | refine hK2 _ _ _ (h1) fun _ => ?_ | refine hK2 _ _ _ (h2) fun _ => ?_ | refine hK2 _ _ _ (h3) fun _ => ?_ | refine hK2 _ _ _ (h4) fun _ => ?_ | refine hK2 _ _ _ (h5) fun _ => ?_ | refine hK2 _ _ _ (h6) fun _ => ?_ | refine hK2 _ _ _ (h7) fun _ => ?_ | refine hK2 _ _ _ (h8) fun _ => ?_ | refine hK2 _ _ _ (h9) fun _ => ?_ | refine hK2 _ _ _ (h10) fun _ => ?_ | refine hK2 _ _ _ (isF_ok _ _ _ _) fun _ => ?_); clear hK2 K2; (try simp (maxSteps := 10000000) (disch := first | omega | simp) [f1, f2, f3, f4, f5, isConst, hfl]))
          | ((with_reducible refine callT' rfl fun K2 hK2 => ?_); (try simp (maxSteps := 10000000) (disch := first | omega | simp) [f1, f2, f3, f4, f5, isConst, hfl]); (first | refine hK2 _ _ _ _ _ (h1) fun _ => ?_ | refine hK2 _ _ _ _ _ (h2) fun _ => ?_ | refine hK2 _ _ _ _ _ (h3) fun _ => ?_ | refine hK2 _ _ _ _ _ (h4) fun _ => ?_ | refine hK2 _ _ _ _ _ (h5) fun _ => ?_ | refine hK2 _ _ _ _ _ (h6) fun _ => ?_ | refine hK2 _ _ _ _ _ (h7) fun _ => ?_ | refine hK2 _ _ _ _ _ (h8) fun _ => ?_ | refine hK2 _ _ _ _ _ (h9) fun _ => ?_ | refine hK2 _ _ _ _ _ (h10) fun _ => ?_); clear hK2 K2; (try simp (maxSteps := 10000000) (disch := first | omega | simp) [f1, f2, f3, f4, f5, isConst, hfl]))
          | ((with_reducible refine callM' rfl fun K2 hK2 => ?_); (try simp (maxSteps := 10000000) (disch := first | omega | simp) [f1, f2, f3, f4, f5, isConst, hfl]); (first | refine hK2 _ _ _ _ _ _ _ (h1) rfl fun _ _ => ?_ | refine hK2 _ _ _ _ _ _ _ (h2) rfl fun _ _ => ?_ | refine hK2 _ _ _ _ _ _ _ (h3) rfl fun _ _ => ?_ | refine hK2 _ _ _ _ _ _ _ (h4) rfl fun _ _ => ?_ | refine hK2 _ _ _ _ _ _ _ (h5) rfl fun _ _ => ?_ | refine hK2 _ _ _ _ _ _ _ (h6) rfl fun _ _ => ?_ | refine hK2 _ _ _ _ _ _ _ (h7) rfl fun _ _ => ?_ | refine hK2 _ _ _ _ _ _ _ (h8) rfl fun _ _ => ?_ | refine hK2 _ _ _ _ _ _ _ (h9) rfl fun _ _ => ?_ | refine hK2 _ _ _ _ _ _ _ (h10) rfl fun _ _ => ?_); clear hK2 K2; (try simp (maxSteps := 10000000) (disch := first | omega | simp) [f1, f2, f3, f4, f5, isConst, hfl]))
          | ((with_reducible refine gdU ?_); (try simp (maxSteps := 10000000) (disch := first | omega | simp) [f1, f2, f3, f4, f5, isConst, hfl]))) <;> clear hK K)
      | ((with_reducible refine awCond fun A B hA hB => ?_); simp (maxSteps := 10000000) (disch := first | omega | simp) [f1, f2, f3, f4, f5, isConst, hfl]; (first | refine ⟨fun h => hA ?_, fun h => hB ?_⟩ | refine hA ?_ | refine hB ?_) <;> (clear hA hB A B; (try (exfalso; omega))))
  all_goals (refine aEnR (aRes [] fun K hK => ?_); simp (maxSteps := 10000000) (disch := first | omega | simp) []; refine hK _ ?_ (by simp); simp (maxSteps := 10000000) (disch := first | omega | simp) [])
end
end Go.Am
