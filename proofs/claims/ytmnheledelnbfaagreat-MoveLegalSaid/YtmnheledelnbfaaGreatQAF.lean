/- Part of the proof of a law of moving. -/
import Derived.Test.YtmnheledelnbfaaGreatQAB
import Derived.Test.YtmnheledelnbfaaGreatQAD
import Derived.Test.YtmnheledelnbfaaGreatQAE
import Derived.Test.YtmnheledelnbfaaGreatQFz
import Derived.Test.YtmnheledelnbfaaGreatQPU
set_option linter.all false
section
set_option maxRecDepth 100000
set_option maxHeartbeats 0
namespace Go.Am
open Go
noncomputable section
def c48 : SC := (.seq (.reg [⟨some 2, .box 36 (.tmp 0), none, []⟩,
  ⟨some 3, .box 73 (.tmp 1), none, []⟩,
  ⟨some 4, .alloc 36, none, []⟩,
  ⟨some 5, .assign (.const (.int .i64 0)), none, []⟩] [2, 3, 4, 9, 36, 40]) (.seq (.reg [⟨some 12, .load 36 (.tmp 2), none, []⟩,
  ⟨some 13, .fieldAddr 73 (.tmp 3) 3, none, []⟩,
  ⟨some 14, .load 3 (.tmp 13), none, []⟩,
  ⟨some 15, .call { callee := .value (.func 34), args := #[.tmp 12, .tmp 14], argTypes := #[36, 3] }, none, []⟩,
  ⟨some 11, .move (.tmp 15), none, []⟩,
  ⟨some 16, .extract (.tmp 11) 0, none, []⟩,
  ⟨some 17, .extract (.tmp 11) 1, none, []⟩,
  ⟨some 6, .alloc 50, none, []⟩,
  ⟨none, .store 50 (.tmp 6) (.tmp 16), none, []⟩,
  ⟨some 7, .assign (.tmp 17), none, []⟩] [2, 3, 4, 6, 7, 9, 11, 15, 17, 36, 40]) (.seq (.reg [⟨some 18, .move (.tmp 7), none, []⟩,
  ⟨some 19, .unOp .not 4 (.tmp 18), none, []⟩] [2, 3, 4, 6, 9, 19, 36, 40]) (.seq (.cond (.tmp 19) (.seq (.reg [⟨some 20, .load 36 (.tmp 2), none, []⟩,
  ⟨none, .store 36 (.tmp 4) (.tmp 20), none, []⟩,
  ⟨some 5, .assign (.const (.int .i64 8)), none, []⟩] [4, 5, 9, 36, 40]) .ret) .skip) (.seq (.reg [⟨some 21, .fieldAddr 73 (.tmp 3) 14, none, []⟩,
  ⟨some 22, .load 23 (.tmp 21), none, []⟩,
  ⟨some 23, .fieldAddr 73 (.tmp 3) 15, none, []⟩,
  ⟨some 24, .load 23 (.tmp 23), none, []⟩,
  ⟨some 25, .fieldAddr 73 (.tmp 3) 5, none, []⟩,
  ⟨some 26, .load 3 (.tmp 25), none, []⟩,
  ⟨some 27, .fieldAddr 73 (.tmp 3) 2, none, []⟩,
  ⟨some 28, .load 3 (.tmp 27), none, []⟩,
  ⟨some 29, .fieldAddr 73 (.tmp 3) 16, none, []⟩,
  ⟨some 30, .load 23 (.tmp 29), none, []⟩,
  ⟨some 31, .fieldAddr 73 (.tmp 3) 17, none, []⟩,
  ⟨some 32, .load 23 (.tmp 31), none, []⟩,
  ⟨some 33, .build 52 #[(0, .tmp 22), (1, .tmp 24), (2, .tmp 26), (3, .tmp 28), (4, .tmp 30), (5, .tmp 32)], none, []⟩,
  ⟨some 8, .alloc 52, none, []⟩,
  ⟨none, .store 52 (.tmp 8) (.tmp 33), none, []⟩] [2, 3, 4, 6, 8, 9, 36, 40]) (.seq (.reg [⟨some 34, .load 36 (.tmp 2), none, []⟩,
  ⟨some 35, .load 52 (.tmp 8), none, []⟩,
  ⟨some 36, .call { callee := .value (.func 68), args := #[.tmp 34, .tmp 35], argTypes := #[36, 52] }, none, []⟩,
  ⟨some 9, .assign (.tmp 36), none, []⟩] [2, 3, 4, 6, 8, 9, 36, 40]) (.seq (.reg [⟨some 37, .move (.tmp 9), none, []⟩,
  ⟨some 38, .binOp .neq 42 (.tmp 37) (.const (.int .i64 0)) 42, none, []⟩] [2, 3, 4, 6, 8, 9, 36, 38, 40]) (.seq (.cond (.tmp 38) (.seq (.reg [⟨some 39, .load 36 (.tmp 2), none, []⟩,
  ⟨some 40, .move (.tmp 9), none, []⟩,
  ⟨none, .store 36 (.tmp 4) (.tmp 39), none, []⟩,
  ⟨some 5, .assign (.tmp 40), none, []⟩] [4, 5, 9, 36, 40]) .ret) .skip) (.seq (.reg [⟨some 41, .fieldAddr 73 (.tmp 3) 0, none, []⟩,
  ⟨some 42, .load 3 (.tmp 41), none, []⟩,
  ⟨some 43, .binOp .eql 3 (.tmp 42) (.const (.int .i64 8)) 3, none, []⟩] [2, 3, 4, 6, 8, 9, 36, 40, 43]) (.seq (.cond (.tmp 43) (.seq (.reg [⟨some 44, .fieldAddr 73 (.tmp 3) 4, none, []⟩,
  ⟨some 45, .load 3 (.tmp 44), none, []⟩,
  ⟨some 46, .fieldAddr 50 (.tmp 6) 2, none, []⟩,
  ⟨some 47, .load 48 (.tmp 46), none, []⟩,
  ⟨some 48, .call { callee := .builtin .len, args := #[.tmp 47], argTypes := #[48] }, none, []⟩,
  ⟨some 49, .binOp .neq 3 (.tmp 45) (.tmp 48) 3, none, []⟩] [2, 3, 4, 8, 9, 36, 40, 49]) (.seq (.cond (.tmp 49) (.seq (.reg [⟨some 50, .load 36 (.tmp 2), none, []⟩,
  ⟨none, .store 36 (.tmp 4) (.tmp 50), none, []⟩,
  ⟨some 5, .assign (.const (.int .i64 10)), none, []⟩] [4, 5, 9, 36, 40]) .ret) .skip) (.seq (.reg [⟨some 51, .load 36 (.tmp 2), none, []⟩,
  ⟨some 52, .fieldAddr 73 (.tmp 3) 3, none, []⟩,
  ⟨some 53, .load 3 (.tmp 52), none, []⟩,
  ⟨some 54, .fieldAddr 73 (.tmp 3) 4, none, []⟩,
  ⟨some 55, .load 3 (.tmp 54), none, []⟩,
  ⟨some 56, .load 52 (.tmp 8), none, []⟩,
  ⟨some 57, .call { callee := .value (.func 69), args := #[.tmp 51, .tmp 53, .tmp 55, .tmp 56], argTypes := #[36, 3, 3, 52] }, none, []⟩,
  ⟨none, .store 36 (.tmp 4) (.tmp 57), none, []⟩,
  ⟨some 5, .assign (.const (.int .i64 0)), none, []⟩] [4, 5, 9, 36, 40]) .ret))) .skip) (.seq (.reg [⟨some 58, .fieldAddr 73 (.tmp 3) 4, none, []⟩,
  ⟨some 59, .load 3 (.tmp 58), none, []⟩,
  ⟨some 60, .fieldAddr 50 (.tmp 6) 2, none, []⟩,
  ⟨some 61, .load 48 (.tmp 60), none, []⟩,
  ⟨some 62, .call { callee := .builtin .len, args := #[.tmp 61], argTypes := #[48] }, none, []⟩,
  ⟨some 63, .binOp .geq 3 (.tmp 59) (.tmp 62) 3, none, []⟩] [2, 3, 4, 6, 8, 9, 36, 40, 63]) (.seq (.cond (.tmp 63) (.seq (.reg [⟨some 64, .load 36 (.tmp 2), none, []⟩,
  ⟨none, .store 36 (.tmp 4) (.tmp 64), none, []⟩,
  ⟨some 5, .assign (.const (.int .i64 8)), none, []⟩] [4, 5, 9, 36, 40]) .ret) .skip) (.seq (.reg [⟨some 65, .fieldAddr 50 (.tmp 6) 2, none, []⟩,
  ⟨some 66, .load 48 (.tmp 65), none, []⟩,
  ⟨some 67, .fieldAddr 73 (.tmp 3) 4, none, []⟩,
  ⟨some 68, .load 3 (.tmp 67), none, []⟩,
  ⟨some 69, .indexAddr 48 (.tmp 66) (.tmp 68), none, []⟩,
  ⟨some 70, .load 52 (.tmp 69), none, []⟩,
  ⟨some 10, .alloc 52, none, []⟩,
  ⟨none, .store 52 (.tmp 10) (.tmp 70), none, []⟩] [2, 3, 4, 8, 9, 10, 36, 40]) (.seq (.reg [⟨some 71, .fieldAddr 73 (.tmp 3) 2, none, []⟩,
  ⟨some 72, .load 3 (.tmp 71), none, []⟩,
  ⟨some 73, .fieldAddr 52 (.tmp 10) 3, none, []⟩,
  ⟨some 74, .load 3 (.tmp 73), none, []⟩,
  ⟨some 75, .binOp .lss 3 (.tmp 72) (.tmp 74) 3, none, []⟩,
  ⟨some 76, .move (.tmp 75), none, []⟩,
  ⟨some 77, .fieldAddr 73 (.tmp 3) 2, (some (76, false)), []⟩,
  ⟨some 78, .load 3 (.tmp 77), (some (76, false)), []⟩,
  ⟨some 79, .fieldAddr 52 (.tmp 10) 3, (some (76, false)), []⟩,
  ⟨some 80, .load 3 (.tmp 79), (some (76, false)), []⟩,
  ⟨some 81, .binOp .add 3 (.tmp 80) (.const (.int .i64 1)) 3, (some (76, false)), []⟩,
  ⟨some 82, .binOp .gtr 3 (.tmp 78) (.tmp 81) 3, (some (76, false)), []⟩,
  ⟨some 83, .pick (.tmp 76) (.const (.bool true)) (.tmp 82), none, []⟩,
  ⟨some 84, .move (.tmp 83), none, []⟩,
  ⟨some 85, .fieldAddr 73 (.tmp 3) 2, (some (84, false)), []⟩,
  ⟨some 86, .load 3 (.tmp 85), (some (84, false)), []⟩,
  ⟨some 87, .fieldAddr 52 (.tmp 10) 3, (some (84, false)), []⟩,
  ⟨some 88, .load 3 (.tmp 87), (some (84, false)), []⟩,
  ⟨some 89, .binOp .eql 3 (.tmp 86) (.tmp 88) 3, (some (84, false)), []⟩,
  ⟨some 90, .move (.tmp 89), (some (84, false)), []⟩,
  ⟨some 91, .fieldAddr 73 (.tmp 3) 5, (some (90, true)), []⟩,
  ⟨some 92, .load 3 (.tmp 91), (some (90, true)), []⟩,
  ⟨some 93, .fieldAddr 52 (.tmp 10) 2, (some (90, true)), []⟩,
  ⟨some 94, .load 3 (.tmp 93), (some (90, true)), []⟩,
  ⟨some 95, .binOp .neq 3 (.tmp 92) (.tmp 94) 3, (some (90, true)), []⟩,
  ⟨some 96, .pick (.tmp 90) (.tmp 95) (.const (.bool false)), (some (84, false)), []⟩,
  ⟨some 97, .pick (.tmp 84) (.const (.bool true)) (.tmp 96), none, []⟩] [2, 3, 4, 8, 9, 10, 36, 40, 75, 76, 82, 83, 84, 89, 90, 95, 96, 97]) (.seq (.cond (.tmp 97) (.seq (.reg [⟨some 98, .load 36 (.tmp 2), none, []⟩,
  ⟨none, .store 36 (.tmp 4) (.tmp 98), none, []⟩,
  ⟨some 5, .assign (.const (.int .i64 11)), none, []⟩] [4, 5, 9, 36, 40]) .ret) .skip) (.seq (.reg [⟨some 99, .load 52 (.tmp 10), none, []⟩,
  ⟨some 100, .load 52 (.tmp 8), none, []⟩,
  ⟨some 101, .call { callee := .value (.func 23), args := #[.tmp 99, .tmp 100], argTypes := #[52, 52] }, none, []⟩] [2, 3, 4, 8, 9, 36, 40, 101]) (.seq (.cond (.tmp 101) (.seq (.reg [⟨some 102, .load 36 (.tmp 2), none, []⟩,
  ⟨none, .store 36 (.tmp 4) (.tmp 102), none, []⟩,
  ⟨some 5, .assign (.const (.int .i64 10)), none, []⟩] [4, 5, 9, 36, 40]) .ret) .skip) (.seq (.reg [⟨some 103, .load 36 (.tmp 2), none, []⟩,
  ⟨some 104, .fieldAddr 73 (.tmp 3) 3, none, []⟩,
  ⟨some 105, .load 3 (.tmp 104), none, []⟩,
  ⟨some 106, .fieldAddr 73 (.tmp 3) 4, none, []⟩,
  ⟨some 107, .load 3 (.tmp 106), none, []⟩,
  ⟨some 108, .load 52 (.tmp 8), none, []⟩,
  ⟨some 109, .call { callee := .value (.func 69), args := #[.tmp 103, .tmp 105, .tmp 107, .tmp 108], argTypes := #[36, 3, 3, 52] }, none, []⟩,
  ⟨none, .store 36 (.tmp 4) (.tmp 109), none, []⟩,
  ⟨some 5, .assign (.const (.int .i64 0)), none, []⟩] [4, 5, 9, 36, 40]) .ret))))))))))))))))))
theorem s48 : TextK Proofs.Tryz.prog 0 48 110 [ResultVar.cell 4 36, ResultVar.tmp 5] c48 := .mk' Proofs.Tryz.f48 _ (by kernel_rfl) rfl rfl rfl (by kernel_rfl) rfl (by kernel_rfl)
theorem samePart_ok' (a b : Part) : ACall pg 23 [encP a, encP b] (B (a.same b)) := samePart_ok a b
theorem partRec_ok (m : Image) (r : Record) (hm : m.Pre) (hp : 0 ≤ r.part) : ACall pg 48 [encM m, encR r] (.tup [encM (m.partRec r).1, I (m.partRec r).2]) := by
  refine s48.call mo (by simp) fun hxs => ?_
  clear hxs
  obtain ⟨k, hk⟩ : ∃ k : Nat, r.part = k := ⟨r.part.toNat, by omega⟩
  unfold c48
  cases ht : m.topic r.topic with
  | none =>
    repeat' first | (with_reducible first | refine fF ?_ | refine fS ?_ | refine fR ?_ | refine fQ ?_ | refine fC ?_ | refine fT ?_ | refine awRet ?_) | ((with_reducible refine awReg fun K hok hK => ?_); clear hok; (try simp (maxSteps := 10000000) (disch := first | omega | simp) [ht, zT]); (repeat' first | (with_reducible refine hK _ (by simp) ?_) | ((with_reducible refine gdT (fun h => ?_) (fun h => ?_)) <;> (simp (maxSteps := 10000000) (disch := first | omega | simp) [h, ht, zT]; (try simp at h); (try (exfalso; omega)))) | ((with_reducible refine gdF (fun h => ?_) (fun h => ?_)) <;> (simp (maxSteps := 10000000) (disch := first | omega | simp) [h, ht, zT]; (try simp at h); (try (exfalso; omega)))) | ((first | ((with_reducible refine callS' fun K2 hK2 => ?_); (try simp (maxSteps := 10000000) (disch := first | omega | simp) [ht, zT]); (refine hK2 _ _ (topic_ok m r.topic) rfl fun hk9 => ?_); clear hk9; clear hK2 K2) | ((with_reducible refine callF' fun K2 hK2 => ?_); (try simp (maxSteps := 10000000) (disch := first | omega | simp) [ht, zT]); (refine hK2 _ _ _ (topic_ok m r.topic) fun _ => ?_); clear hK2 K2)); (try simp (maxSteps := 10000000) (disch := first | omega | simp) [ht, zT]))) <;> clear hK K) | ((with_reducible refine awCond fun A B hA hB => ?_); simp (maxSteps := 10000000) (disch := first | omega | simp) [ht, zT]; (first | refine ⟨fun h => hA ?_, fun h => hB ?_⟩ | refine hA ?_ | refine hB ?_) <;> (clear hA hB A B; (try (exfalso; omega))))
    all_goals (refine aEnR (aRes [] fun K hK => ?_); simp (maxSteps := 10000000) (disch := first | omega | simp) [Image.partRec, ht]; refine hK _ ?_ (by simp); clear hK; first | done | (simp (maxSteps := 10000000) (disch := first | omega | simp) [Image.partRec, ht, *]; done) | (simp (maxSteps := 10000000) (disch := first | omega | simp) [Image.partRec, ht, *]; omega) | (simp_all [Image.partRec, ht]; done) | (simp_all [Image.partRec, ht]; omega))
  | some t =>
    have hmem : t ∈ m.topics := List.mem_of_find?_eq_some ht
    have hpl := hm.pl t hmem
    have hun : ∀ u ∈ m.topics, u.id = r.topic → u = t := fun u hu e => topic_unique hm.ti ht hu e
    by_cases hlt : k < t.parts.length
    · have hget : t.parts[k]? = some t.parts[k] := List.getElem?_eq_getElem hlt
      have hep := hm.ep t hmem t.parts[k] (List.getElem_mem hlt)
      have hle : ∀ u ∈ m.topics, u.id = r.topic → k ≤ u.parts.length := fun u hu e => by rw [hun u hu e]; omega
      repeat' first | (with_reducible first | refine fF ?_ | refine fS ?_ | refine fR ?_ | refine fQ ?_ | refine fC ?_ | refine fT ?_ | refine awRet ?_) | ((with_reducible refine awReg fun K hok hK => ?_); clear hok; (try simp (maxSteps := 10000000) (disch := first | omega | simp) [ht, hk]); (repeat' first | (with_reducible refine hK _ (by simp) ?_) | ((with_reducible refine gdT (fun h => ?_) (fun h => ?_)) <;> (simp (maxSteps := 10000000) (disch := first | omega | simp) [h, ht, hk]; (try simp at h); (try (exfalso; omega)))) | ((with_reducible refine gdF (fun h => ?_) (fun h => ?_)) <;> (simp (maxSteps := 10000000) (disch := first | omega | simp) [h, ht, hk]; (try simp at h); (try (exfalso; omega)))) | ((first | ((with_reducible refine callS' fun K2 hK2 => ?_); (try simp (maxSteps := 10000000) (disch := first | omega | simp) [ht, hk]); (first | refine hK2 _ _ (topic_ok m r.topic) rfl fun hk9 => ?_ | refine hK2 _ _ (right_ok m r.toPart) rfl fun hk9 => ?_ | refine hK2 _ _ (putPart_ok m r.topic k r.toPart hm hle) rfl fun hk9 => ?_ | refine hK2 _ _ (samePart_ok' t.parts[k] r.toPart) rfl fun hk9 => ?_); clear hk9; clear hK2 K2) | ((with_reducible refine callF' fun K2 hK2 => ?_); (try simp (maxSteps := 10000000) (disch := first | omega | simp) [ht, hk]); (first | refine hK2 _ _ _ (topic_ok m r.topic) fun _ => ?_ | refine hK2 _ _ _ (right_ok m r.toPart) fun _ => ?_ | refine hK2 _ _ _ (putPart_ok m r.topic k r.toPart hm hle) fun _ => ?_ | refine hK2 _ _ _ (samePart_ok' t.parts[k] r.toPart) fun _ => ?_); clear hK2 K2)); (try simp (maxSteps := 10000000) (disch := first | omega | simp) [ht, hk]))) <;> clear hK K) | ((with_reducible refine awCond fun A B hA hB => ?_); simp (maxSteps := 10000000) (disch := first | omega | simp) [ht, hk]; (first | refine ⟨fun h => hA ?_, fun h => hB ?_⟩ | refine hA ?_ | refine hB ?_) <;> (clear hA hB A B; (try (exfalso; omega))))
      all_goals (refine aEnR (aRes [true] fun K hK => ?_); simp (maxSteps := 10000000) (disch := first | omega | simp) [ht, hk, hget, Int.toNat_natCast, Option.getD_some]; refine hK _ ?_ (by simp); clear hK; (try simp only [Image.partRec, ht, hk, hget, Int.toNat_natCast, Option.getD_some]); ((repeat' split) <;> first | with_reducible rfl | contradiction | (exfalso; omega) | (simp [ht, hk, hget, Int.toNat_natCast, Option.getD_some]; done) | grind))
    · have hget : (t.parts.length : Int) ≤ k := by omega
      repeat' first | (with_reducible first | refine fF ?_ | refine fS ?_ | refine fR ?_ | refine fQ ?_ | refine fC ?_ | refine fT ?_ | refine awRet ?_) | ((with_reducible refine awReg fun K hok hK => ?_); clear hok; (try simp (maxSteps := 10000000) (disch := first | omega | simp) [ht, hk]); (repeat' first | (with_reducible refine hK _ (by simp) ?_) | ((with_reducible refine gdT (fun h => ?_) (fun h => ?_)) <;> (simp (maxSteps := 10000000) (disch := first | omega | simp) [h, ht, hk]; (try simp at h); (try (exfalso; omega)))) | ((with_reducible refine gdF (fun h => ?_) (fun h => ?_)) <;> (simp (maxSteps := 10000000) (disch := first | omega | simp) [h, ht, hk]; (try simp at h); (try (exfalso; omega)))) | ((first | ((with_reducible refine callS' fun K2 hK2 => ?_); (try simp (maxSteps := 10000000) (disch := first | omega | simp) [ht, hk]); (first | refine hK2 _ _ (topic_ok m r.topic) rfl fun hk9 => ?_ | refine hK2 _ _ (right_ok m r.toPart) rfl fun hk9 => ?_); clear hk9; clear hK2 K2) | ((with_reducible refine callF' fun K2 hK2 => ?_); (try simp (maxSteps := 10000000) (disch := first | omega | simp) [ht, hk]); (first | refine hK2 _ _ _ (topic_ok m r.topic) fun _ => ?_ | refine hK2 _ _ _ (right_ok m r.toPart) fun _ => ?_); clear hK2 K2)); (try simp (maxSteps := 10000000) (disch := first | omega | simp) [ht, hk]))) <;> clear hK K) | ((with_reducible refine awCond fun A B hA hB => ?_); simp (maxSteps := 10000000) (disch := first | omega | simp) [ht, hk]; (first | refine ⟨fun h => hA ?_, fun h => hB ?_⟩ | refine hA ?_ | refine hB ?_) <;> (clear hA hB A B; (try (exfalso; omega))))
      all_goals first
        | (refine aEnR (aRes [true] fun K hK => ?_); simp (maxSteps := 10000000) (disch := first | omega | simp) [ht, hk, hget, Int.toNat_natCast, Option.getD_some]; refine hK _ ?_ (by simp); clear hK; (try simp only [Image.partRec, ht, hk, hget, Int.toNat_natCast, Option.getD_some]); ((repeat' split) <;> first | with_reducible rfl | contradiction | (exfalso; omega) | (simp [ht, hk, hget, Int.toNat_natCast, Option.getD_some]; done) | grind))
        | (have hle : ∀ u ∈ m.topics, u.id = r.topic → k ≤ u.parts.length := fun u hu e => by rw [hun u hu e]; omega
           repeat' first | (with_reducible first | refine fF ?_ | refine fS ?_ | refine fR ?_ | refine fQ ?_ | refine fC ?_ | refine fT ?_ | refine awRet ?_) | ((with_reducible refine awReg fun K hok hK => ?_); clear hok; (try simp (maxSteps := 10000000) (disch := first | omega | simp) [ht, hk]); (repeat' first | (with_reducible refine hK _ (by simp) ?_) | ((with_reducible refine gdT (fun h => ?_) (fun h => ?_)) <;> (simp (maxSteps := 10000000) (disch := first | omega | simp) [h, ht, hk]; (try simp at h); (try (exfalso; omega)))) | ((with_reducible refine gdF (fun h => ?_) (fun h => ?_)) <;> (simp (maxSteps := 10000000) (disch := first | omega | simp) [h, ht, hk]; (try simp at h); (try (exfalso; omega)))) | ((first | ((with_reducible refine callS' fun K2 hK2 => ?_); (try simp (maxSteps := 10000000) (disch := first | omega | simp) [ht, hk]); (refine hK2 _ _ (putPart_ok m r.topic k r.toPart hm hle) rfl fun hk9 => ?_); clear hk9; clear hK2 K2) | ((with_reducible refine callF' fun K2 hK2 => ?_); (try simp (maxSteps := 10000000) (disch := first | omega | simp) [ht, hk]); (refine hK2 _ _ _ (putPart_ok m r.topic k r.toPart hm hle) fun _ => ?_); clear hK2 K2)); (try simp (maxSteps := 10000000) (disch := first | omega | simp) [ht, hk]))) <;> clear hK K) | ((with_reducible refine awCond fun A B hA hB => ?_); simp (maxSteps := 10000000) (disch := first | omega | simp) [ht, hk]; (first | refine ⟨fun h => hA ?_, fun h => hB ?_⟩ | refine hA ?_ | refine hB ?_) <;> (clear hA hB A B; (try (exfalso; omega))))
           (refine aEnR (aRes [true] fun K hK => ?_); simp (maxSteps := 10000000) (disch := first | omega | simp) [ht, hk, hget, Int.toNat_natCast, Option.getD_some]; refine hK _ ?_ (by simp); clear hK; (try simp only [Image.partRec, ht, hk, hget, Int.toNat_natCast, Option.getD_some]); ((repeat' split) <;> first | with_reducible rfl | contradiction | (exfalso; omega) | (simp [ht, hk, hget, Int.toNat_natCast, Option.getD_some]; done) | grind)))
end
end Go.Am
end
section
set_option maxRecDepth 100000
set_option maxHeartbeats 0
namespace Go.Am
open Go
noncomputable section
def c28 : SC := (.seq (.reg [⟨some 2, .box 36 (.tmp 0), none, []⟩,
  ⟨some 3, .box 73 (.tmp 1), none, []⟩,
  ⟨some 4, .alloc 36, none, []⟩,
  ⟨some 5, .assign (.const (.int .i64 0)), none, []⟩] [2, 3, 4, 6, 13, 14, 21, 23, 31, 33, 39, 41, 46, 48, 54, 56, 61, 63, 68, 70]) (.seq (.reg [⟨some 7, .load 73 (.tmp 3), none, []⟩,
  ⟨some 8, .call { callee := .value (.func 45), args := #[.tmp 7], argTypes := #[73] }, none, []⟩,
  ⟨some 6, .alloc 93, none, []⟩,
  ⟨none, .store 93 (.tmp 6) (.tmp 8), none, []⟩] [2, 3, 4, 6, 13, 14, 21, 23, 31, 33, 39, 41, 46, 48, 54, 56, 61, 63, 68, 70]) (.seq (.reg [⟨some 9, .fieldAddr 93 (.tmp 6) 2, none, []⟩,
  ⟨some 10, .load 42 (.tmp 9), none, []⟩,
  ⟨some 11, .binOp .neq 42 (.tmp 10) (.const (.int .i64 0)) 42, none, []⟩] [2, 3, 4, 6, 11, 13, 14, 21, 23, 31, 33, 39, 41, 46, 48, 54, 56, 61, 63, 68, 70]) (.seq (.cond (.tmp 11) (.seq (.reg [⟨some 12, .load 36 (.tmp 2), none, [13, 14]⟩,
  ⟨some 13, .fieldAddr 93 (.tmp 6) 2, none, [12, 4]⟩,
  ⟨some 14, .load 42 (.tmp 13), none, [12, 4]⟩,
  ⟨none, .store 36 (.tmp 4) (.tmp 12), none, [13, 14]⟩,
  ⟨some 5, .assign (.tmp 14), none, []⟩] [4, 5, 6, 13, 14, 21, 23, 31, 33, 39, 41, 46, 48, 54, 56, 61, 63, 68, 70]) .ret) .skip) (.seq (.reg [⟨some 15, .fieldAddr 73 (.tmp 3) 0, none, []⟩,
  ⟨some 16, .load 3 (.tmp 15), none, []⟩] [2, 3, 4, 6, 13, 14, 15, 16, 21, 23, 31, 33, 39, 41, 46, 48, 54, 56, 61, 63, 68, 70]) (.seq (.block 0 (.seq (.reg [⟨some 18, .binOp .eql 3 (.tmp 16) (.const (.int .i64 2)) 3, none, []⟩,
  ⟨some 17, .assign (.tmp 18), none, []⟩] [2, 3, 4, 6, 13, 14, 15, 16, 17, 18, 21, 23, 31, 33, 39, 41, 46, 48, 54, 56, 61, 63, 68, 70]) (.seq (.cond (.tmp 17) (.seq (.reg [⟨some 19, .load 36 (.tmp 2), none, []⟩,
  ⟨some 20, .load 73 (.tmp 3), none, []⟩,
  ⟨some 21, .call { callee := .value (.func 46), args := #[.tmp 19, .tmp 20], argTypes := #[36, 73] }, none, []⟩,
  ⟨some 22, .extract (.tmp 21) 0, none, []⟩,
  ⟨some 23, .extract (.tmp 21) 1, none, []⟩,
  ⟨none, .store 36 (.tmp 4) (.tmp 22), none, []⟩,
  ⟨some 5, .assign (.tmp 23), none, []⟩] [4, 5, 6, 13, 14, 21, 23, 31, 33, 39, 41, 46, 48, 54, 56, 61, 63, 68, 70]) .ret) (.seq (.reg [⟨some 25, .binOp .eql 3 (.tmp 16) (.const (.int .i64 3)) 3, none, []⟩,
  ⟨some 24, .assign (.tmp 25), none, []⟩] [2, 3, 4, 6, 13, 14, 15, 16, 21, 23, 24, 25, 26, 27, 28, 31, 33, 39, 41, 46, 48, 54, 56, 61, 63, 68, 70]) (.seq (.cond (.tmp 24) .skip (.seq (.reg [⟨some 26, .binOp .eql 3 (.tmp 16) (.const (.int .i64 4)) 3, none, []⟩,
  ⟨some 24, .assign (.tmp 26), none, []⟩] [2, 3, 4, 6, 13, 14, 15, 16, 21, 23, 24, 25, 26, 27, 28, 31, 33, 39, 41, 46, 48, 54, 56, 61, 63, 68, 70]) (.seq (.cond (.tmp 24) .skip (.seq (.reg [⟨some 27, .binOp .eql 3 (.tmp 16) (.const (.int .i64 5)) 3, none, []⟩,
  ⟨some 24, .assign (.tmp 27), none, []⟩] [2, 3, 4, 6, 13, 14, 15, 16, 21, 23, 24, 25, 26, 27, 28, 31, 33, 39, 41, 46, 48, 54, 56, 61, 63, 68, 70]) (.seq (.cond (.tmp 24) .skip (.seq (.reg [⟨some 28, .binOp .eql 3 (.tmp 16) (.const (.int .i64 6)) 3, none, []⟩,
  ⟨some 24, .assign (.tmp 28), none, []⟩] [2, 3, 4, 6, 13, 14, 15, 16, 21, 23, 24, 25, 26, 27, 28, 31, 33, 39, 41, 46, 48, 54, 56, 61, 63, 68, 70]) .skip)) .skip))) .skip))) (.seq (.cond (.tmp 24) (.seq (.reg [⟨some 29, .load 36 (.tmp 2), none, []⟩,
  ⟨some 30, .load 73 (.tmp 3), none, []⟩,
  ⟨some 31, .call { callee := .value (.func 47), args := #[.tmp 29, .tmp 30], argTypes := #[36, 73] }, none, []⟩,
  ⟨some 32, .extract (.tmp 31) 0, none, []⟩,
  ⟨some 33, .extract (.tmp 31) 1, none, []⟩,
  ⟨none, .store 36 (.tmp 4) (.tmp 32), none, []⟩,
  ⟨some 5, .assign (.tmp 33), none, []⟩] [4, 5, 6, 13, 14, 21, 23, 31, 33, 39, 41, 46, 48, 54, 56, 61, 63, 68, 70]) .ret) (.seq (.reg [⟨some 35, .binOp .eql 3 (.tmp 16) (.const (.int .i64 8)) 3, none, []⟩,
  ⟨some 34, .assign (.tmp 35), none, []⟩] [2, 3, 4, 6, 13, 14, 15, 16, 21, 23, 31, 33, 34, 35, 36, 39, 41, 46, 48, 54, 56, 61, 63, 68, 70]) (.seq (.cond (.tmp 34) .skip (.seq (.reg [⟨some 36, .binOp .eql 3 (.tmp 16) (.const (.int .i64 9)) 3, none, []⟩,
  ⟨some 34, .assign (.tmp 36), none, []⟩] [2, 3, 4, 6, 13, 14, 15, 16, 21, 23, 31, 33, 34, 35, 36, 39, 41, 46, 48, 54, 56, 61, 63, 68, 70]) .skip)) (.seq (.cond (.tmp 34) (.seq (.reg [⟨some 37, .load 36 (.tmp 2), none, []⟩,
  ⟨some 38, .load 73 (.tmp 3), none, []⟩,
  ⟨some 39, .call { callee := .value (.func 48), args := #[.tmp 37, .tmp 38], argTypes := #[36, 73] }, none, []⟩,
  ⟨some 40, .extract (.tmp 39) 0, none, []⟩,
  ⟨some 41, .extract (.tmp 39) 1, none, []⟩,
  ⟨none, .store 36 (.tmp 4) (.tmp 40), none, []⟩,
  ⟨some 5, .assign (.tmp 41), none, []⟩] [4, 5, 6, 13, 14, 21, 23, 31, 33, 39, 41, 46, 48, 54, 56, 61, 63, 68, 70]) .ret) (.seq (.reg [⟨some 43, .binOp .eql 3 (.tmp 16) (.const (.int .i64 7)) 3, none, []⟩,
  ⟨some 42, .assign (.tmp 43), none, []⟩] [2, 3, 4, 6, 13, 14, 15, 16, 21, 23, 31, 33, 39, 41, 42, 43, 46, 48, 54, 56, 61, 63, 68, 70]) (.seq (.cond (.tmp 42) (.seq (.reg [⟨some 44, .load 36 (.tmp 2), none, []⟩,
  ⟨some 45, .load 73 (.tmp 3), none, []⟩,
  ⟨some 46, .call { callee := .value (.func 49), args := #[.tmp 44, .tmp 45], argTypes := #[36, 73] }, none, []⟩,
  ⟨some 47, .extract (.tmp 46) 0, none, []⟩,
  ⟨some 48, .extract (.tmp 46) 1, none, []⟩,
  ⟨none, .store 36 (.tmp 4) (.tmp 47), none, []⟩,
  ⟨some 5, .assign (.tmp 48), none, []⟩] [4, 5, 6, 13, 14, 21, 23, 31, 33, 39, 41, 46, 48, 54, 56, 61, 63, 68, 70]) .ret) (.seq (.reg [⟨some 50, .binOp .eql 3 (.tmp 16) (.const (.int .i64 11)) 3, none, []⟩,
  ⟨some 49, .assign (.tmp 50), none, []⟩] [2, 3, 4, 6, 13, 14, 15, 16, 21, 23, 31, 33, 39, 41, 46, 48, 49, 50, 54, 56, 61, 63, 68, 70]) (.seq (.cond (.tmp 49) (.seq (.reg [⟨some 51, .load 36 (.tmp 2), none, []⟩,
  ⟨some 52, .fieldAddr 73 (.tmp 3) 3, none, []⟩,
  ⟨some 53, .load 3 (.tmp 52), none, []⟩,
  ⟨some 54, .call { callee := .value (.func 50), args := #[.tmp 51, .tmp 53], argTypes := #[36, 3] }, none, []⟩,
  ⟨some 55, .extract (.tmp 54) 0, none, []⟩,
  ⟨some 56, .extract (.tmp 54) 1, none, []⟩,
  ⟨none, .store 36 (.tmp 4) (.tmp 55), none, []⟩,
  ⟨some 5, .assign (.tmp 56), none, []⟩] [4, 5, 6, 13, 14, 21, 23, 31, 33, 39, 41, 46, 48, 54, 56, 61, 63, 68, 70]) .ret) (.seq (.reg [⟨some 58, .binOp .eql 3 (.tmp 16) (.const (.int .i64 10)) 3, none, []⟩,
  ⟨some 57, .assign (.tmp 58), none, []⟩] [2, 3, 4, 6, 13, 14, 15, 16, 21, 23, 31, 33, 39, 41, 46, 48, 54, 56, 57, 58, 61, 63, 68, 70]) (.seq (.cond (.tmp 57) (.seq (.reg [⟨some 59, .load 36 (.tmp 2), none, []⟩,
  ⟨some 60, .load 73 (.tmp 3), none, []⟩,
  ⟨some 61, .call { callee := .value (.func 51), args := #[.tmp 59, .tmp 60], argTypes := #[36, 73] }, none, []⟩,
  ⟨some 62, .extract (.tmp 61) 0, none, []⟩,
  ⟨some 63, .extract (.tmp 61) 1, none, []⟩,
  ⟨none, .store 36 (.tmp 4) (.tmp 62), none, []⟩,
  ⟨some 5, .assign (.tmp 63), none, []⟩] [4, 5, 6, 13, 14, 21, 23, 31, 33, 39, 41, 46, 48, 54, 56, 61, 63, 68, 70]) .ret) (.seq (.reg [⟨some 65, .binOp .eql 3 (.tmp 16) (.const (.int .i64 12)) 3, none, []⟩,
  ⟨some 64, .assign (.tmp 65), none, []⟩] [2, 3, 4, 6, 13, 14, 21, 23, 31, 33, 39, 41, 46, 48, 54, 56, 61, 63, 64, 65, 68, 70]) (.seq (.cond (.tmp 64) (.seq (.reg [⟨some 66, .load 36 (.tmp 2), none, []⟩,
  ⟨some 67, .load 73 (.tmp 3), none, []⟩,
  ⟨some 68, .call { callee := .value (.func 52), args := #[.tmp 66, .tmp 67], argTypes := #[36, 73] }, none, []⟩,
  ⟨some 69, .extract (.tmp 68) 0, none, []⟩,
  ⟨some 70, .extract (.tmp 68) 1, none, []⟩,
  ⟨none, .store 36 (.tmp 4) (.tmp 69), none, []⟩,
  ⟨some 5, .assign (.tmp 70), none, []⟩] [4, 5, 6, 13, 14, 21, 23, 31, 33, 39, 41, 46, 48, 54, 56, 61, 63, 68, 70]) .ret) .skip) .skip))) .skip))) .skip))) .skip))) .skip)))) .skip)))) .skip))) (.seq (.reg [⟨some 71, .load 36 (.tmp 2), none, []⟩,
  ⟨none, .store 36 (.tmp 4) (.tmp 71), none, []⟩,
  ⟨some 5, .assign (.const (.int .i64 0)), none, []⟩] [4, 5, 6, 13, 14, 21, 23, 31, 33, 39, 41, 46, 48, 54, 56, 61, 63, 68, 70]) .ret)))))))
theorem s28 : TextK Proofs.Tryz.prog 0 28 72 [ResultVar.cell 4 36, ResultVar.tmp 5] c28 := .mk' Proofs.Tryz.f28 _ (by kernel_rfl) rfl rfl rfl (by kernel_rfl) rfl (by kernel_rfl)
theorem apply_ok (m : Image) (r : Record) (hm : m.Pre) : ACall pg 28 [encM m, encR r] (.tup [encM (m.apply r).1, I (m.apply r).2]) := by
  refine s28.call mo (by simp) fun hxs => ?_
  clear hxs
  unfold c28
  by_cases hc : (checkW r).code = 0
  · by_cases hk : r.kind = 8 ∨ r.kind = 9
    · have hp := (check_part hc hk).1
      repeat' first | (with_reducible first | refine thN ?_ | refine thR ?_ | refine inN ?_ | refine inR ?_ | refine fF ?_ | refine fS ?_ | refine fR ?_ | refine fQ ?_ | refine fC ?_ | refine fT ?_ | refine awBlock ?_ | refine awRet ?_ | refine awSkip ?_) | ((with_reducible refine awReg fun K hok hK => ?_); clear hok; (try simp (maxSteps := 10000000) (disch := first | omega | simp) [hc]); (repeat' first | (with_reducible refine hK _ (by simp) ?_) | ((first | ((with_reducible refine callS' fun K2 hK2 => ?_); (try simp (maxSteps := 10000000) (disch := first | omega | simp) [hc]); (first | refine hK2 _ _ (ref05_Check_ok r) rfl fun hk9 => ?_ | refine hK2 _ _ (partRec_ok m r hm hp) rfl fun hk9 => ?_); clear hk9; clear hK2 K2) | ((with_reducible refine callF' fun K2 hK2 => ?_); (try simp (maxSteps := 10000000) (disch := first | omega | simp) [hc]); (first | refine hK2 _ _ _ (ref05_Check_ok r) fun _ => ?_ | refine hK2 _ _ _ (partRec_ok m r hm hp) fun _ => ?_); clear hK2 K2) | ((with_reducible refine sideSt' fun K2 hK2 => ?_); (try simp (maxSteps := 10000000) (disch := first | omega | simp) [hc]); refine hK2 _ ?_; clear hK2 K2) | ((with_reducible refine sideQ' ?_ ?_ fun K2 hK2 => ?_); exact rfl; exact rfl; (try simp (maxSteps := 10000000) (disch := first | omega | simp) [hc]); with_reducible refine hK2 _ _ ?_; clear hK2 K2)); (try simp (maxSteps := 10000000) (disch := first | omega | simp) [hc]))) <;> clear hK K) | ((with_reducible refine awCond fun A B hA hB => ?_); simp (maxSteps := 10000000) (disch := first | omega | simp) [hc]; (first | refine ⟨fun h => hA ?_, fun h => hB ?_⟩ | refine hA ?_ | refine hB ?_) <;> (clear hA hB A B; (try (exfalso; omega))))
      all_goals (refine aEnR (aRes [true] fun K hK => ?_); simp (maxSteps := 10000000) (disch := first | omega | simp) [hc]; refine hK _ ?_ (by simp); clear hK; (try unfold Image.apply); ((repeat' split) <;> first | rfl | (exfalso; omega) | (exfalso; simp only [*, Bool.false_eq_true, Bool.true_eq_false, not_true, not_false_iff] at *; done) | (simp_all [hc]; done) | (exfalso; simp_all [hc]; omega)))
    · repeat' first | (with_reducible first | refine thN ?_ | refine thR ?_ | refine inN ?_ | refine inR ?_ | refine fF ?_ | refine fS ?_ | refine fR ?_ | refine fQ ?_ | refine fC ?_ | refine fT ?_ | refine awBlock ?_ | refine awRet ?_ | refine awSkip ?_) | ((with_reducible refine awReg fun K hok hK => ?_); clear hok; (try simp (maxSteps := 10000000) (disch := first | omega | simp) [hc]); (repeat' first | (with_reducible refine hK _ (by simp) ?_) | ((first | ((with_reducible refine callS' fun K2 hK2 => ?_); (try simp (maxSteps := 10000000) (disch := first | omega | simp) [hc]); (first | refine hK2 _ _ (ref05_Check_ok r) rfl fun hk9 => ?_ | refine hK2 _ _ (register_ok m r hm.bl) rfl fun hk9 => ?_ | refine hK2 _ _ (brokerRec_ok m r hm.bl) rfl fun hk9 => ?_ | refine hK2 _ _ (addTopic_ok m r) rfl fun hk9 => ?_ | refine hK2 _ _ (dropRec_ok m r.topic hm) rfl fun hk9 => ?_ | refine hK2 _ _ (configRec_ok m r hm) rfl fun hk9 => ?_ | refine hK2 _ _ (doneRec_ok m r hm) rfl fun hk9 => ?_); clear hk9; clear hK2 K2) | ((with_reducible refine callF' fun K2 hK2 => ?_); (try simp (maxSteps := 10000000) (disch := first | omega | simp) [hc]); (first | refine hK2 _ _ _ (ref05_Check_ok r) fun _ => ?_ | refine hK2 _ _ _ (register_ok m r hm.bl) fun _ => ?_ | refine hK2 _ _ _ (brokerRec_ok m r hm.bl) fun _ => ?_ | refine hK2 _ _ _ (addTopic_ok m r) fun _ => ?_ | refine hK2 _ _ _ (dropRec_ok m r.topic hm) fun _ => ?_ | refine hK2 _ _ _ (configRec_ok m r hm) fun _ => ?_ | refine hK2 _ _ _ (doneRec_ok m r hm) fun _ => ?_); clear hK2 K2) | ((with_reducible refine sideSt' fun K2 hK2 => ?_); (try simp (maxSteps := 10000000) (disch := first | omega | simp) [hc]); refine hK2 _ ?_; clear hK2 K2) | ((with_reducible refine sideQ' ?_ ?_ fun K2 hK2 => ?_); exact rfl; exact rfl; (try simp (maxSteps := 10000000) (disch := first | omega | simp) [hc]); with_reducible refine hK2 _ _ ?_; clear hK2 K2)); (try simp (maxSteps := 10000000) (disch := first | omega | simp) [hc]))) <;> clear hK K) | ((with_reducible refine awCond fun A B hA hB => ?_); simp (maxSteps := 10000000) (disch := first | omega | simp) [hc]; (first | refine ⟨fun h => hA ?_, fun h => hB ?_⟩ | refine hA ?_ | refine hB ?_) <;> (clear hA hB A B; (try (exfalso; omega))))
      all_goals (refine aEnR (aRes [true] fun K hK => ?_); simp (maxSteps := 10000000) (disch := first | omega | simp) [hc]; refine hK _ ?_ (by simp); clear hK; (try unfold Image.apply); ((repeat' split) <;> first | rfl | (exfalso; omega) | (exfalso; simp only [*, Bool.false_eq_true, Bool.true_eq_false, not_true, not_false_iff] at *; done) | (simp_all [hc]; done) | (exfalso; simp_all [hc]; omega)))
  · repeat' first | (with_reducible first | refine thN ?_ | refine thR ?_ | refine inN ?_ | refine inR ?_ | refine fF ?_ | refine fS ?_ | refine fR ?_ | refine fQ ?_ | refine fC ?_ | refine fT ?_ | refine awBlock ?_ | refine awRet ?_ | refine awSkip ?_) | ((with_reducible refine awReg fun K hok hK => ?_); clear hok; (try simp (maxSteps := 10000000) (disch := first | omega | simp) [hc]); (repeat' first | (with_reducible refine hK _ (by simp) ?_) | ((first | ((with_reducible refine callS' fun K2 hK2 => ?_); (try simp (maxSteps := 10000000) (disch := first | omega | simp) [hc]); (refine hK2 _ _ (ref05_Check_ok r) rfl fun hk9 => ?_); clear hk9; clear hK2 K2) | ((with_reducible refine callF' fun K2 hK2 => ?_); (try simp (maxSteps := 10000000) (disch := first | omega | simp) [hc]); (refine hK2 _ _ _ (ref05_Check_ok r) fun _ => ?_); clear hK2 K2) | ((with_reducible refine sideSt' fun K2 hK2 => ?_); (try simp (maxSteps := 10000000) (disch := first | omega | simp) [hc]); refine hK2 _ ?_; clear hK2 K2) | ((with_reducible refine sideQ' ?_ ?_ fun K2 hK2 => ?_); exact rfl; exact rfl; (try simp (maxSteps := 10000000) (disch := first | omega | simp) [hc]); with_reducible refine hK2 _ _ ?_; clear hK2 K2)); (try simp (maxSteps := 10000000) (disch := first | omega | simp) [hc]))) <;> clear hK K) | ((with_reducible refine awCond fun A B hA hB => ?_); simp (maxSteps := 10000000) (disch := first | omega | simp) [hc]; (first | refine ⟨fun h => hA ?_, fun h => hB ?_⟩ | refine hA ?_ | refine hB ?_) <;> (clear hA hB A B; (try (exfalso; omega))))
    all_goals (refine aEnR (aRes [true] fun K hK => ?_); simp (maxSteps := 10000000) (disch := first | omega | simp) [hc]; refine hK _ ?_ (by simp); clear hK; (try unfold Image.apply); ((repeat' split) <;> first | rfl | (exfalso; omega) | (exfalso; simp only [*, Bool.false_eq_true, Bool.true_eq_false, not_true, not_false_iff] at *; done) | (simp_all [hc]; done) | (exfalso; simp_all [hc]; omega)))
end
end Go.Am
end
section
set_option maxRecDepth 100000
set_option maxHeartbeats 0
namespace Go.Am
open Go
noncomputable section
def c11 : SC := (.seq (.reg [⟨some 2, .box 36 (.tmp 0), none, []⟩,
  ⟨some 4, .alloc 36, none, []⟩,
  ⟨some 5, .assign (.const (.int .i64 0)), none, []⟩] [1, 2, 4, 9, 17, 23, 25, 29]) (.seq (.reg [⟨some 10, .load 36 (.tmp 2), none, []⟩,
  ⟨some 6, .alloc 36, none, []⟩,
  ⟨none, .store 36 (.tmp 6) (.tmp 10), none, []⟩] [1, 2, 4, 6, 9, 17, 23, 25, 29]) (.seq (.reg [⟨some 7, .assign (.const (.int .i64 0)), none, []⟩] [1, 2, 4, 6, 7, 9, 16, 17, 23, 25, 29]) (.seq (.block 0 (.seq (.loop (.seq (.reg [⟨some 11, .move (.tmp 7), none, []⟩,
  ⟨some 12, .move (.tmp 1), none, []⟩,
  ⟨some 13, .call { callee := .builtin .len, args := #[.tmp 12], argTypes := #[22] }, none, []⟩,
  ⟨some 14, .binOp .lss 3 (.tmp 11) (.tmp 13) 3, none, []⟩] [1, 2, 4, 6, 7, 9, 14, 16, 17, 23, 25, 29]) (.seq (.cond (.tmp 14) .skip (.exit 0)) (.seq (.block 1 (.seq (.reg [⟨some 18, .load 36 (.tmp 6), none, [19, 20, 21, 22, 8]⟩,
  ⟨some 19, .move (.tmp 1), none, [18, 20, 8]⟩,
  ⟨some 20, .move (.tmp 7), none, [18, 19, 8]⟩,
  ⟨some 21, .indexAddr 22 (.tmp 19) (.tmp 20), none, [18, 8]⟩,
  ⟨some 22, .load 73 (.tmp 21), none, [18, 8]⟩,
  ⟨some 23, .call { callee := .value (.func 28), args := #[.tmp 18, .tmp 22], argTypes := #[36, 73] }, none, [8]⟩,
  ⟨some 17, .move (.tmp 23), none, [8]⟩,
  ⟨some 24, .extract (.tmp 17) 0, none, [25, 8]⟩,
  ⟨some 25, .extract (.tmp 17) 1, none, [24, 8, 8]⟩,
  ⟨some 8, .alloc 36, none, [18, 19, 20, 21, 22, 23, 17, 24, 25]⟩,
  ⟨none, .store 36 (.tmp 8) (.tmp 24), none, [25]⟩,
  ⟨some 9, .assign (.tmp 25), none, []⟩] [1, 2, 4, 6, 7, 8, 9, 16, 17, 23, 25, 29]) (.seq (.reg [⟨some 26, .move (.tmp 9), none, []⟩,
  ⟨some 27, .binOp .neq 42 (.tmp 26) (.const (.int .i64 0)) 42, none, []⟩] [1, 2, 4, 6, 7, 8, 9, 16, 17, 23, 25, 27, 29]) (.seq (.cond (.tmp 27) (.seq (.reg [⟨some 28, .load 36 (.tmp 2), none, []⟩,
  ⟨some 29, .move (.tmp 9), none, []⟩,
  ⟨none, .store 36 (.tmp 4) (.tmp 28), none, []⟩,
  ⟨some 5, .assign (.tmp 29), none, []⟩] [4, 5, 9, 17, 23, 25, 29]) .ret) .skip) (.seq (.reg [⟨some 30, .load 36 (.tmp 8), none, []⟩,
  ⟨none, .store 36 (.tmp 6) (.tmp 30), none, []⟩] [1, 2, 4, 6, 7, 9, 16, 17, 23, 25, 29]) .skip))))) (.seq (.reg [⟨some 15, .move (.tmp 7), none, []⟩,
  ⟨some 16, .binOp .add 3 (.tmp 15) (.const (.int .i64 1)) 3, none, []⟩,
  ⟨some 7, .assign (.tmp 16), none, []⟩] [1, 2, 4, 6, 7, 9, 16, 17, 23, 25, 29]) .skip))))) .skip)) (.seq (.reg [⟨some 31, .load 36 (.tmp 6), none, []⟩,
  ⟨none, .store 36 (.tmp 4) (.tmp 31), none, []⟩,
  ⟨some 5, .assign (.const (.int .i64 0)), none, []⟩] [4, 5, 9, 17, 23, 25, 29]) .ret)))))
theorem s11 : TextK Proofs.Tryz.prog 0 11 32 [ResultVar.cell 4 36, ResultVar.tmp 5] c11 := .mk' Proofs.Tryz.f11 _ (by kernel_rfl) rfl rfl rfl (by kernel_rfl) rfl (by kernel_rfl)
def c9 : SC := (.seq (.reg [⟨some 2, .alloc 36, none, []⟩] [0, 2]) (.seq (.reg [⟨some 7, .build 36 #[], none, []⟩,
  ⟨some 3, .alloc 36, none, []⟩,
  ⟨none, .store 36 (.tmp 3) (.tmp 7), none, []⟩] [0, 2, 3]) (.seq (.reg [⟨some 4, .assign (.const (.int .i64 0)), none, []⟩] [0, 2, 3, 4, 13]) (.seq (.block 0 (.seq (.loop (.seq (.reg [⟨some 8, .move (.tmp 4), none, []⟩,
  ⟨some 9, .move (.tmp 0), none, []⟩,
  ⟨some 10, .call { callee := .builtin .len, args := #[.tmp 9], argTypes := #[22] }, none, []⟩,
  ⟨some 11, .binOp .lss 3 (.tmp 8) (.tmp 10) 3, none, []⟩] [0, 2, 3, 4, 11, 13]) (.seq (.cond (.tmp 11) .skip (.exit 0)) (.seq (.block 1 (.seq (.reg [⟨some 15, .load 36 (.tmp 3), none, [16, 17, 18, 19, 5]⟩,
  ⟨some 16, .move (.tmp 0), none, [15, 17, 5]⟩,
  ⟨some 17, .move (.tmp 4), none, [15, 16, 5]⟩,
  ⟨some 18, .indexAddr 22 (.tmp 16) (.tmp 17), none, [15, 5]⟩,
  ⟨some 19, .load 73 (.tmp 18), none, [15, 5]⟩,
  ⟨some 20, .call { callee := .value (.func 28), args := #[.tmp 15, .tmp 19], argTypes := #[36, 73] }, none, [5]⟩,
  ⟨some 14, .move (.tmp 20), none, [5]⟩,
  ⟨some 21, .extract (.tmp 14) 0, none, [22, 5]⟩,
  ⟨some 22, .extract (.tmp 14) 1, none, [21, 5, 5]⟩,
  ⟨some 5, .alloc 36, none, [15, 16, 17, 18, 19, 20, 14, 21, 22]⟩,
  ⟨none, .store 36 (.tmp 5) (.tmp 21), none, [22]⟩,
  ⟨some 6, .assign (.tmp 22), none, []⟩] [0, 2, 3, 4, 5, 13]) (.seq (.reg [⟨some 23, .load 36 (.tmp 5), none, []⟩,
  ⟨none, .store 36 (.tmp 3) (.tmp 23), none, []⟩] [0, 2, 3, 4, 13]) .skip))) (.seq (.reg [⟨some 12, .move (.tmp 4), none, []⟩,
  ⟨some 13, .binOp .add 3 (.tmp 12) (.const (.int .i64 1)) 3, none, []⟩,
  ⟨some 4, .assign (.tmp 13), none, []⟩] [0, 2, 3, 4, 13]) .skip))))) .skip)) (.seq (.reg [⟨some 24, .load 36 (.tmp 3), none, []⟩,
  ⟨none, .store 36 (.tmp 2) (.tmp 24), none, []⟩] [2]) .ret)))))
theorem s9 : TextK Proofs.Tryz.prog 0 9 25 [ResultVar.cell 2 36] c9 := .mk' Proofs.Tryz.f9 _ (by kernel_rfl) rfl rfl rfl (by kernel_rfl) rfl (by kernel_rfl)
theorem Wk.frzImg {l : List (Nat × E)} {r : Nat} {a b c d : List V} {x : V} (h : Am.ofA l r = .p (.own [.uq a, .uq b, .uq c, .uq d, x])) :
    Wk (Am.ofA l) (Am.ofA ((r, .p (.own [.sl (pvL a), .sl (pvL b), .sl (pvL c), .sl (pvL d), x])) :: blurK r [(0, 3)] (blurK r [(0, 2)] (blurK r [(0, 1)] (blurK r [(0, 0)] l))))) := by
  have h1 := Wk.frz1 h (j := 0) rfl (by simp)
  have h2 := Wk.frz1 (r := r) (j := 1) (cs := [.sl (pvL a), .uq b, .uq c, .uq d, x]) (z := .uq b) (l := (r, .p (.own [.sl (pvL a), .uq b, .uq c, .uq d, x])) :: blurK r [(0, 0)] l) (by simp) rfl (by simp)
  have h3 := Wk.frz1 (r := r) (j := 2) (cs := [.sl (pvL a), .sl (pvL b), .uq c, .uq d, x]) (z := .uq c) (l := (r, .p (.own [.sl (pvL a), .sl (pvL b), .uq c, .uq d, x])) :: blurK r [(0, 1)] (blurK r [(0, 0)] l)) (by simp) rfl (by simp)
  have h4 := Wk.frz1 (r := r) (j := 3) (cs := [.sl (pvL a), .sl (pvL b), .sl (pvL c), .uq d, x]) (z := .uq d) (l := (r, .p (.own [.sl (pvL a), .sl (pvL b), .sl (pvL c), .uq d, x])) :: blurK r [(0, 2)] (blurK r [(0, 1)] (blurK r [(0, 0)] l))) (by simp) rfl (by simp)
  simp [pv] at h1 h2 h3 h4
  exact h1.trans (h2.trans (h3.trans h4))
theorem all_ok (m : Image) (l : List Record) (n : Nat) (hm : m.Inv n) (hn : n + l.length ≤ 1000) : ACall pg 11 [encM m, .sl (l.map encR)] (.tup [encM (m.all l).1, I (m.all l).2]) := by
  refine s11.call mo (by simp) fun hxs => ?_
  clear hxs
  unfold c11
  repeat' first | (with_reducible first | refine thN ?_ | refine thR ?_ | refine thE ?_ | refine inN ?_ | refine inR ?_ | refine inH ?_ | refine fS ?_ | refine fR ?_ | refine fQ ?_ | refine fE ?_ | refine fT ?_ | refine awBlock ?_ | refine awExit ?_ | refine awRet ?_ | refine awSkip ?_) | ((with_reducible refine awReg fun K hok hK => ?_); clear hok; (try simp (maxSteps := 10000000) (disch := first | omega | simp) []); (repeat' first | (with_reducible refine hK _ (by simp) ?_) | ((first | ((with_reducible refine sideSt' fun K2 hK2 => ?_); (try simp (maxSteps := 10000000) (disch := first | omega | simp) []); refine hK2 _ ?_; clear hK2 K2) | ((with_reducible refine sideQ' ?_ ?_ fun K2 hK2 => ?_); exact rfl; exact rfl; (try simp (maxSteps := 10000000) (disch := first | omega | simp) []); with_reducible refine hK2 _ _ ?_; clear hK2 K2) | ((with_reducible refine side' ?_ fun K2 hK2 => ?_); exact rfl; (try simp (maxSteps := 10000000) (disch := first | omega | simp) []); refine hK2 _ _ (by simp) ?_; clear hK2 K2)); (try simp (maxSteps := 10000000) (disch := first | omega | simp) []))) <;> clear hK K) | ((with_reducible refine awCond fun A B hA hB => ?_); simp (maxSteps := 10000000) (disch := first | omega | simp) []; (first | refine ⟨fun h => hA ?_, fun h => hB ?_⟩ | refine hA ?_ | refine hB ?_) <;> (clear hA hB A B; (try (exfalso; omega))))
  refine awFor l.length (fun i (s : Image) => m.allFrom s (l.drop i) = m.all l ∧ s.Inv (n + i)) (fun i s => [(7, .p (I i)), (6, .p (.own (encM s).cells)), (4, .p (.own [.uq [], .uq [], .uq [], .uq [], I 0])), (2, .p (.own (encM m).cells)), (1, .p (.sl (l.map encR)))]) m (Wk.ofA (by simp)) ⟨rfl, hm⟩ fun i s hi hs => ?_
  obtain ⟨hs, hsi⟩ := hs
  have hpre : i < l.length → s.Pre := fun h => hsi.pre (by omega)
  by_cases hlt : i < l.length
  · have hpr := hpre hlt
    rw [drop_cons hlt] at hs
    simp only [Image.allFrom] at hs
    repeat' first | (with_reducible first | refine thN ?_ | refine thR ?_ | refine thE ?_ | refine inN ?_ | refine inR ?_ | refine inH ?_ | refine fS ?_ | refine fR ?_ | refine fQ ?_ | refine fE ?_ | refine fT ?_ | refine awBlock ?_ | refine awExit ?_ | refine awRet ?_ | refine awSkip ?_) | ((with_reducible refine awReg fun K hok hK => ?_); clear hok; (try simp (maxSteps := 10000000) (disch := first | omega | simp) []); (repeat' first | (with_reducible refine hK _ (by simp) ?_) | ((first | ((with_reducible refine sideF' fun K2 hK2 => ?_); (try simp (maxSteps := 10000000) (disch := first | omega | simp) []); (refine hK2 _ _ _ (apply_ok s l[i] hpr) (by simp) ?_); clear hK2 K2) | ((with_reducible refine sideSt' fun K2 hK2 => ?_); (try simp (maxSteps := 10000000) (disch := first | omega | simp) []); refine hK2 _ ?_; clear hK2 K2) | ((with_reducible refine sideQ' ?_ ?_ fun K2 hK2 => ?_); exact rfl; exact rfl; (try simp (maxSteps := 10000000) (disch := first | omega | simp) []); with_reducible refine hK2 _ _ ?_; clear hK2 K2) | ((with_reducible refine side' ?_ fun K2 hK2 => ?_); exact rfl; (try simp (maxSteps := 10000000) (disch := first | omega | simp) []); refine hK2 _ _ (by simp) ?_; clear hK2 K2)); (try simp (maxSteps := 10000000) (disch := first | omega | simp) []))) <;> clear hK K) | ((with_reducible refine awCond fun A B hA hB => ?_); simp (maxSteps := 10000000) (disch := first | omega | simp) []; (first | refine ⟨fun h => hA ?_, fun h => hB ?_⟩ | refine hA ?_ | refine hB ?_) <;> (clear hA hB A B; (try (exfalso; omega))))
    · rw [if_pos (by assumption)] at hs
      have e := hs.symm; clear hs; (refine aEnR (aRes [true] fun K hK => ?_); simp (maxSteps := 10000000) (disch := first | omega | simp) [e]; refine hK _ ?_ (by simp); clear hK; first | done | (simp (maxSteps := 10000000) (disch := first | omega | simp) [e, *]; done) | (simp (maxSteps := 10000000) (disch := first | omega | simp) [e, *]; omega) | (simp_all [e]; done) | (simp_all [e]; omega))
    · rw [if_neg (by simpa using h)] at hs
      (refine ⟨?_, (s.apply l[i]).1, ?_, Wk.ofA ?_⟩; assumption; rotate_left; focus (simp []; done))
      exact ⟨hs, hsi.apply (by omega) _⟩
  · rw [drop_nil (by omega)] at hs
    simp only [Image.allFrom] at hs
    repeat' first | (with_reducible first | refine thN ?_ | refine thR ?_ | refine thE ?_ | refine inN ?_ | refine inR ?_ | refine inH ?_ | refine fS ?_ | refine fR ?_ | refine fQ ?_ | refine fE ?_ | refine fT ?_ | refine awBlock ?_ | refine awExit ?_ | refine awRet ?_ | refine awSkip ?_) | ((with_reducible refine awReg fun K hok hK => ?_); clear hok; (try simp (maxSteps := 10000000) (disch := first | omega | simp) []); (repeat' first | (with_reducible refine hK _ (by simp) ?_) | ((first | ((with_reducible refine sideSt' fun K2 hK2 => ?_); (try simp (maxSteps := 10000000) (disch := first | omega | simp) []); refine hK2 _ ?_; clear hK2 K2) | ((with_reducible refine sideQ' ?_ ?_ fun K2 hK2 => ?_); exact rfl; exact rfl; (try simp (maxSteps := 10000000) (disch := first | omega | simp) []); with_reducible refine hK2 _ _ ?_; clear hK2 K2) | ((with_reducible refine side' ?_ fun K2 hK2 => ?_); exact rfl; (try simp (maxSteps := 10000000) (disch := first | omega | simp) []); refine hK2 _ _ (by simp) ?_; clear hK2 K2)); (try simp (maxSteps := 10000000) (disch := first | omega | simp) []))) <;> clear hK K) | ((with_reducible refine awCond fun A B hA hB => ?_); simp (maxSteps := 10000000) (disch := first | omega | simp) []; (first | refine ⟨fun h => hA ?_, fun h => hB ?_⟩ | refine hA ?_ | refine hB ?_) <;> (clear hA hB A B; (try (exfalso; omega))))
    · have e := hs.symm; clear hs; (refine aEnR (aRes [true] fun K hK => ?_); simp (maxSteps := 10000000) (disch := first | omega | simp) [e]; refine hK _ ?_ (by simp); clear hK; first | done | (simp (maxSteps := 10000000) (disch := first | omega | simp) [e, *]; done) | (simp (maxSteps := 10000000) (disch := first | omega | simp) [e, *]; omega) | (simp_all [e]; done) | (simp_all [e]; omega))
theorem made_ok (l : List Record) (hn : l.length ≤ 1000) : ACall pg 9 [.sl (l.map encR)] (encM (made l)) := by
  refine s9.call mo (by simp) fun hxs => ?_
  clear hxs
  unfold c9
  repeat' first | (with_reducible first | refine thN ?_ | refine thE ?_ | refine inN ?_ | refine inH ?_ | refine fS ?_ | refine fE ?_ | refine awBlock ?_ | refine awExit ?_ | refine awRet ?_ | refine awSkip ?_) | ((with_reducible refine awReg fun K hok hK => ?_); clear hok; (try simp (maxSteps := 10000000) (disch := first | omega | simp) []); (repeat' first | (with_reducible refine hK _ (by simp) ?_) | ((first | ((with_reducible refine sideSt' fun K2 hK2 => ?_); (try simp (maxSteps := 10000000) (disch := first | omega | simp) []); refine hK2 _ ?_; clear hK2 K2) | ((with_reducible refine sideQ' ?_ ?_ fun K2 hK2 => ?_); exact rfl; exact rfl; (try simp (maxSteps := 10000000) (disch := first | omega | simp) []); with_reducible refine hK2 _ _ ?_; clear hK2 K2) | ((with_reducible refine side' ?_ fun K2 hK2 => ?_); exact rfl; (try simp (maxSteps := 10000000) (disch := first | omega | simp) []); refine hK2 _ _ (by simp) ?_; clear hK2 K2)); (try simp (maxSteps := 10000000) (disch := first | omega | simp) []))) <;> clear hK K) | ((with_reducible refine awCond fun A B hA hB => ?_); simp (maxSteps := 10000000) (disch := first | omega | simp) []; (first | refine ⟨fun h => hA ?_, fun h => hB ?_⟩ | refine hA ?_ | refine hB ?_) <;> (clear hA hB A B; (try (exfalso; omega))))
  refine awFor l.length (fun i (s : Image) => madeFrom s (l.drop i) = made l ∧ s.Inv i) (fun i s => [(4, .p (I i)), (3, .p (.own (encM s).cells)), (2, .p (.own [.uq [], .uq [], .uq [], .uq [], I 0])), (0, .p (.sl (l.map encR)))]) zM ((Wk.frzImg (r := 3) rfl).trans (Wk.ofA (by simp [zM]))) ⟨rfl, zM_inv⟩ fun i s hi hs => ?_
  obtain ⟨hs, hsi⟩ := hs
  by_cases hlt : i < l.length
  · have hpr := hsi.pre (by omega)
    rw [drop_cons hlt] at hs
    repeat' first | (with_reducible first | refine thN ?_ | refine thE ?_ | refine inN ?_ | refine inH ?_ | refine fS ?_ | refine fE ?_ | refine awBlock ?_ | refine awExit ?_ | refine awRet ?_ | refine awSkip ?_) | ((with_reducible refine awReg fun K hok hK => ?_); clear hok; (try simp (maxSteps := 10000000) (disch := first | omega | simp) []); (repeat' first | (with_reducible refine hK _ (by simp) ?_) | ((first | ((with_reducible refine sideF' fun K2 hK2 => ?_); (try simp (maxSteps := 10000000) (disch := first | omega | simp) []); (refine hK2 _ _ _ (apply_ok s l[i] hpr) (by simp) ?_); clear hK2 K2) | ((with_reducible refine sideSt' fun K2 hK2 => ?_); (try simp (maxSteps := 10000000) (disch := first | omega | simp) []); refine hK2 _ ?_; clear hK2 K2) | ((with_reducible refine sideQ' ?_ ?_ fun K2 hK2 => ?_); exact rfl; exact rfl; (try simp (maxSteps := 10000000) (disch := first | omega | simp) []); with_reducible refine hK2 _ _ ?_; clear hK2 K2) | ((with_reducible refine side' ?_ fun K2 hK2 => ?_); exact rfl; (try simp (maxSteps := 10000000) (disch := first | omega | simp) []); refine hK2 _ _ (by simp) ?_; clear hK2 K2)); (try simp (maxSteps := 10000000) (disch := first | omega | simp) []))) <;> clear hK K) | ((with_reducible refine awCond fun A B hA hB => ?_); simp (maxSteps := 10000000) (disch := first | omega | simp) []; (first | refine ⟨fun h => hA ?_, fun h => hB ?_⟩ | refine hA ?_ | refine hB ?_) <;> (clear hA hB A B; (try (exfalso; omega))))
    · (refine ⟨?_, (s.apply l[i]).1, ?_, Wk.ofA ?_⟩; assumption; rotate_left; focus (simp []; done))
      exact ⟨hs, hsi.apply (by omega) _⟩
  · rw [drop_nil (by omega)] at hs
    simp only [madeFrom, List.foldl_nil] at hs
    repeat' first | (with_reducible first | refine thN ?_ | refine thE ?_ | refine inN ?_ | refine inH ?_ | refine fS ?_ | refine fE ?_ | refine awBlock ?_ | refine awExit ?_ | refine awRet ?_ | refine awSkip ?_) | ((with_reducible refine awReg fun K hok hK => ?_); clear hok; (try simp (maxSteps := 10000000) (disch := first | omega | simp) []); (repeat' first | (with_reducible refine hK _ (by simp) ?_) | ((first | ((with_reducible refine sideSt' fun K2 hK2 => ?_); (try simp (maxSteps := 10000000) (disch := first | omega | simp) []); refine hK2 _ ?_; clear hK2 K2) | ((with_reducible refine sideQ' ?_ ?_ fun K2 hK2 => ?_); exact rfl; exact rfl; (try simp (maxSteps := 10000000) (disch := first | omega | simp) []); with_reducible refine hK2 _ _ ?_; clear hK2 K2) | ((with_reducible refine side' ?_ fun K2 hK2 => ?_); exact rfl; (try simp (maxSteps := 10000000) (disch := first | omega | simp) []); refine hK2 _ _ (by simp) ?_; clear hK2 K2)); (try simp (maxSteps := 10000000) (disch := first | omega | simp) []))) <;> clear hK K) | ((with_reducible refine awCond fun A B hA hB => ?_); simp (maxSteps := 10000000) (disch := first | omega | simp) []; (first | refine ⟨fun h => hA ?_, fun h => hB ?_⟩ | refine hA ?_ | refine hB ?_) <;> (clear hA hB A B; (try (exfalso; omega))))
    · have e := hs.symm; clear hs; (refine aEnR (aRes [true] fun K hK => ?_); simp (maxSteps := 10000000) (disch := first | omega | simp) [e]; refine hK _ ?_ (by simp); clear hK; first | done | (simp (maxSteps := 10000000) (disch := first | omega | simp) [e, *]; done) | (simp (maxSteps := 10000000) (disch := first | omega | simp) [e, *]; omega) | (simp_all [e]; done) | (simp_all [e]; omega))
end
end Go.Am
end
section
set_option maxRecDepth 100000
set_option maxHeartbeats 0
namespace Go.Am
open Go
noncomputable section
theorem all_ok2 (m : Image) (l : List Record) (P : Image → Prop) (hm : P m) (hpre : ∀ s, P s → s.Pre) (hst : ∀ s, ∀ r ∈ l, P s → P (s.apply r).1) (hl : l.length ≤ 1000000) : ACall pg 11 [encM m, .sl (l.map encR)] (.tup [encM (m.all l).1, I (m.all l).2]) := by
  refine s11.call mo (by simp) fun hxs => ?_
  clear hxs
  unfold c11
  repeat' first | (with_reducible first | refine thN ?_ | refine thR ?_ | refine thE ?_ | refine inN ?_ | refine inR ?_ | refine inH ?_ | refine fS ?_ | refine fR ?_ | refine fQ ?_ | refine fE ?_ | refine fT ?_ | refine awBlock ?_ | refine awExit ?_ | refine awRet ?_ | refine awSkip ?_) | ((with_reducible refine awReg fun K hok hK => ?_); clear hok; (try simp (maxSteps := 10000000) (disch := first | omega | simp) []); (repeat' first | (with_reducible refine hK _ (by simp) ?_) | ((first | ((with_reducible refine sideSt' fun K2 hK2 => ?_); (try simp (maxSteps := 10000000) (disch := first | omega | simp) []); refine hK2 _ ?_; clear hK2 K2) | ((with_reducible refine sideQ' ?_ ?_ fun K2 hK2 => ?_); exact rfl; exact rfl; (try simp (maxSteps := 10000000) (disch := first | omega | simp) []); with_reducible refine hK2 _ _ ?_; clear hK2 K2) | ((with_reducible refine side' ?_ fun K2 hK2 => ?_); exact rfl; (try simp (maxSteps := 10000000) (disch := first | omega | simp) []); refine hK2 _ _ (by simp) ?_; clear hK2 K2)); (try simp (maxSteps := 10000000) (disch := first | omega | simp) []))) <;> clear hK K) | ((with_reducible refine awCond fun A B hA hB => ?_); simp (maxSteps := 10000000) (disch := first | omega | simp) []; (first | refine ⟨fun h => hA ?_, fun h => hB ?_⟩ | refine hA ?_ | refine hB ?_) <;> (clear hA hB A B; (try (exfalso; omega))))
  refine awFor l.length (fun i (s : Image) => m.allFrom s (l.drop i) = m.all l ∧ P s) (fun i s => [(7, .p (I i)), (6, .p (.own (encM s).cells)), (4, .p (.own [.uq [], .uq [], .uq [], .uq [], I 0])), (2, .p (.own (encM m).cells)), (1, .p (.sl (l.map encR)))]) m (Wk.ofA (by simp)) ⟨rfl, hm⟩ fun i s hi hs => ?_
  obtain ⟨hs, hsi⟩ := hs
  by_cases hlt : i < l.length
  · have hpr := hpre s hsi
    have hnext := hst s l[i] (List.getElem_mem hlt) hsi
    rw [drop_cons hlt] at hs
    simp only [Image.allFrom] at hs
    repeat' first | (with_reducible first | refine thN ?_ | refine thR ?_ | refine thE ?_ | refine inN ?_ | refine inR ?_ | refine inH ?_ | refine fS ?_ | refine fR ?_ | refine fQ ?_ | refine fE ?_ | refine fT ?_ | refine awBlock ?_ | refine awExit ?_ | refine awRet ?_ | refine awSkip ?_) | ((with_reducible refine awReg fun K hok hK => ?_); clear hok; (try simp (maxSteps := 10000000) (disch := first | omega | simp) []); (repeat' first | (with_reducible refine hK _ (by simp) ?_) | ((first | ((with_reducible refine sideF' fun K2 hK2 => ?_); (try simp (maxSteps := 10000000) (disch := first | omega | simp) []); (refine hK2 _ _ _ (apply_ok s l[i] hpr) (by simp) ?_); clear hK2 K2) | ((with_reducible refine sideSt' fun K2 hK2 => ?_); (try simp (maxSteps := 10000000) (disch := first | omega | simp) []); refine hK2 _ ?_; clear hK2 K2) | ((with_reducible refine sideQ' ?_ ?_ fun K2 hK2 => ?_); exact rfl; exact rfl; (try simp (maxSteps := 10000000) (disch := first | omega | simp) []); with_reducible refine hK2 _ _ ?_; clear hK2 K2) | ((with_reducible refine side' ?_ fun K2 hK2 => ?_); exact rfl; (try simp (maxSteps := 10000000) (disch := first | omega | simp) []); refine hK2 _ _ (by simp) ?_; clear hK2 K2)); (try simp (maxSteps := 10000000) (disch := first | omega | simp) []))) <;> clear hK K) | ((with_reducible refine awCond fun A B hA hB => ?_); simp (maxSteps := 10000000) (disch := first | omega | simp) []; (first | refine ⟨fun h => hA ?_, fun h => hB ?_⟩ | refine hA ?_ | refine hB ?_) <;> (clear hA hB A B; (try (exfalso; omega))))
    · rw [if_pos (by assumption)] at hs
      have e := hs.symm; clear hs; (refine aEnR (aRes [true] fun K hK => ?_); simp (maxSteps := 10000000) (disch := first | omega | simp) [e]; refine hK _ ?_ (by simp); clear hK; first | done | (simp (maxSteps := 10000000) (disch := first | omega | simp) [e, *]; done) | (simp (maxSteps := 10000000) (disch := first | omega | simp) [e, *]; omega) | (simp_all [e]; done) | (simp_all [e]; omega))
    · rw [if_neg (by simpa using h)] at hs
      (refine ⟨?_, (s.apply l[i]).1, ?_, Wk.ofA ?_⟩; assumption; rotate_left; focus (simp []; done))
      exact ⟨hs, hnext⟩
  · rw [drop_nil (by omega)] at hs
    simp only [Image.allFrom] at hs
    repeat' first | (with_reducible first | refine thN ?_ | refine thR ?_ | refine thE ?_ | refine inN ?_ | refine inR ?_ | refine inH ?_ | refine fS ?_ | refine fR ?_ | refine fQ ?_ | refine fE ?_ | refine fT ?_ | refine awBlock ?_ | refine awExit ?_ | refine awRet ?_ | refine awSkip ?_) | ((with_reducible refine awReg fun K hok hK => ?_); clear hok; (try simp (maxSteps := 10000000) (disch := first | omega | simp) []); (repeat' first | (with_reducible refine hK _ (by simp) ?_) | ((first | ((with_reducible refine sideSt' fun K2 hK2 => ?_); (try simp (maxSteps := 10000000) (disch := first | omega | simp) []); refine hK2 _ ?_; clear hK2 K2) | ((with_reducible refine sideQ' ?_ ?_ fun K2 hK2 => ?_); exact rfl; exact rfl; (try simp (maxSteps := 10000000) (disch := first | omega | simp) []); with_reducible refine hK2 _ _ ?_; clear hK2 K2) | ((with_reducible refine side' ?_ fun K2 hK2 => ?_); exact rfl; (try simp (maxSteps := 10000000) (disch := first | omega | simp) []); refine hK2 _ _ (by simp) ?_; clear hK2 K2)); (try simp (maxSteps := 10000000) (disch := first | omega | simp) []))) <;> clear hK K) | ((with_reducible refine awCond fun A B hA hB => ?_); simp (maxSteps := 10000000) (disch := first | omega | simp) []; (first | refine ⟨fun h => hA ?_, fun h => hB ?_⟩ | refine hA ?_ | refine hB ?_) <;> (clear hA hB A B; (try (exfalso; omega))))
    · have e := hs.symm; clear hs; (refine aEnR (aRes [true] fun K hK => ?_); simp (maxSteps := 10000000) (disch := first | omega | simp) [e]; refine hK _ ?_ (by simp); clear hK; first | done | (simp (maxSteps := 10000000) (disch := first | omega | simp) [e, *]; done) | (simp (maxSteps := 10000000) (disch := first | omega | simp) [e, *]; omega) | (simp_all [e]; done) | (simp_all [e]; omega))
end
end Go.Am
end
