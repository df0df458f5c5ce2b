/- Part of the proof of ElectLeaves. -/
import Derived.Test.YteijffflinnccaaZA14
import Derived.Test.YteijffflinnccaaZA16
set_option linter.all false
set_option maxRecDepth 100000
set_option maxHeartbeats 0
namespace Go.Am
open Go
noncomputable section
def c61 : SC := (.seq (.reg [⟨some 2, .box 30 (.tmp 0), none, []⟩,
  ⟨some 3, .box 43 (.tmp 1), none, []⟩,
  ⟨some 4, .alloc 30, none, []⟩,
  ⟨some 5, .assign (.const (.int .i64 0)), none, []⟩] [2, 3, 4, 9, 36, 40]) (.seq (.reg [⟨some 12, .load 30 (.tmp 2), none, []⟩,
  ⟨some 13, .fieldAddr 43 (.tmp 3) 3, none, []⟩,
  ⟨some 14, .load 3 (.tmp 13), none, []⟩,
  ⟨some 15, .call { callee := .value (.func 98), args := #[.tmp 12, .tmp 14], argTypes := #[30, 3] }, none, []⟩,
  ⟨some 11, .move (.tmp 15), none, []⟩,
  ⟨some 16, .extract (.tmp 11) 0, none, []⟩,
  ⟨some 17, .extract (.tmp 11) 1, none, []⟩,
  ⟨some 6, .alloc 46, none, []⟩,
  ⟨none, .store 46 (.tmp 6) (.tmp 16), none, []⟩,
  ⟨some 7, .assign (.tmp 17), none, []⟩] [2, 3, 4, 6, 7, 9, 11, 15, 17, 36, 40]) (.seq (.reg [⟨some 18, .move (.tmp 7), none, []⟩,
  ⟨some 19, .unOp .not 4 (.tmp 18), none, []⟩] [2, 3, 4, 6, 9, 19, 36, 40]) (.seq (.cond (.tmp 19) (.seq (.reg [⟨some 20, .load 30 (.tmp 2), none, []⟩,
  ⟨none, .store 30 (.tmp 4) (.tmp 20), none, []⟩,
  ⟨some 5, .assign (.const (.int .i64 8)), none, []⟩] [4, 5, 9, 36, 40]) .ret) .skip) (.seq (.reg [⟨some 21, .fieldAddr 43 (.tmp 3) 14, none, []⟩,
  ⟨some 22, .load 41 (.tmp 21), none, []⟩,
  ⟨some 23, .fieldAddr 43 (.tmp 3) 15, none, []⟩,
  ⟨some 24, .load 41 (.tmp 23), none, []⟩,
  ⟨some 25, .fieldAddr 43 (.tmp 3) 5, none, []⟩,
  ⟨some 26, .load 3 (.tmp 25), none, []⟩,
  ⟨some 27, .fieldAddr 43 (.tmp 3) 2, none, []⟩,
  ⟨some 28, .load 3 (.tmp 27), none, []⟩,
  ⟨some 29, .fieldAddr 43 (.tmp 3) 16, none, []⟩,
  ⟨some 30, .load 41 (.tmp 29), none, []⟩,
  ⟨some 31, .fieldAddr 43 (.tmp 3) 17, none, []⟩,
  ⟨some 32, .load 41 (.tmp 31), none, []⟩,
  ⟨some 33, .build 48 #[(0, .tmp 22), (1, .tmp 24), (2, .tmp 26), (3, .tmp 28), (4, .tmp 30), (5, .tmp 32)], none, []⟩,
  ⟨some 8, .alloc 48, none, []⟩,
  ⟨none, .store 48 (.tmp 8) (.tmp 33), none, []⟩] [2, 3, 4, 6, 8, 9, 36, 40]) (.seq (.reg [⟨some 34, .load 30 (.tmp 2), none, []⟩,
  ⟨some 35, .load 48 (.tmp 8), none, []⟩,
  ⟨some 36, .call { callee := .value (.func 124), args := #[.tmp 34, .tmp 35], argTypes := #[30, 48] }, none, []⟩,
  ⟨some 9, .assign (.tmp 36), none, []⟩] [2, 3, 4, 6, 8, 9, 36, 40]) (.seq (.reg [⟨some 37, .move (.tmp 9), none, []⟩,
  ⟨some 38, .binOp .neq 35 (.tmp 37) (.const (.int .i64 0)) 35, none, []⟩] [2, 3, 4, 6, 8, 9, 36, 38, 40]) (.seq (.cond (.tmp 38) (.seq (.reg [⟨some 39, .load 30 (.tmp 2), none, []⟩,
  ⟨some 40, .move (.tmp 9), none, []⟩,
  ⟨none, .store 30 (.tmp 4) (.tmp 39), none, []⟩,
  ⟨some 5, .assign (.tmp 40), none, []⟩] [4, 5, 9, 36, 40]) .ret) .skip) (.seq (.reg [⟨some 41, .fieldAddr 43 (.tmp 3) 0, none, []⟩,
  ⟨some 42, .load 3 (.tmp 41), none, []⟩,
  ⟨some 43, .binOp .eql 3 (.tmp 42) (.const (.int .i64 8)) 3, none, []⟩] [2, 3, 4, 6, 8, 9, 36, 40, 43]) (.seq (.cond (.tmp 43) (.seq (.reg [⟨some 44, .fieldAddr 43 (.tmp 3) 4, none, []⟩,
  ⟨some 45, .load 3 (.tmp 44), none, []⟩,
  ⟨some 46, .fieldAddr 46 (.tmp 6) 2, none, []⟩,
  ⟨some 47, .load 44 (.tmp 46), none, []⟩,
  ⟨some 48, .call { callee := .builtin .len, args := #[.tmp 47], argTypes := #[44] }, none, []⟩,
  ⟨some 49, .binOp .neq 3 (.tmp 45) (.tmp 48) 3, none, []⟩] [2, 3, 4, 8, 9, 36, 40, 49]) (.seq (.cond (.tmp 49) (.seq (.reg [⟨some 50, .load 30 (.tmp 2), none, []⟩,
  ⟨none, .store 30 (.tmp 4) (.tmp 50), none, []⟩,
  ⟨some 5, .assign (.const (.int .i64 10)), none, []⟩] [4, 5, 9, 36, 40]) .ret) .skip) (.seq (.reg [⟨some 51, .load 30 (.tmp 2), none, []⟩,
  ⟨some 52, .fieldAddr 43 (.tmp 3) 3, none, []⟩,
  ⟨some 53, .load 3 (.tmp 52), none, []⟩,
  ⟨some 54, .fieldAddr 43 (.tmp 3) 4, none, []⟩,
  ⟨some 55, .load 3 (.tmp 54), none, []⟩,
  ⟨some 56, .load 48 (.tmp 8), none, []⟩,
  ⟨some 57, .call { callee := .value (.func 125), args := #[.tmp 51, .tmp 53, .tmp 55, .tmp 56], argTypes := #[30, 3, 3, 48] }, none, []⟩,
  ⟨none, .store 30 (.tmp 4) (.tmp 57), none, []⟩,
  ⟨some 5, .assign (.const (.int .i64 0)), none, []⟩] [4, 5, 9, 36, 40]) .ret))) .skip) (.seq (.reg [⟨some 58, .fieldAddr 43 (.tmp 3) 4, none, []⟩,
  ⟨some 59, .load 3 (.tmp 58), none, []⟩,
  ⟨some 60, .fieldAddr 46 (.tmp 6) 2, none, []⟩,
  ⟨some 61, .load 44 (.tmp 60), none, []⟩,
  ⟨some 62, .call { callee := .builtin .len, args := #[.tmp 61], argTypes := #[44] }, none, []⟩,
  ⟨some 63, .binOp .geq 3 (.tmp 59) (.tmp 62) 3, none, []⟩] [2, 3, 4, 6, 8, 9, 36, 40, 63]) (.seq (.cond (.tmp 63) (.seq (.reg [⟨some 64, .load 30 (.tmp 2), none, []⟩,
  ⟨none, .store 30 (.tmp 4) (.tmp 64), none, []⟩,
  ⟨some 5, .assign (.const (.int .i64 8)), none, []⟩] [4, 5, 9, 36, 40]) .ret) .skip) (.seq (.reg [⟨some 65, .fieldAddr 46 (.tmp 6) 2, none, []⟩,
  ⟨some 66, .load 44 (.tmp 65), none, []⟩,
  ⟨some 67, .fieldAddr 43 (.tmp 3) 4, none, []⟩,
  ⟨some 68, .load 3 (.tmp 67), none, []⟩,
  ⟨some 69, .indexAddr 44 (.tmp 66) (.tmp 68), none, []⟩,
  ⟨some 70, .load 48 (.tmp 69), none, []⟩,
  ⟨some 10, .alloc 48, none, []⟩,
  ⟨none, .store 48 (.tmp 10) (.tmp 70), none, []⟩] [2, 3, 4, 8, 9, 10, 36, 40]) (.seq (.reg [⟨some 71, .fieldAddr 43 (.tmp 3) 2, none, []⟩,
  ⟨some 72, .load 3 (.tmp 71), none, []⟩,
  ⟨some 73, .fieldAddr 48 (.tmp 10) 3, none, []⟩,
  ⟨some 74, .load 3 (.tmp 73), none, []⟩,
  ⟨some 75, .binOp .lss 3 (.tmp 72) (.tmp 74) 3, none, []⟩,
  ⟨some 76, .move (.tmp 75), none, []⟩,
  ⟨some 77, .fieldAddr 43 (.tmp 3) 2, (some (76, false)), []⟩,
  ⟨some 78, .load 3 (.tmp 77), (some (76, false)), []⟩,
  ⟨some 79, .fieldAddr 48 (.tmp 10) 3, (some (76, false)), []⟩,
  ⟨some 80, .load 3 (.tmp 79), (some (76, false)), []⟩,
  ⟨some 81, .binOp .add 3 (.tmp 80) (.const (.int .i64 1)) 3, (some (76, false)), []⟩,
  ⟨some 82, .binOp .gtr 3 (.tmp 78) (.tmp 81) 3, (some (76, false)), []⟩,
  ⟨some 83, .pick (.tmp 76) (.const (.bool true)) (.tmp 82), none, []⟩,
  ⟨some 84, .move (.tmp 83), none, []⟩,
  ⟨some 85, .fieldAddr 43 (.tmp 3) 2, (some (84, false)), []⟩,
  ⟨some 86, .load 3 (.tmp 85), (some (84, false)), []⟩,
  ⟨some 87, .fieldAddr 48 (.tmp 10) 3, (some (84, false)), []⟩,
  ⟨some 88, .load 3 (.tmp 87), (some (84, false)), []⟩,
  ⟨some 89, .binOp .eql 3 (.tmp 86) (.tmp 88) 3, (some (84, false)), []⟩,
  ⟨some 90, .move (.tmp 89), (some (84, false)), []⟩,
  ⟨some 91, .fieldAddr 43 (.tmp 3) 5, (some (90, true)), []⟩,
  ⟨some 92, .load 3 (.tmp 91), (some (90, true)), []⟩,
  ⟨some 93, .fieldAddr 48 (.tmp 10) 2, (some (90, true)), []⟩,
  ⟨some 94, .load 3 (.tmp 93), (some (90, true)), []⟩,
  ⟨some 95, .binOp .neq 3 (.tmp 92) (.tmp 94) 3, (some (90, true)), []⟩,
  ⟨some 96, .pick (.tmp 90) (.tmp 95) (.const (.bool false)), (some (84, false)), []⟩,
  ⟨some 97, .pick (.tmp 84) (.const (.bool true)) (.tmp 96), none, []⟩] [2, 3, 4, 8, 9, 10, 36, 40, 75, 76, 82, 83, 84, 89, 90, 95, 96, 97]) (.seq (.cond (.tmp 97) (.seq (.reg [⟨some 98, .load 30 (.tmp 2), none, []⟩,
  ⟨none, .store 30 (.tmp 4) (.tmp 98), none, []⟩,
  ⟨some 5, .assign (.const (.int .i64 11)), none, []⟩] [4, 5, 9, 36, 40]) .ret) .skip) (.seq (.reg [⟨some 99, .load 48 (.tmp 10), none, []⟩,
  ⟨some 100, .load 48 (.tmp 8), none, []⟩,
  ⟨some 101, .call { callee := .value (.func 26), args := #[.tmp 99, .tmp 100], argTypes := #[48, 48] }, none, []⟩] [2, 3, 4, 8, 9, 36, 40, 101]) (.seq (.cond (.tmp 101) (.seq (.reg [⟨some 102, .load 30 (.tmp 2), none, []⟩,
  ⟨none, .store 30 (.tmp 4) (.tmp 102), none, []⟩,
  ⟨some 5, .assign (.const (.int .i64 10)), none, []⟩] [4, 5, 9, 36, 40]) .ret) .skip) (.seq (.reg [⟨some 103, .load 30 (.tmp 2), none, []⟩,
  ⟨some 104, .fieldAddr 43 (.tmp 3) 3, none, []⟩,
  ⟨some 105, .load 3 (.tmp 104), none, []⟩,
  ⟨some 106, .fieldAddr 43 (.tmp 3) 4, none, []⟩,
  ⟨some 107, .load 3 (.tmp 106), none, []⟩,
  ⟨some 108, .load 48 (.tmp 8), none, []⟩,
  ⟨some 109, .call { callee := .value (.func 125), args := #[.tmp 103, .tmp 105, .tmp 107, .tmp 108], argTypes := #[30, 3, 3, 48] }, none, []⟩,
  ⟨none, .store 30 (.tmp 4) (.tmp 109), none, []⟩,
  ⟨some 5, .assign (.const (.int .i64 0)), none, []⟩] [4, 5, 9, 36, 40]) .ret))))))))))))))))))
theorem s61 : TextK Proofs.Try.prog 0 61 110 [ResultVar.cell 4 30, ResultVar.tmp 5] c61 := .mk' Proofs.Try.f61 _ (by kernel_rfl) rfl rfl rfl (by kernel_rfl) rfl (by kernel_rfl)
theorem samePart_ok' (a b : Part) : ACall pg 26 [encP a, encP b] (B (a.same b)) := samePart_ok a b
theorem partRec_ok (m : Image) (r : Record) (hm : m.Pre) (hp : 0 ≤ r.part) : ACall pg 61 [encM m, encR r] (.tup [encM (m.partRec r).1, I (m.partRec r).2]) := by
  refine s61.call mo (by simp) fun hxs => ?_
  clear hxs
  obtain ⟨k, hk⟩ : ∃ k : Nat, r.part = k := ⟨r.part.toNat, by omega⟩
  unfold c61
  cases ht : m.topic r.topic with
  | none =>
    repeat' first
        | (with_reducible first | refine thN ?_ | refine thR ?_ | refine thE ?_ | refine inN ?_ | refine inR ?_ | refine inH ?_ | refine fF ?_ | refine fS ?_ | refine fR ?_ | refine fQ ?_ | refine fC ?_ | refine fB ?_ | refine fL ?_ | refine fE ?_ | refine fT ?_ | refine awBlock ?_ | refine awExit ?_ | refine awRet ?_ | refine awSkip ?_ | refine inM (by decide) ?_)
        | ((with_reducible refine awReg fun K hok hK => ?_); clear hok; (try simp (maxSteps := 10000000) (disch := first | omega | simp) [ht, zT]); (repeat' first
            | (with_reducible refine hK _ (by simp) ?_)
            | ((with_reducible refine gdT (fun h => ?_) (fun h => ?_)) <;> (simp (maxSteps := 10000000) (disch := first | omega | simp) [h, ht, zT]; (try simp at h); (try (exfalso; omega))))
            | ((with_reducible refine gdF (fun h => ?_) (fun h => ?_)) <;> (simp (maxSteps := 10000000) (disch := first | omega | simp) [h, ht, zT]; (try simp at h); (try (exfalso; omega))))
            | ((with_reducible refine callS' fun K2 hK2 => ?_); (try simp (maxSteps := 10000000) (disch := first | omega | simp) [ht, zT]); (first | (refine hK2 _ _ (topic_ok m r.topic) rfl fun hk9 => ?_; clear hk9)); clear hK2 K2; (try simp (maxSteps := 10000000) (disch := first | omega | simp) [ht, zT]))
            | ((with_reducible refine callF' fun K2 hK2 => ?_); (try simp (maxSteps := 10000000) (disch := first | omega | simp) [ht, zT]); (first | refine hK2 _ _ _ (topic_ok m r.topic) fun _ => ?_); clear hK2 K2; (try simp (maxSteps := 10000000) (disch := first | omega | simp) [ht, zT]))
            | ((with_reducible refine gdU ?_); (try simp (maxSteps := 10000000) (disch := first | omega | simp) [ht, zT]))) <;> clear hK K)
        | ((with_reducible refine awCond fun A B hA hB => ?_); simp (maxSteps := 10000000) (disch := first | omega | simp) [ht, zT]; (first | refine ⟨fun h => hA ?_, fun h => hB ?_⟩ | refine hA ?_ | refine hB ?_) <;> (clear hA hB A B; (try (exfalso; omega))))
    all_goals (refine aEnR (aRes [] fun K hK => ?_); simp (maxSteps := 10000000) (disch := first | omega | simp) [Image.partRec, ht]; refine hK _ ?_ (by simp); clear hK; first | done | (simp (maxSteps := 10000000) (disch := first | omega | simp) [Image.partRec, ht, *]; done) | (simp (maxSteps := 10000000) (disch := first | omega | simp) [Image.partRec, ht, *]; omega) | (simp_all [Image.partRec, ht]; done) | (simp_all [Image.partRec, ht]; omega))
  | some t =>
    have hmem : t ∈ m.topics := List.mem_of_find?_eq_some ht
    have hpl := hm.pl t hmem
    have hun : ∀ u ∈ m.topics, u.id = r.topic → u = t := fun u hu e => topic_unique hm.ti ht hu e
    by_cases hlt : k < t.parts.length
    · have hget : t.parts[k]? = some t.parts[k] := List.getElem?_eq_getElem hlt
      have hep := hm.ep t hmem t.parts[k] (List.getElem_mem hlt)
      have hle : ∀ u ∈ m.topics, u.id = r.topic → k ≤ u.parts.length := fun u hu e => by rw [hun u hu e]; omega
      repeat' first
          | (with_reducible first | refine thN ?_ | refine thR ?_ | refine thE ?_ | refine inN ?_ | refine inR ?_ | refine inH ?_ | refine fF ?_ | refine fS ?_ | refine fR ?_ | refine fQ ?_ | refine fC ?_ | refine fB ?_ | refine fL ?_ | refine fE ?_ | refine fT ?_ | refine awBlock ?_ | refine awExit ?_ | refine awRet ?_ | refine awSkip ?_ | refine inM (by decide) ?_)
          | ((with_reducible refine awReg fun K hok hK => ?_); clear hok; (try simp (maxSteps := 10000000) (disch := first | omega | simp) [ht, hk]); (repeat' first
              | (with_reducible refine hK _ (by simp) ?_)
              | ((with_reducible refine gdT (fun h => ?_) (fun h => ?_)) <;> (simp (maxSteps := 10000000) (disch := first | omega | simp) [h, ht, hk]; (try simp at h); (try (exfalso; omega))))
              | ((with_reducible refine gdF (fun h => ?_) (fun h => ?_)) <;> (simp (maxSteps := 10000000) (disch := first | omega | simp) [h, ht, hk]; (try simp at h); (try (exfalso; omega))))
              | ((with_reducible refine callS' fun K2 hK2 => ?_); (try simp (maxSteps := 10000000) (disch := first | omega | simp) [ht, hk]); (first | (refine hK2 _ _ (topic_ok m r.topic) rfl fun hk9 => ?_; clear hk9) | (refine hK2 _ _ (right_ok m r.toPart) rfl fun hk9 => ?_; clear hk9) | (refine hK2 _ _ (putPart_ok m r.topic k r.toPart hm hle) rfl fun hk9 => ?_; clear hk9) | (refine hK2 _ _ (samePart_ok' t.parts[k] r.toPart) rfl fun hk9 => ?_; clear hk9)); clear hK2 K2; (try simp (maxSteps := 10000000) (disch := first | omega | simp) [ht, hk]))
              | ((with_reducible refine callF' fun K2 hK2 => ?_); (try simp (maxSteps := 10000000) (disch := first | omega | simp) [ht, hk]); (first | refine hK2 _ _ _ (topic_ok m r.topic) fun _ => ?_ | refine hK2 _ _ _ (right_ok m r.toPart) fun _ => ?_ | refine hK2 _ _ _ (putPart_ok m r.topic k r.toPart hm hle) fun _ => ?_ | refine hK2 _ _ _ (samePart_ok' t.parts[k] r.toPart) fun _ => ?_); clear hK2 K2; (try simp (maxSteps := 10000000) (disch := first | omega | simp) [ht, hk]))
              | ((with_reducible refine gdU ?_); (try simp (maxSteps := 10000000) (disch := first | omega | simp) [ht, hk]))) <;> clear hK K)
          | ((with_reducible refine awCond fun A B hA hB => ?_); simp (maxSteps := 10000000) (disch := first | omega | simp) [ht, hk]; (first | refine ⟨fun h => hA ?_, fun h => hB ?_⟩ | refine hA ?_ | refine hB ?_) <;> (clear hA hB A B; (try (exfalso; omega))))
      all_goals (refine aEnR (aRes [true] fun K hK => ?_); simp (maxSteps := 10000000) (disch := first | omega | simp) [ht, hk, hget, Int.toNat_natCast, Option.getD_some]; refine hK _ ?_ (by simp); clear hK; (try simp only [Image.partRec, ht, hk, hget, Int.toNat_natCast, Option.getD_some]); ((repeat' split) <;> first | with_reducible rfl | contradiction | (exfalso; omega) | (simp [ht, hk, hget, Int.toNat_natCast, Option.getD_some]; done) | grind))
    · have hget : (t.parts.length : Int) ≤ k := by omega
      repeat' first
          | (with_reducible first | refine thN ?_ | refine thR ?_ | refine thE ?_ | refine inN ?_ | refine inR ?_ | refine inH ?_ | refine fF ?_ | refine fS ?_ | refine fR ?_ | refine fQ ?_ | refine fC ?_ | refine fB ?_ | refine fL ?_ | refine fE ?_ | refine fT ?_ | refine awBlock ?_ | refine awExit ?_ | refine awRet ?_ | refine awSkip ?_ | refine inM (by decide) ?_)
          | ((with_reducible refine awReg fun K hok hK => ?_); clear hok; (try simp (maxSteps := 10000000) (disch := first | omega | simp) [ht, hk]); (repeat' first
              | (with_reducible refine hK _ (by simp) ?_)
              | ((with_reducible refine gdT (fun h => ?_) (fun h => ?_)) <;> (simp (maxSteps := 10000000) (disch := first | omega | simp) [h, ht, hk]; (try simp at h); (try (exfalso; omega))))
              | ((with_reducible refine gdF (fun h => ?_) (fun h => ?_)) <;> (simp (maxSteps := 10000000) (disch := first | omega | simp) [h, ht, hk]; (try simp at h); (try (exfalso; omega))))
              | ((with_reducible refine callS' fun K2 hK2 => ?_); (try simp (maxSteps := 10000000) (disch := first | omega | simp) [ht, hk]); (first | (refine hK2 _ _ (topic_ok m r.topic) rfl fun hk9 => ?_; clear hk9) | (refine hK2 _ _ (right_ok m r.toPart) rfl fun hk9 => ?_; clear hk9)); clear hK2 K2; (try simp (maxSteps := 10000000) (disch := first | omega | simp) [ht, hk]))
              | ((with_reducible refine callF' fun K2 hK2 => ?_); (try simp (maxSteps := 10000000) (disch := first | omega | simp) [ht, hk]); (first | refine hK2 _ _ _ (topic_ok m r.topic) fun _ => ?_ | refine hK2 _ _ _ (right_ok m r.toPart) fun _ => ?_); clear hK2 K2; (try simp (maxSteps := 10000000) (disch := first | omega | simp) [ht, hk]))
              | ((with_reducible refine gdU ?_); (try simp (maxSteps := 10000000) (disch := first | omega | simp) [ht, hk]))) <;> clear hK K)
          | ((with_reducible refine awCond fun A B hA hB => ?_); simp (maxSteps := 10000000) (disch := first | omega | simp) [ht, hk]; (first | refine ⟨fun h => hA ?_, fun h => hB ?_⟩ | refine hA ?_ | refine hB ?_) <;> (clear hA hB A B; (try (exfalso; omega))))
      all_goals first
        | (refine aEnR (aRes [true] fun K hK => ?_); simp (maxSteps := 10000000) (disch := first | omega | simp) [ht, hk, hget, Int.toNat_natCast, Option.getD_some]; refine hK _ ?_ (by simp); clear hK; (try simp only [Image.partRec, ht, hk, hget, Int.toNat_natCast, Option.getD_some]); ((repeat' split) <;> first | with_reducible rfl | contradiction | (exfalso; omega) | (simp [ht, hk, hget, Int.toNat_natCast, Option.getD_some]; done) | grind))
        | (have hle : ∀ u ∈ m.topics, u.id = r.topic → k ≤ u.parts.length := fun u hu e => by rw [hun u hu e]; omega
           repeat' first
               | (with_reducible first | refine thN ?_ | refine thR ?_ | refine thE ?_ | refine inN ?_ | refine inR ?_ | refine inH ?_ | refine fF ?_ | refine fS ?_ | refine fR ?_ | refine fQ ?_ | refine fC ?_ | refine fB ?_ | refine fL ?_ | refine fE ?_ | refine fT ?_ | refine awBlock ?_ | refine awExit ?_ | refine awRet ?_ | refine awSkip ?_ | refine inM (by decide) ?_)
               | ((with_reducible refine awReg fun K hok hK => ?_); clear hok; (try simp (maxSteps := 10000000) (disch := first | omega | simp) [ht, hk]); (repeat' first
                   | (with_reducible refine hK _ (by simp) ?_)
                   | ((with_reducible refine gdT (fun h => ?_) (fun h => ?_)) <;> (simp (maxSteps := 10000000) (disch := first | omega | simp) [h, ht, hk]; (try simp at h); (try (exfalso; omega))))
                   | ((with_reducible refine gdF (fun h => ?_) (fun h => ?_)) <;> (simp (maxSteps := 10000000) (disch := first | omega | simp) [h, ht, hk]; (try simp at h); (try (exfalso; omega))))
                   | ((with_reducible refine callS' fun K2 hK2 => ?_); (try simp (maxSteps := 10000000) (disch := first | omega | simp) [ht, hk]); (first | (refine hK2 _ _ (putPart_ok m r.topic k r.toPart hm hle) rfl fun hk9 => ?_; clear hk9)); clear hK2 K2; (try simp (maxSteps := 10000000) (disch := first | omega | simp) [ht, hk]))
                   | ((with_reducible refine callF' fun K2 hK2 => ?_); (try simp (maxSteps := 10000000) (disch := first | omega | simp) [ht, hk]); (first | refine hK2 _ _ _ (putPart_ok m r.topic k r.toPart hm hle) fun _ => ?_); clear hK2 K2; (try simp (maxSteps := 10000000) (disch := first | omega | simp) [ht, hk]))
                   | ((with_reducible refine gdU ?_); (try simp (maxSteps := 10000000) (disch := first | omega | simp) [ht, hk]))) <;> clear hK K)
               | ((with_reducible refine awCond fun A B hA hB => ?_); simp (maxSteps := 10000000) (disch := first | omega | simp) [ht, hk]; (first | refine ⟨fun h => hA ?_, fun h => hB ?_⟩ | refine hA ?_ | refine hB ?_) <;> (clear hA hB A B; (try (exfalso; omega))))
           (refine aEnR (aRes [true] fun K hK => ?_); simp (maxSteps := 10000000) (disch := first | omega | simp) [ht, hk, hget, Int.toNat_natCast, Option.getD_some]; refine hK _ ?_ (by simp); clear hK; (try simp only [Image.partRec, ht, hk, hget, Int.toNat_natCast, Option.getD_some]); ((repeat' split) <;> first | with_reducible rfl | contradiction | (exfalso; omega) | (simp [ht, hk, hget, Int.toNat_natCast, Option.getD_some]; done) | grind)))
end
end Go.Am
