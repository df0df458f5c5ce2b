/- Part of the proof of a law of moving. -/
import Derived.Test.YtmnheledelnbfaaGreatQVB
set_option linter.all false
set_option maxRecDepth 100000
set_option maxHeartbeats 0
namespace Go.Am
open Go
noncomputable section
structure Req where
  client : Int
  serial : Int
  kind : Int
  name : ByteArray
  key : ByteArray
  value : ByteArray
  flag : Bool
  parts : Int
  replicas : Int
  part : Int
  ids : List Int
  broker : Int
  epoch : Int
  rack : ByteArray
  w1 : Int
  w2 : Int
  w3 : Int
  w4 : Bool
  w5 : Bool
def encQ (q : Req) : V := .agg [I q.client, I q.serial, I q.kind, St q.name, St q.key, St q.value, B q.flag, I q.parts, I q.replicas, I q.part, Li q.ids, I q.broker, I q.epoch, St q.rack, I q.w1, I q.w2, I q.w3, B q.w4, B q.w5]
@[simp] theorem encQ_eq (q : Req) : encQ q = .agg [I q.client, I q.serial, I q.kind, St q.name, St q.key, St q.value, B q.flag, I q.parts, I q.replicas, I q.part, Li q.ids, I q.broker, I q.epoch, St q.rack, I q.w1, I q.w2, I q.w3, B q.w4, B q.w5] := rfl
def c53 : SC := (.seq (.reg [⟨some 2, .box 36 (.tmp 0), none, []⟩,
  ⟨some 3, .box 27 (.tmp 1), none, []⟩,
  ⟨some 4, .alloc 50, none, []⟩,
  ⟨some 5, .assign (.const .nilIface), none, []⟩] [2, 3, 4, 18]) (.seq (.reg [⟨some 9, .load 36 (.tmp 2), none, []⟩,
  ⟨some 10, .fieldAddr 27 (.tmp 3) 3, none, []⟩,
  ⟨some 11, .load 9 (.tmp 10), none, []⟩,
  ⟨some 12, .call { callee := .value (.func 73), args := #[.tmp 9, .tmp 11], argTypes := #[36, 9] }, none, []⟩,
  ⟨some 8, .move (.tmp 12), none, []⟩,
  ⟨some 13, .extract (.tmp 8) 0, none, []⟩,
  ⟨some 14, .extract (.tmp 8) 1, none, []⟩,
  ⟨some 6, .alloc 50, none, []⟩,
  ⟨none, .store 50 (.tmp 6) (.tmp 13), none, []⟩,
  ⟨some 7, .assign (.tmp 14), none, []⟩] [4, 6, 7, 8, 12, 14, 18]) (.seq (.reg [⟨some 15, .move (.tmp 7), none, []⟩,
  ⟨some 16, .unOp .not 4 (.tmp 15), none, []⟩] [4, 6, 16, 18]) (.seq (.cond (.tmp 16) (.seq (.reg [⟨some 17, .build 50 #[], none, []⟩,
  ⟨some 18, .call { callee := .value (.func 29), args := #[.const (.string ⟨#[110, 97, 109, 101]⟩), .const (.int .i64 0), .const (.int .i64 8)], argTypes := #[9, 3, 42] }, none, []⟩,
  ⟨none, .store 50 (.tmp 4) (.tmp 17), none, []⟩,
  ⟨some 5, .assign (.tmp 18), none, []⟩] [4, 5, 18]) .ret) .skip) (.seq (.reg [⟨some 19, .load 50 (.tmp 6), none, []⟩,
  ⟨none, .store 50 (.tmp 4) (.tmp 19), none, []⟩,
  ⟨some 5, .assign (.const .nilIface), none, []⟩] [4, 5, 18]) .ret)))))
theorem s53 : TextK Proofs.Tryz.prog 0 53 20 [ResultVar.cell 4 50, ResultVar.tmp 5] c53 := .mk' Proofs.Tryz.f53 _ (by kernel_rfl) rfl rfl rfl (by kernel_rfl) rfl (by kernel_rfl)
def c30 : SC := (.seq (.reg [⟨some 2, .box 36 (.tmp 0), none, []⟩,
  ⟨some 3, .box 27 (.tmp 1), none, []⟩,
  ⟨some 4, .assign (.const (.int .i64 0)), none, []⟩,
  ⟨some 5, .alloc 52, none, []⟩,
  ⟨some 6, .assign (.const .nilIface), none, []⟩] [2, 3, 5, 7, 8, 9, 12, 14, 18, 31, 32, 33]) (.seq (.reg [⟨some 10, .load 36 (.tmp 2), none, []⟩,
  ⟨some 11, .load 27 (.tmp 3), none, []⟩,
  ⟨some 12, .call { callee := .value (.func 53), args := #[.tmp 10, .tmp 11], argTypes := #[36, 27] }, none, []⟩,
  ⟨some 9, .move (.tmp 12), none, []⟩,
  ⟨some 13, .extract (.tmp 9) 0, none, []⟩,
  ⟨some 14, .extract (.tmp 9) 1, none, []⟩,
  ⟨some 7, .alloc 50, none, []⟩,
  ⟨none, .store 50 (.tmp 7) (.tmp 13), none, []⟩,
  ⟨some 8, .assign (.tmp 14), none, []⟩] [3, 5, 7, 8, 9, 12, 14, 18, 31, 32, 33]) (.seq (.reg [⟨some 15, .move (.tmp 8), none, []⟩,
  ⟨some 16, .binOp .neq 39 (.tmp 15) (.const .nilIface) 39, none, []⟩] [3, 5, 7, 8, 9, 12, 14, 16, 18, 31, 32, 33]) (.seq (.cond (.tmp 16) (.seq (.reg [⟨some 17, .build 52 #[], none, []⟩,
  ⟨some 18, .move (.tmp 8), none, []⟩,
  ⟨some 4, .assign (.const (.int .i64 0)), none, []⟩,
  ⟨none, .store 52 (.tmp 5) (.tmp 17), none, []⟩,
  ⟨some 6, .assign (.tmp 18), none, []⟩] [4, 5, 6, 7, 8, 9, 12, 14, 18, 31, 32, 33]) .ret) .skip) (.seq (.reg [⟨some 19, .fieldAddr 27 (.tmp 3) 9, none, []⟩,
  ⟨some 20, .load 3 (.tmp 19), none, []⟩,
  ⟨some 21, .binOp .lss 3 (.tmp 20) (.const (.int .i64 0)) 3, none, []⟩,
  ⟨some 22, .move (.tmp 21), none, []⟩,
  ⟨some 23, .fieldAddr 27 (.tmp 3) 9, (some (22, false)), []⟩,
  ⟨some 24, .load 3 (.tmp 23), (some (22, false)), []⟩,
  ⟨some 25, .fieldAddr 50 (.tmp 7) 2, (some (22, false)), []⟩,
  ⟨some 26, .load 48 (.tmp 25), (some (22, false)), []⟩,
  ⟨some 27, .call { callee := .builtin .len, args := #[.tmp 26], argTypes := #[48] }, (some (22, false)), []⟩,
  ⟨some 28, .binOp .geq 3 (.tmp 24) (.tmp 27) 3, (some (22, false)), []⟩,
  ⟨some 29, .pick (.tmp 22) (.const (.bool true)) (.tmp 28), none, []⟩] [3, 5, 7, 8, 9, 12, 14, 18, 21, 22, 28, 29, 31, 32, 33]) (.seq (.cond (.tmp 29) (.seq (.reg [⟨some 30, .build 52 #[], none, []⟩,
  ⟨some 31, .call { callee := .value (.func 29), args := #[.const (.string ⟨#[112, 97, 114, 116]⟩), .const (.int .i64 1), .const (.int .i64 8)], argTypes := #[9, 3, 42] }, none, []⟩,
  ⟨some 4, .assign (.const (.int .i64 0)), none, []⟩,
  ⟨none, .store 52 (.tmp 5) (.tmp 30), none, []⟩,
  ⟨some 6, .assign (.tmp 31), none, []⟩] [4, 5, 6, 7, 8, 9, 12, 14, 18, 31, 32, 33]) .ret) .skip) (.seq (.reg [⟨some 32, .fieldAddr 50 (.tmp 7) 0, none, [34, 35, 36, 37, 38, 39]⟩,
  ⟨some 33, .load 3 (.tmp 32), none, [34, 35, 36, 37, 38, 39]⟩,
  ⟨some 34, .fieldAddr 50 (.tmp 7) 2, none, [32, 33, 36, 37, 4]⟩,
  ⟨some 35, .load 48 (.tmp 34), none, [32, 33, 36, 37, 4]⟩,
  ⟨some 36, .fieldAddr 27 (.tmp 3) 9, none, [32, 33, 34, 35, 4]⟩,
  ⟨some 37, .load 3 (.tmp 36), none, [32, 33, 34, 35, 4]⟩,
  ⟨some 38, .indexAddr 48 (.tmp 35) (.tmp 37), none, [32, 33, 4]⟩,
  ⟨some 39, .load 52 (.tmp 38), none, [32, 33, 4]⟩,
  ⟨some 4, .assign (.tmp 33), none, [34, 35, 36, 37, 38, 39]⟩,
  ⟨none, .store 52 (.tmp 5) (.tmp 39), none, []⟩,
  ⟨some 6, .assign (.const .nilIface), none, []⟩] [4, 5, 6, 7, 8, 9, 12, 14, 18, 31, 32, 33]) .ret)))))))
theorem s30 : TextK Proofs.Tryz.prog 0 30 40 [ResultVar.tmp 4, ResultVar.cell 5 52, ResultVar.tmp 6] c30 := .mk' Proofs.Tryz.f30 _ (by kernel_rfl) rfl rfl rfl (by kernel_rfl) rfl (by kernel_rfl)
def c7 : SC := (.seq (.reg [⟨some 1, .box 27 (.tmp 0), none, []⟩,
  ⟨some 2, .assign (.const (.bool false)), none, []⟩] [1]) (.seq (.reg [⟨some 3, .fieldAddr 27 (.tmp 1) 3, none, []⟩,
  ⟨some 4, .load 9 (.tmp 3), none, []⟩,
  ⟨some 5, .call { callee := .builtin .len, args := #[.tmp 4], argTypes := #[9] }, none, []⟩,
  ⟨some 6, .binOp .leq 3 (.tmp 5) (.const (.int .i64 300)) 3, none, []⟩,
  ⟨some 7, .move (.tmp 6), none, []⟩,
  ⟨some 8, .fieldAddr 27 (.tmp 1) 4, (some (7, true)), []⟩,
  ⟨some 9, .load 9 (.tmp 8), (some (7, true)), []⟩,
  ⟨some 10, .call { callee := .builtin .len, args := #[.tmp 9], argTypes := #[9] }, (some (7, true)), []⟩,
  ⟨some 11, .binOp .leq 3 (.tmp 10) (.const (.int .i64 300)) 3, (some (7, true)), []⟩,
  ⟨some 12, .pick (.tmp 7) (.tmp 11) (.const (.bool false)), none, []⟩,
  ⟨some 13, .move (.tmp 12), none, []⟩,
  ⟨some 14, .fieldAddr 27 (.tmp 1) 5, (some (13, true)), []⟩,
  ⟨some 15, .load 9 (.tmp 14), (some (13, true)), []⟩,
  ⟨some 16, .call { callee := .builtin .len, args := #[.tmp 15], argTypes := #[9] }, (some (13, true)), []⟩,
  ⟨some 17, .binOp .leq 3 (.tmp 16) (.const (.int .i64 400)) 3, (some (13, true)), []⟩,
  ⟨some 18, .pick (.tmp 13) (.tmp 17) (.const (.bool false)), none, []⟩,
  ⟨some 19, .move (.tmp 18), none, []⟩,
  ⟨some 20, .fieldAddr 27 (.tmp 1) 13, (some (19, true)), []⟩,
  ⟨some 21, .load 9 (.tmp 20), (some (19, true)), []⟩,
  ⟨some 22, .call { callee := .builtin .len, args := #[.tmp 21], argTypes := #[9] }, (some (19, true)), []⟩,
  ⟨some 23, .binOp .leq 3 (.tmp 22) (.const (.int .i64 300)) 3, (some (19, true)), []⟩,
  ⟨some 24, .pick (.tmp 19) (.tmp 23) (.const (.bool false)), none, []⟩,
  ⟨some 25, .move (.tmp 24), none, []⟩,
  ⟨some 26, .fieldAddr 27 (.tmp 1) 10, (some (25, true)), []⟩,
  ⟨some 27, .load 23 (.tmp 26), (some (25, true)), []⟩,
  ⟨some 28, .call { callee := .builtin .len, args := #[.tmp 27], argTypes := #[23] }, (some (25, true)), []⟩,
  ⟨some 29, .binOp .leq 3 (.tmp 28) (.const (.int .i64 60)) 3, (some (25, true)), []⟩,
  ⟨some 30, .pick (.tmp 25) (.tmp 29) (.const (.bool false)), none, []⟩,
  ⟨some 2, .assign (.tmp 30), none, []⟩] [2, 6, 7, 11, 12, 13, 17, 18, 19, 23, 24, 25, 29, 30]) .ret))
theorem s7 : TextK Proofs.Tryz.prog 0 7 31 [ResultVar.tmp 2] c7 := .mk' Proofs.Tryz.f7 _ (by kernel_rfl) rfl rfl rfl (by kernel_rfl) rfl (by kernel_rfl)
def nmErr : Bad := (bs [110, 97, 109, 101], 0, 8)
def ptErr : Bad := (bs [112, 97, 114, 116], 1, 8)
theorem anamed_ok (m : Image) (q : Req) (hl : m.topics.length ≤ 1000000) : ACall pg 53 [encM m, encQ q] (.tup [encT ((m.named q.name).getD zT), errO (if (m.named q.name).isSome then none else some nmErr)]) := by
  refine s53.call mo (by simp) fun hxs => ?_
  clear hxs
  have hn := iNamed_ok m q.name hl
  unfold c53
  cases h1 : m.named q.name with
  | none =>
    rw [h1] at hn
    simp only [Option.getD_none, Option.isSome_none] at hn ⊢
    repeat' first | (with_reducible first | refine fS ?_ | refine fR ?_ | refine fQ ?_ | refine fT ?_ | refine awRet ?_) | ((with_reducible refine awReg fun K hok hK => ?_); clear hok; (try simp (maxSteps := 10000000) (disch := first | omega | simp) []); (repeat' first | (with_reducible refine hK _ (by simp) ?_) | ((first | ((with_reducible refine callS' fun K2 hK2 => ?_); (try simp (maxSteps := 10000000) (disch := first | omega | simp) []); (first | refine hK2 _ _ hn rfl fun hk9 => ?_ | refine hK2 _ _ (new_ok _ _ _) rfl fun hk9 => ?_); clear hk9; clear hK2 K2) | ((with_reducible refine callF' fun K2 hK2 => ?_); (try simp (maxSteps := 10000000) (disch := first | omega | simp) []); (first | refine hK2 _ _ _ hn fun _ => ?_ | refine hK2 _ _ _ (new_ok _ _ _) fun _ => ?_); clear hK2 K2)); (try simp (maxSteps := 10000000) (disch := first | omega | simp) []))) <;> clear hK K) | ((with_reducible refine awCond fun A B hA hB => ?_); simp (maxSteps := 10000000) (disch := first | omega | simp) []; (first | refine ⟨fun h => hA ?_, fun h => hB ?_⟩ | refine hA ?_ | refine hB ?_) <;> (clear hA hB A B; (try (exfalso; omega))))
    all_goals (refine aEnR (aRes [true] fun K hK => ?_); simp (maxSteps := 10000000) (disch := first | omega | simp) [zT, nmErr]; refine hK _ ?_ (by simp); clear hK; first | done | (simp (maxSteps := 10000000) (disch := first | omega | simp) [zT, nmErr, *]; done) | (simp (maxSteps := 10000000) (disch := first | omega | simp) [zT, nmErr, *]; omega) | (simp_all [zT, nmErr]; done) | (simp_all [zT, nmErr]; omega))
  | some t =>
    rw [h1] at hn
    simp only [Option.getD_some, Option.isSome_some] at hn ⊢
    repeat' first | (with_reducible first | refine fS ?_ | refine fR ?_ | refine fQ ?_ | refine fT ?_ | refine awRet ?_) | ((with_reducible refine awReg fun K hok hK => ?_); clear hok; (try simp (maxSteps := 10000000) (disch := first | omega | simp) []); (repeat' first | (with_reducible refine hK _ (by simp) ?_) | ((first | ((with_reducible refine callS' fun K2 hK2 => ?_); (try simp (maxSteps := 10000000) (disch := first | omega | simp) []); (refine hK2 _ _ hn rfl fun hk9 => ?_); clear hk9; clear hK2 K2) | ((with_reducible refine callF' fun K2 hK2 => ?_); (try simp (maxSteps := 10000000) (disch := first | omega | simp) []); (refine hK2 _ _ _ hn fun _ => ?_); clear hK2 K2)); (try simp (maxSteps := 10000000) (disch := first | omega | simp) []))) <;> clear hK K) | ((with_reducible refine awCond fun A B hA hB => ?_); simp (maxSteps := 10000000) (disch := first | omega | simp) []; (first | refine ⟨fun h => hA ?_, fun h => hB ?_⟩ | refine hA ?_ | refine hB ?_) <;> (clear hA hB A B; (try (exfalso; omega))))
    all_goals (refine aEnR (aRes [true] fun K hK => ?_); simp (maxSteps := 10000000) (disch := first | omega | simp) []; refine hK _ ?_ (by simp); clear hK; first | done | (simp (maxSteps := 10000000) (disch := first | omega | simp) [*]; done) | (simp (maxSteps := 10000000) (disch := first | omega | simp) [*]; omega) | (simp_all []; done) | (simp_all []; omega))
def Image.at (m : Image) (q : Req) : Option (Topic × Nat × Part) :=
  match m.named q.name with
  | none => none
  | some t => if 0 ≤ q.part ∧ q.part < t.parts.length then some (t, q.part.toNat, t.parts.getD q.part.toNat zP) else none
def Image.atE (m : Image) (q : Req) : Option Bad :=
  if (m.named q.name).isSome = false then some nmErr else if (m.at q).isSome = false then some ptErr else none
def Image.atI (m : Image) (q : Req) : Int := match m.at q with | some x => x.1.id | none => 0
def Image.atP (m : Image) (q : Req) : Part := match m.at q with | some x => x.2.2 | none => zP
theorem where_ok (m : Image) (q : Req) (hl : m.topics.length ≤ 1000000) (hp : ∀ t ∈ m.topics, t.parts.length ≤ 1000000) : ACall pg 30 [encM m, encQ q] (.tup [I (m.atI q), encP (m.atP q), errO (m.atE q)]) := by
  refine s30.call mo (by simp) fun hxs => ?_
  clear hxs
  have hn := anamed_ok m q hl
  unfold c30
  cases h1 : m.named q.name with
  | none =>
    have e1 : m.at q = none := by unfold Image.at; rw [h1]
    have e2 : m.atE q = some nmErr := by unfold Image.atE; rw [h1]; rfl
    have e3 : m.atI q = 0 := by unfold Image.atI; rw [e1]
    have e4 : m.atP q = zP := by unfold Image.atP; rw [e1]
    rw [e2, e3, e4]
    rw [h1] at hn
    simp only [Option.getD_none, Option.isSome_none, Bool.false_eq_true, if_false, nmErr] at hn
    repeat' first | (with_reducible first | refine fS ?_ | refine fR ?_ | refine fQ ?_ | refine fT ?_ | refine awRet ?_) | ((with_reducible refine awReg fun K hok hK => ?_); clear hok; (try simp (maxSteps := 10000000) (disch := first | omega | simp) [nmErr, isConst]); (repeat' first | (with_reducible refine hK _ (by simp) ?_) | ((first | ((with_reducible refine callS' fun K2 hK2 => ?_); (try simp (maxSteps := 10000000) (disch := first | omega | simp) [nmErr, isConst]); (refine hK2 _ _ hn rfl fun hk9 => ?_); clear hk9; clear hK2 K2) | ((with_reducible refine callF' fun K2 hK2 => ?_); (try simp (maxSteps := 10000000) (disch := first | omega | simp) [nmErr, isConst]); (refine hK2 _ _ _ hn fun _ => ?_); clear hK2 K2) | ((with_reducible refine sideQ' ?_ ?_ fun K2 hK2 => ?_); exact rfl; exact rfl; (try simp (maxSteps := 10000000) (disch := first | omega | simp) [nmErr, isConst]); with_reducible refine hK2 _ _ ?_; clear hK2 K2) | ((with_reducible refine side' ?_ fun K2 hK2 => ?_); exact rfl; (try simp (maxSteps := 10000000) (disch := first | omega | simp) [nmErr, isConst]); refine hK2 _ _ (by simp) ?_; clear hK2 K2)); (try simp (maxSteps := 10000000) (disch := first | omega | simp) [nmErr, isConst]))) <;> clear hK K) | ((with_reducible refine awCond fun A B hA hB => ?_); simp (maxSteps := 10000000) (disch := first | omega | simp) [nmErr, isConst]; (first | refine ⟨fun h => hA ?_, fun h => hB ?_⟩ | refine hA ?_ | refine hB ?_) <;> (clear hA hB A B; (try (exfalso; omega))))
    all_goals (refine aEnR (aRes [true] fun K hK => ?_); simp (maxSteps := 10000000) (disch := first | omega | simp) [zP, nmErr]; refine hK _ ?_ (by simp); clear hK; first | done | (simp (maxSteps := 10000000) (disch := first | omega | simp) [zP, nmErr, *]; done) | (simp (maxSteps := 10000000) (disch := first | omega | simp) [zP, nmErr, *]; omega) | (simp_all [zP, nmErr]; done) | (simp_all [zP, nmErr]; omega))
  | some t =>
    have htm := List.mem_of_find?_eq_some h1
    have hpl := hp t htm
    rw [h1] at hn
    simp only [Option.getD_some, Option.isSome_some, if_true] at hn
    by_cases h2 : 0 ≤ q.part ∧ q.part < t.parts.length
    · obtain ⟨k, hk⟩ := Int.eq_ofNat_of_zero_le h2.1
      have hkl : k < t.parts.length := by omega
      have hg : t.parts.getD k zP = t.parts[k] := by rw [List.getD_eq_getElem?_getD, List.getElem?_eq_getElem hkl]; rfl
      have e1 : m.at q = some (t, k, t.parts[k]) := by unfold Image.at; rw [h1]; simp only; rw [if_pos h2, hk]; simp only [Int.toNat_natCast, hg]
      have e2 : m.atE q = none := by unfold Image.atE; rw [h1, e1]; rfl
      have e3 : m.atI q = t.id := by unfold Image.atI; rw [e1]
      have e4 : m.atP q = t.parts[k] := by unfold Image.atP; rw [e1]
      rw [e2, e3, e4]
      simp only [encQ_eq, hk] at hn
      repeat' first | (with_reducible first | refine fS ?_ | refine fR ?_ | refine fQ ?_ | refine fT ?_ | refine awRet ?_) | ((with_reducible refine awReg fun K hok hK => ?_); clear hok; (try simp (maxSteps := 10000000) (disch := first | omega | simp) [hk, isConst]); (repeat' first | (with_reducible refine hK _ (by simp) ?_) | ((first | ((with_reducible refine callS' fun K2 hK2 => ?_); (try simp (maxSteps := 10000000) (disch := first | omega | simp) [hk, isConst]); (refine hK2 _ _ hn rfl fun hk9 => ?_); clear hk9; clear hK2 K2) | ((with_reducible refine callF' fun K2 hK2 => ?_); (try simp (maxSteps := 10000000) (disch := first | omega | simp) [hk, isConst]); (refine hK2 _ _ _ hn fun _ => ?_); clear hK2 K2) | ((with_reducible refine sideQ' ?_ ?_ fun K2 hK2 => ?_); exact rfl; exact rfl; (try simp (maxSteps := 10000000) (disch := first | omega | simp) [hk, isConst]); with_reducible refine hK2 _ _ ?_; clear hK2 K2) | ((with_reducible refine side' ?_ fun K2 hK2 => ?_); exact rfl; (try simp (maxSteps := 10000000) (disch := first | omega | simp) [hk, isConst]); refine hK2 _ _ (by simp) ?_; clear hK2 K2)); (try simp (maxSteps := 10000000) (disch := first | omega | simp) [hk, isConst]))) <;> clear hK K) | ((with_reducible refine awCond fun A B hA hB => ?_); simp (maxSteps := 10000000) (disch := first | omega | simp) [hk, isConst]; (first | refine ⟨fun h => hA ?_, fun h => hB ?_⟩ | refine hA ?_ | refine hB ?_) <;> (clear hA hB A B; (try (exfalso; omega))))
      all_goals (refine aEnR (aRes [true] fun K hK => ?_); simp (maxSteps := 10000000) (disch := first | omega | simp) []; refine hK _ ?_ (by simp); clear hK; first | done | (simp (maxSteps := 10000000) (disch := first | omega | simp) [*]; done) | (simp (maxSteps := 10000000) (disch := first | omega | simp) [*]; omega) | (simp_all []; done) | (simp_all []; omega))
    · have e1 : m.at q = none := by unfold Image.at; rw [h1]; simp only; rw [if_neg h2]
      have e2 : m.atE q = some ptErr := by unfold Image.atE; rw [h1, e1]; rfl
      have e3 : m.atI q = 0 := by unfold Image.atI; rw [e1]
      have e4 : m.atP q = zP := by unfold Image.atP; rw [e1]
      rw [e2, e3, e4]
      by_cases h3 : q.part < 0
      · repeat' first | (with_reducible first | refine fS ?_ | refine fR ?_ | refine fQ ?_ | refine fT ?_ | refine awRet ?_) | ((with_reducible refine awReg fun K hok hK => ?_); clear hok; (try simp (maxSteps := 10000000) (disch := first | omega | simp) [h3, isConst]); (repeat' first | (with_reducible refine hK _ (by simp) ?_) | ((first | ((with_reducible refine callS' fun K2 hK2 => ?_); (try simp (maxSteps := 10000000) (disch := first | omega | simp) [h3, isConst]); (first | refine hK2 _ _ hn rfl fun hk9 => ?_ | refine hK2 _ _ (new_ok _ _ _) rfl fun hk9 => ?_); clear hk9; clear hK2 K2) | ((with_reducible refine callF' fun K2 hK2 => ?_); (try simp (maxSteps := 10000000) (disch := first | omega | simp) [h3, isConst]); (first | refine hK2 _ _ _ hn fun _ => ?_ | refine hK2 _ _ _ (new_ok _ _ _) fun _ => ?_); clear hK2 K2) | ((with_reducible refine sideQ' ?_ ?_ fun K2 hK2 => ?_); exact rfl; exact rfl; (try simp (maxSteps := 10000000) (disch := first | omega | simp) [h3, isConst]); with_reducible refine hK2 _ _ ?_; clear hK2 K2) | ((with_reducible refine side' ?_ fun K2 hK2 => ?_); exact rfl; (try simp (maxSteps := 10000000) (disch := first | omega | simp) [h3, isConst]); refine hK2 _ _ (by simp) ?_; clear hK2 K2)); (try simp (maxSteps := 10000000) (disch := first | omega | simp) [h3, isConst]))) <;> clear hK K) | ((with_reducible refine awCond fun A B hA hB => ?_); simp (maxSteps := 10000000) (disch := first | omega | simp) [h3, isConst]; (first | refine ⟨fun h => hA ?_, fun h => hB ?_⟩ | refine hA ?_ | refine hB ?_) <;> (clear hA hB A B; (try (exfalso; omega))))
        all_goals (refine aEnR (aRes [true] fun K hK => ?_); simp (maxSteps := 10000000) (disch := first | omega | simp) [zP, ptErr]; refine hK _ ?_ (by simp); clear hK; first | done | (simp (maxSteps := 10000000) (disch := first | omega | simp) [zP, ptErr, *]; done) | (simp (maxSteps := 10000000) (disch := first | omega | simp) [zP, ptErr, *]; omega) | (simp_all [zP, ptErr]; done) | (simp_all [zP, ptErr]; omega))
      · have h4 : (t.parts.length : Int) ≤ q.part := by omega
        repeat' first | (with_reducible first | refine fS ?_ | refine fR ?_ | refine fQ ?_ | refine fT ?_ | refine awRet ?_) | ((with_reducible refine awReg fun K hok hK => ?_); clear hok; (try simp (maxSteps := 10000000) (disch := first | omega | simp) [h3, h4, isConst]); (repeat' first | (with_reducible refine hK _ (by simp) ?_) | ((first | ((with_reducible refine callS' fun K2 hK2 => ?_); (try simp (maxSteps := 10000000) (disch := first | omega | simp) [h3, h4, isConst]); (first | refine hK2 _ _ hn rfl fun hk9 => ?_ | refine hK2 _ _ (new_ok _ _ _) rfl fun hk9 => ?_); clear hk9; clear hK2 K2) | ((with_reducible refine callF' fun K2 hK2 => ?_); (try simp (maxSteps := 10000000) (disch := first | omega | simp) [h3, h4, isConst]); (first | refine hK2 _ _ _ hn fun _ => ?_ | refine hK2 _ _ _ (new_ok _ _ _) fun _ => ?_); clear hK2 K2) | ((with_reducible refine sideQ' ?_ ?_ fun K2 hK2 => ?_); exact rfl; exact rfl; (try simp (maxSteps := 10000000) (disch := first | omega | simp) [h3, h4, isConst]); with_reducible refine hK2 _ _ ?_; clear hK2 K2) | ((with_reducible refine side' ?_ fun K2 hK2 => ?_); exact rfl; (try simp (maxSteps := 10000000) (disch := first | omega | simp) [h3, h4, isConst]); refine hK2 _ _ (by simp) ?_; clear hK2 K2)); (try simp (maxSteps := 10000000) (disch := first | omega | simp) [h3, h4, isConst]))) <;> clear hK K) | ((with_reducible refine awCond fun A B hA hB => ?_); simp (maxSteps := 10000000) (disch := first | omega | simp) [h3, h4, isConst]; (first | refine ⟨fun h => hA ?_, fun h => hB ?_⟩ | refine hA ?_ | refine hB ?_) <;> (clear hA hB A B; (try (exfalso; omega))))
        all_goals (refine aEnR (aRes [true] fun K hK => ?_); simp (maxSteps := 10000000) (disch := first | omega | simp) [zP, ptErr]; refine hK _ ?_ (by simp); clear hK; first | done | (simp (maxSteps := 10000000) (disch := first | omega | simp) [zP, ptErr, *]; done) | (simp (maxSteps := 10000000) (disch := first | omega | simp) [zP, ptErr, *]; omega) | (simp_all [zP, ptErr]; done) | (simp_all [zP, ptErr]; omega))
def Req.short (q : Req) : Bool := decide (q.name.size ≤ 300) && decide (q.key.size ≤ 300) && decide (q.value.size ≤ 400) && decide (q.rack.size ≤ 300) && decide (q.ids.length ≤ 60)
theorem short_ok (q : Req) : ACall pg 7 [encQ q] (B q.short) := by
  refine s7.call mo (by simp) fun hxs => ?_
  clear hxs
  unfold c7
  by_cases h1 : (q.name.size : Int) ≤ 300
  · by_cases h2 : (q.key.size : Int) ≤ 300
    · by_cases h3 : (q.value.size : Int) ≤ 400
      · by_cases h4 : (q.rack.size : Int) ≤ 300
        · have e : q.short = decide ((q.ids.length : Int) ≤ 60) := by
            unfold Req.short
            rw [decide_eq_true (show q.name.size ≤ 300 by omega), decide_eq_true (show q.key.size ≤ 300 by omega), decide_eq_true (show q.value.size ≤ 400 by omega), decide_eq_true (show q.rack.size ≤ 300 by omega)]
            simp only [Bool.true_and]
            congr 1
            apply propext
            omega
          rw [e]
          repeat' first | (with_reducible first | refine awRet ?_) | ((with_reducible refine awReg fun K hok hK => ?_); clear hok; (try simp (maxSteps := 10000000) (disch := first | omega | simp) [h1, h2, h3, h4]); (repeat' first | (with_reducible refine hK _ (by simp) ?_)) <;> clear hK K) | ((with_reducible refine awCond fun A B hA hB => ?_); simp (maxSteps := 10000000) (disch := first | omega | simp) [h1, h2, h3, h4]; (first | refine ⟨fun h => hA ?_, fun h => hB ?_⟩ | refine hA ?_ | refine hB ?_) <;> (clear hA hB A B; (try (exfalso; omega))))
          all_goals (refine aEnR (aRes [] fun K hK => ?_); simp (maxSteps := 10000000) (disch := first | omega | simp) []; refine hK _ ?_ (by simp); clear hK; first | done | (simp (maxSteps := 10000000) (disch := first | omega | simp) [*]; done) | (simp (maxSteps := 10000000) (disch := first | omega | simp) [*]; omega) | (simp_all []; done) | (simp_all []; omega))
        · have e : q.short = false := by unfold Req.short; rw [decide_eq_false (show ¬ q.rack.size ≤ 300 by omega)]; simp
          rw [e]
          repeat' first | (with_reducible first | refine awRet ?_) | ((with_reducible refine awReg fun K hok hK => ?_); clear hok; (try simp (maxSteps := 10000000) (disch := first | omega | simp) [h1, h2, h3, h4]); (repeat' first | (with_reducible refine hK _ (by simp) ?_)) <;> clear hK K) | ((with_reducible refine awCond fun A B hA hB => ?_); simp (maxSteps := 10000000) (disch := first | omega | simp) [h1, h2, h3, h4]; (first | refine ⟨fun h => hA ?_, fun h => hB ?_⟩ | refine hA ?_ | refine hB ?_) <;> (clear hA hB A B; (try (exfalso; omega))))
          all_goals (refine aEnR (aRes [] fun K hK => ?_); simp (maxSteps := 10000000) (disch := first | omega | simp) []; refine hK _ ?_ (by simp); clear hK; first | done | (simp (maxSteps := 10000000) (disch := first | omega | simp) [*]; done) | (simp (maxSteps := 10000000) (disch := first | omega | simp) [*]; omega) | (simp_all []; done) | (simp_all []; omega))
      · have e : q.short = false := by unfold Req.short; rw [decide_eq_false (show ¬ q.value.size ≤ 400 by omega)]; simp
        rw [e]
        repeat' first | (with_reducible first | refine awRet ?_) | ((with_reducible refine awReg fun K hok hK => ?_); clear hok; (try simp (maxSteps := 10000000) (disch := first | omega | simp) [h1, h2, h3]); (repeat' first | (with_reducible refine hK _ (by simp) ?_)) <;> clear hK K) | ((with_reducible refine awCond fun A B hA hB => ?_); simp (maxSteps := 10000000) (disch := first | omega | simp) [h1, h2, h3]; (first | refine ⟨fun h => hA ?_, fun h => hB ?_⟩ | refine hA ?_ | refine hB ?_) <;> (clear hA hB A B; (try (exfalso; omega))))
        all_goals (refine aEnR (aRes [] fun K hK => ?_); simp (maxSteps := 10000000) (disch := first | omega | simp) []; refine hK _ ?_ (by simp); clear hK; first | done | (simp (maxSteps := 10000000) (disch := first | omega | simp) [*]; done) | (simp (maxSteps := 10000000) (disch := first | omega | simp) [*]; omega) | (simp_all []; done) | (simp_all []; omega))
    · have e : q.short = false := by unfold Req.short; rw [decide_eq_false (show ¬ q.key.size ≤ 300 by omega)]; simp
      rw [e]
      repeat' first | (with_reducible first | refine awRet ?_) | ((with_reducible refine awReg fun K hok hK => ?_); clear hok; (try simp (maxSteps := 10000000) (disch := first | omega | simp) [h1, h2]); (repeat' first | (with_reducible refine hK _ (by simp) ?_)) <;> clear hK K) | ((with_reducible refine awCond fun A B hA hB => ?_); simp (maxSteps := 10000000) (disch := first | omega | simp) [h1, h2]; (first | refine ⟨fun h => hA ?_, fun h => hB ?_⟩ | refine hA ?_ | refine hB ?_) <;> (clear hA hB A B; (try (exfalso; omega))))
      all_goals (refine aEnR (aRes [] fun K hK => ?_); simp (maxSteps := 10000000) (disch := first | omega | simp) []; refine hK _ ?_ (by simp); clear hK; first | done | (simp (maxSteps := 10000000) (disch := first | omega | simp) [*]; done) | (simp (maxSteps := 10000000) (disch := first | omega | simp) [*]; omega) | (simp_all []; done) | (simp_all []; omega))
  · have e : q.short = false := by unfold Req.short; rw [decide_eq_false (show ¬ q.name.size ≤ 300 by omega)]; simp
    rw [e]
    repeat' first | (with_reducible first | refine awRet ?_) | ((with_reducible refine awReg fun K hok hK => ?_); clear hok; (try simp (maxSteps := 10000000) (disch := first | omega | simp) [h1]); (repeat' first | (with_reducible refine hK _ (by simp) ?_)) <;> clear hK K) | ((with_reducible refine awCond fun A B hA hB => ?_); simp (maxSteps := 10000000) (disch := first | omega | simp) [h1]; (first | refine ⟨fun h => hA ?_, fun h => hB ?_⟩ | refine hA ?_ | refine hB ?_) <;> (clear hA hB A B; (try (exfalso; omega))))
    all_goals (refine aEnR (aRes [] fun K hK => ?_); simp (maxSteps := 10000000) (disch := first | omega | simp) []; refine hK _ ?_ (by simp); clear hK; first | done | (simp (maxSteps := 10000000) (disch := first | omega | simp) [*]; done) | (simp (maxSteps := 10000000) (disch := first | omega | simp) [*]; omega) | (simp_all []; done) | (simp_all []; omega))
end
end Go.Am
