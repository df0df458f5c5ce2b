/- Part of the proof of a law of moving. -/
import Derived.Test.YtmnheledelnbfaaGreatDoorQVB
set_option linter.all false
set_option maxRecDepth 100000
set_option maxHeartbeats 0
namespace Go.Am
open Go
noncomputable section
structure Req where
  client : Int
  serial : Int
  kind : Int
  name : ByteArray
  key : ByteArray
  value : ByteArray
  flag : Bool
  parts : Int
  replicas : Int
  part : Int
  ids : List Int
  broker : Int
  epoch : Int
  rack : ByteArray
  w1 : Int
  w2 : Int
  w3 : Int
  w4 : Bool
  w5 : Bool
def encQ (q : Req) : V := .agg [I q.client, I q.serial, I q.kind, St q.name, St q.key, St q.value, B q.flag, I q.parts, I q.replicas, I q.part, Li q.ids, I q.broker, I q.epoch, St q.rack, I q.w1, I q.w2, I q.w3, B q.w4, B q.w5]
@[simp] theorem encQ_eq (q : Req) : encQ q = .agg [I q.client, I q.serial, I q.kind, St q.name, St q.key, St q.value, B q.flag, I q.parts, I q.replicas, I q.part, Li q.ids, I q.broker, I q.epoch, St q.rack, I q.w1, I q.w2, I q.w3, B q.w4, B q.w5] := rfl
def c64 : SC := (.seq (.reg [oO 2 36 0,oO 3 27 1,oA 4 51,oD 5 (.assign (.const .nilIface))] [2,3,4,18]) (.seq (.reg [oL 9 36 2,oF 10 27 3 3,oL 11 9 10,oC 12 91 #[.tmp 9,.tmp 11] #[36,9],oM 8 12,oX 13 8 0,oX 14 8 1,oA 6 51,oS 51 6 13,oG 7 14] [4,6,7,8,12,14,18]) (.seq (.reg [oM 15 7,oD 16 (.unOp .not 4 (.tmp 15))] [4,6,16,18]) (.seq (.cond (.tmp 16) (.seq (.reg [oD 17 (.build 51 #[]),oD 18 (.call { callee := .value (.func 33),args := #[.const (.string ⟨#[110,97,109,101]⟩),.const (.int .i64 0),.const (.int .i64 8)],argTypes := #[9,3,42] }),oS 51 4 17,oG 5 18] [4,5,18]) .ret) .skip) (.seq (.reg [oL 19 51 6,oS 51 4 19,oD 5 (.assign (.const .nilIface))] [4,5,18]) .ret)))))
theorem s64 : TextK Proofs.Tryz.prog 0 64 20 [ResultVar.cell 4 51, ResultVar.tmp 5] c64 := .mk' Proofs.Tryz.f64 _ (by kernel_rfl) rfl rfl rfl (by kernel_rfl) rfl (by kernel_rfl)
def c34 : SC := (.seq (.reg [oO 2 36 0,oO 3 27 1,oI 4 0,oA 5 53,oD 6 (.assign (.const .nilIface))] [2,3,5,7,8,9,12,14,18,31,32,33]) (.seq (.reg [oL 10 36 2,oL 11 27 3,oC 12 64 #[.tmp 10,.tmp 11] #[36,27],oM 9 12,oX 13 9 0,oX 14 9 1,oA 7 51,oS 51 7 13,oG 8 14] [3,5,7,8,9,12,14,18,31,32,33]) (.seq (.reg [oM 15 8,oD 16 (.binOp .neq 39 (.tmp 15) (.const .nilIface) 39)] [3,5,7,8,9,12,14,16,18,31,32,33]) (.seq (.cond (.tmp 16) (.seq (.reg [oD 17 (.build 53 #[]),oM 18 8,oI 4 0,oS 53 5 17,oG 6 18] [4,5,6,7,8,9,12,14,18,31,32,33]) .ret) .skip) (.seq (.reg [oF 19 27 3 9,oL 20 3 19,oK 21 .lss 3 20 0 3,oM 22 21,oW 22 false (oF 23 27 3 9),oW 22 false (oL 24 3 23),oW 22 false (oF 25 51 7 2),oW 22 false (oL 26 49 25),oW 22 false (oN 27 26 49),oW 22 false (oB 28 .geq 3 24 27 3),oR 29 22 true 28] [3,5,7,8,9,12,14,18,21,22,28,29,31,32,33]) (.seq (.cond (.tmp 29) (.seq (.reg [oD 30 (.build 53 #[]),oD 31 (.call { callee := .value (.func 33),args := #[.const (.string ⟨#[112,97,114,116]⟩),.const (.int .i64 1),.const (.int .i64 8)],argTypes := #[9,3,42] }),oI 4 0,oS 53 5 30,oG 6 31] [4,5,6,7,8,9,12,14,18,31,32,33]) .ret) .skip) (.seq (.reg [oU (oF 32 51 7 0) [34,35,36,37,38,39],oU (oL 33 3 32) [34,35,36,37,38,39],oU (oF 34 51 7 2) [32,33,36,37,4],oU (oL 35 49 34) [32,33,36,37,4],oU (oF 36 27 3 9) [32,33,34,35,4],oU (oL 37 3 36) [32,33,34,35,4],oU (oJ 38 49 35 37) [32,33,4],oU (oL 39 53 38) [32,33,4],oU (oG 4 33) [34,35,36,37,38,39],oS 53 5 39,oD 6 (.assign (.const .nilIface))] [4,5,6,7,8,9,12,14,18,31,32,33]) .ret)))))))
theorem s34 : TextK Proofs.Tryz.prog 0 34 40 [ResultVar.tmp 4, ResultVar.cell 5 53, ResultVar.tmp 6] c34 := .mk' Proofs.Tryz.f34 _ (by kernel_rfl) rfl rfl rfl (by kernel_rfl) rfl (by kernel_rfl)
def c5 : SC := (.seq (.reg [oO 1 27 0,oZ 2 false] [1]) (.seq (.reg [oF 3 27 1 3,oL 4 9 3,oN 5 4 9,oK 6 .leq 3 5 300 3,oM 7 6,oW 7 true (oF 8 27 1 4),oW 7 true (oL 9 9 8),oW 7 true (oN 10 9 9),oW 7 true (oK 11 .leq 3 10 300 3),oQ 12 7 11 false,oM 13 12,oW 13 true (oF 14 27 1 5),oW 13 true (oL 15 9 14),oW 13 true (oN 16 15 9),oW 13 true (oK 17 .leq 3 16 400 3),oQ 18 13 17 false,oM 19 18,oW 19 true (oF 20 27 1 13),oW 19 true (oL 21 9 20),oW 19 true (oN 22 21 9),oW 19 true (oK 23 .leq 3 22 300 3),oQ 24 19 23 false,oM 25 24,oW 25 true (oF 26 27 1 10),oW 25 true (oL 27 23 26),oW 25 true (oN 28 27 23),oW 25 true (oK 29 .leq 3 28 60 3),oQ 30 25 29 false,oG 2 30] [2,6,7,11,12,13,17,18,19,23,24,25,29,30]) .ret))
theorem s5 : TextK Proofs.Tryz.prog 0 5 31 [ResultVar.tmp 2] c5 := .mk' Proofs.Tryz.f5 _ (by kernel_rfl) rfl rfl rfl (by kernel_rfl) rfl (by kernel_rfl)
def nmErr : Bad := (bs [110, 97, 109, 101], 0, 8)
def ptErr : Bad := (bs [112, 97, 114, 116], 1, 8)
theorem anamed_ok (m : Image) (q : Req) (hl : m.topics.length ≤ 1000000) : ACall pg 64 [encM m, encQ q] (.tup [encT ((m.named q.name).getD zT), errO (if (m.named q.name).isSome then none else some nmErr)]) := by
  refine s64.call mo (by simp) fun hxs => ?_
  clear hxs
  have hn := iNamed_ok m q.name hl
  unfold c64; dsimp only [oA, oC, oD, oF, oG, oL, oM, oO, oS, oX]
  cases h1 : m.named q.name with
  | none =>
    rw [h1] at hn
    simp only [Option.getD_none, Option.isSome_none] at hn ⊢
    repeat' first | (with_reducible first | refine fS ?_ | refine fR ?_ | refine fQ ?_ | refine fT ?_ | refine awRet ?_) | ((with_reducible refine awReg fun K hok hK => ?_); clear hok; (try simp (maxSteps := 10000000) (disch := first | omega | simp) []); (repeat' first | (with_reducible refine hK _ (by simp) ?_) | ((first | ((with_reducible refine callS' fun K2 hK2 => ?_); (try simp (maxSteps := 10000000) (disch := first | omega | simp) []); (first | refine hK2 _ _ hn rfl fun hk9 => ?_ | refine hK2 _ _ (new_ok _ _ _) rfl fun hk9 => ?_); clear hk9; clear hK2 K2) | ((with_reducible refine callF' fun K2 hK2 => ?_); (try simp (maxSteps := 10000000) (disch := first | omega | simp) []); (first | refine hK2 _ _ _ hn fun _ => ?_ | refine hK2 _ _ _ (new_ok _ _ _) fun _ => ?_); clear hK2 K2)); (try simp (maxSteps := 10000000) (disch := first | omega | simp) []))) <;> clear hK K) | ((with_reducible refine awCond fun A B hA hB => ?_); simp (maxSteps := 10000000) (disch := first | omega | simp) []; (first | refine ⟨fun h => hA ?_, fun h => hB ?_⟩ | refine hA ?_ | refine hB ?_) <;> (clear hA hB A B; (try (exfalso; omega))))
    all_goals (refine aEnR (aRes [true] fun K hK => ?_); simp (maxSteps := 10000000) (disch := first | omega | simp) [zT, nmErr]; refine hK _ ?_ (by simp); clear hK; first | done | (simp (maxSteps := 10000000) (disch := first | omega | simp) [zT, nmErr, *]; done) | (simp (maxSteps := 10000000) (disch := first | omega | simp) [zT, nmErr, *]; omega) | (simp_all [zT, nmErr]; done) | (simp_all [zT, nmErr]; omega))
  | some t =>
    rw [h1] at hn
    simp only [Option.getD_some, Option.isSome_some] at hn ⊢
    repeat' first | (with_reducible first | refine fS ?_ | refine fR ?_ | refine fQ ?_ | refine fT ?_ | refine awRet ?_) | ((with_reducible refine awReg fun K hok hK => ?_); clear hok; (try simp (maxSteps := 10000000) (disch := first | omega | simp) []); (repeat' first | (with_reducible refine hK _ (by simp) ?_) | ((first | ((with_reducible refine callS' fun K2 hK2 => ?_); (try simp (maxSteps := 10000000) (disch := first | omega | simp) []); (refine hK2 _ _ hn rfl fun hk9 => ?_); clear hk9; clear hK2 K2) | ((with_reducible refine callF' fun K2 hK2 => ?_); (try simp (maxSteps := 10000000) (disch := first | omega | simp) []); (refine hK2 _ _ _ hn fun _ => ?_); clear hK2 K2)); (try simp (maxSteps := 10000000) (disch := first | omega | simp) []))) <;> clear hK K) | ((with_reducible refine awCond fun A B hA hB => ?_); simp (maxSteps := 10000000) (disch := first | omega | simp) []; (first | refine ⟨fun h => hA ?_, fun h => hB ?_⟩ | refine hA ?_ | refine hB ?_) <;> (clear hA hB A B; (try (exfalso; omega))))
    all_goals (refine aEnR (aRes [true] fun K hK => ?_); simp (maxSteps := 10000000) (disch := first | omega | simp) []; refine hK _ ?_ (by simp); clear hK; first | done | (simp (maxSteps := 10000000) (disch := first | omega | simp) [*]; done) | (simp (maxSteps := 10000000) (disch := first | omega | simp) [*]; omega) | (simp_all []; done) | (simp_all []; omega))
def Image.at (m : Image) (q : Req) : Option (Topic × Nat × Part) :=
  match m.named q.name with
  | none => none
  | some t => if 0 ≤ q.part ∧ q.part < t.parts.length then some (t, q.part.toNat, t.parts.getD q.part.toNat zP) else none
def Image.atE (m : Image) (q : Req) : Option Bad :=
  if (m.named q.name).isSome = false then some nmErr else if (m.at q).isSome = false then some ptErr else none
def Image.atI (m : Image) (q : Req) : Int := match m.at q with | some x => x.1.id | none => 0
def Image.atP (m : Image) (q : Req) : Part := match m.at q with | some x => x.2.2 | none => zP
theorem where_ok (m : Image) (q : Req) (hl : m.topics.length ≤ 1000000) (hp : ∀ t ∈ m.topics, t.parts.length ≤ 1000000) : ACall pg 34 [encM m, encQ q] (.tup [I (m.atI q), encP (m.atP q), errO (m.atE q)]) := by
  refine s34.call mo (by simp) fun hxs => ?_
  clear hxs
  have hn := anamed_ok m q hl
  unfold c34; dsimp only [oA, oB, oC, oD, oF, oG, oI, oJ, oK, oL, oM, oN, oO, oR, oS, oU, oW, oX]
  cases h1 : m.named q.name with
  | none =>
    have e1 : m.at q = none := by unfold Image.at; rw [h1]
    have e2 : m.atE q = some nmErr := by unfold Image.atE; rw [h1]; rfl
    have e3 : m.atI q = 0 := by unfold Image.atI; rw [e1]
    have e4 : m.atP q = zP := by unfold Image.atP; rw [e1]
    rw [e2, e3, e4]
    rw [h1] at hn
    simp only [Option.getD_none, Option.isSome_none, Bool.false_eq_true, if_false, nmErr] at hn
    repeat' first | (with_reducible first | refine fS ?_ | refine fR ?_ | refine fQ ?_ | refine fT ?_ | refine awRet ?_) | ((with_reducible refine awReg fun K hok hK => ?_); clear hok; (try simp (maxSteps := 10000000) (disch := first | omega | simp) [nmErr, isConst]); (repeat' first | (with_reducible refine hK _ (by simp) ?_) | ((first | ((with_reducible refine callS' fun K2 hK2 => ?_); (try simp (maxSteps := 10000000) (disch := first | omega | simp) [nmErr, isConst]); (refine hK2 _ _ hn rfl fun hk9 => ?_); clear hk9; clear hK2 K2) | ((with_reducible refine callF' fun K2 hK2 => ?_); (try simp (maxSteps := 10000000) (disch := first | omega | simp) [nmErr, isConst]); (refine hK2 _ _ _ hn fun _ => ?_); clear hK2 K2) | ((with_reducible refine sideQ' ?_ ?_ fun K2 hK2 => ?_); exact rfl; exact rfl; (try simp (maxSteps := 10000000) (disch := first | omega | simp) [nmErr, isConst]); with_reducible refine hK2 _ _ ?_; clear hK2 K2) | ((with_reducible refine side' ?_ fun K2 hK2 => ?_); exact rfl; (try simp (maxSteps := 10000000) (disch := first | omega | simp) [nmErr, isConst]); refine hK2 _ _ (by simp) ?_; clear hK2 K2)); (try simp (maxSteps := 10000000) (disch := first | omega | simp) [nmErr, isConst]))) <;> clear hK K) | ((with_reducible refine awCond fun A B hA hB => ?_); simp (maxSteps := 10000000) (disch := first | omega | simp) [nmErr, isConst]; (first | refine ⟨fun h => hA ?_, fun h => hB ?_⟩ | refine hA ?_ | refine hB ?_) <;> (clear hA hB A B; (try (exfalso; omega))))
    all_goals (refine aEnR (aRes [true] fun K hK => ?_); simp (maxSteps := 10000000) (disch := first | omega | simp) [zP, nmErr]; refine hK _ ?_ (by simp); clear hK; first | done | (simp (maxSteps := 10000000) (disch := first | omega | simp) [zP, nmErr, *]; done) | (simp (maxSteps := 10000000) (disch := first | omega | simp) [zP, nmErr, *]; omega) | (simp_all [zP, nmErr]; done) | (simp_all [zP, nmErr]; omega))
  | some t =>
    have htm := List.mem_of_find?_eq_some h1
    have hpl := hp t htm
    rw [h1] at hn
    simp only [Option.getD_some, Option.isSome_some, if_true] at hn
    by_cases h2 : 0 ≤ q.part ∧ q.part < t.parts.length
    · obtain ⟨k, hk⟩ := Int.eq_ofNat_of_zero_le h2.1
      have hkl : k < t.parts.length := by omega
      have hg : t.parts.getD k zP = t.parts[k] := by rw [List.getD_eq_getElem?_getD, List.getElem?_eq_getElem hkl]; rfl
      have e1 : m.at q = some (t, k, t.parts[k]) := by unfold Image.at; rw [h1]; simp only; rw [if_pos h2, hk]; simp only [Int.toNat_natCast, hg]
      have e2 : m.atE q = none := by unfold Image.atE; rw [h1, e1]; rfl
      have e3 : m.atI q = t.id := by unfold Image.atI; rw [e1]
      have e4 : m.atP q = t.parts[k] := by unfold Image.atP; rw [e1]
      rw [e2, e3, e4]
      simp only [encQ_eq, hk] at hn
      repeat' first | (with_reducible first | refine fS ?_ | refine fR ?_ | refine fQ ?_ | refine fT ?_ | refine awRet ?_) | ((with_reducible refine awReg fun K hok hK => ?_); clear hok; (try simp (maxSteps := 10000000) (disch := first | omega | simp) [hk, isConst]); (repeat' first | (with_reducible refine hK _ (by simp) ?_) | ((first | ((with_reducible refine callS' fun K2 hK2 => ?_); (try simp (maxSteps := 10000000) (disch := first | omega | simp) [hk, isConst]); (refine hK2 _ _ hn rfl fun hk9 => ?_); clear hk9; clear hK2 K2) | ((with_reducible refine callF' fun K2 hK2 => ?_); (try simp (maxSteps := 10000000) (disch := first | omega | simp) [hk, isConst]); (refine hK2 _ _ _ hn fun _ => ?_); clear hK2 K2) | ((with_reducible refine sideQ' ?_ ?_ fun K2 hK2 => ?_); exact rfl; exact rfl; (try simp (maxSteps := 10000000) (disch := first | omega | simp) [hk, isConst]); with_reducible refine hK2 _ _ ?_; clear hK2 K2) | ((with_reducible refine side' ?_ fun K2 hK2 => ?_); exact rfl; (try simp (maxSteps := 10000000) (disch := first | omega | simp) [hk, isConst]); refine hK2 _ _ (by simp) ?_; clear hK2 K2)); (try simp (maxSteps := 10000000) (disch := first | omega | simp) [hk, isConst]))) <;> clear hK K) | ((with_reducible refine awCond fun A B hA hB => ?_); simp (maxSteps := 10000000) (disch := first | omega | simp) [hk, isConst]; (first | refine ⟨fun h => hA ?_, fun h => hB ?_⟩ | refine hA ?_ | refine hB ?_) <;> (clear hA hB A B; (try (exfalso; omega))))
      all_goals (refine aEnR (aRes [true] fun K hK => ?_); simp (maxSteps := 10000000) (disch := first | omega | simp) []; refine hK _ ?_ (by simp); clear hK; first | done | (simp (maxSteps := 10000000) (disch := first | omega | simp) [*]; done) | (simp (maxSteps := 10000000) (disch := first | omega | simp) [*]; omega) | (simp_all []; done) | (simp_all []; omega))
    · have e1 : m.at q = none := by unfold Image.at; rw [h1]; simp only; rw [if_neg h2]
      have e2 : m.atE q = some ptErr := by unfold Image.atE; rw [h1, e1]; rfl
      have e3 : m.atI q = 0 := by unfold Image.atI; rw [e1]
      have e4 : m.atP q = zP := by unfold Image.atP; rw [e1]
      rw [e2, e3, e4]
      by_cases h3 : q.part < 0
      · repeat' first | (with_reducible first | refine fS ?_ | refine fR ?_ | refine fQ ?_ | refine fT ?_ | refine awRet ?_) | ((with_reducible refine awReg fun K hok hK => ?_); clear hok; (try simp (maxSteps := 10000000) (disch := first | omega | simp) [h3, isConst]); (repeat' first | (with_reducible refine hK _ (by simp) ?_) | ((first | ((with_reducible refine callS' fun K2 hK2 => ?_); (try simp (maxSteps := 10000000) (disch := first | omega | simp) [h3, isConst]); (first | refine hK2 _ _ hn rfl fun hk9 => ?_ | refine hK2 _ _ (new_ok _ _ _) rfl fun hk9 => ?_); clear hk9; clear hK2 K2) | ((with_reducible refine callF' fun K2 hK2 => ?_); (try simp (maxSteps := 10000000) (disch := first | omega | simp) [h3, isConst]); (first | refine hK2 _ _ _ hn fun _ => ?_ | refine hK2 _ _ _ (new_ok _ _ _) fun _ => ?_); clear hK2 K2) | ((with_reducible refine sideQ' ?_ ?_ fun K2 hK2 => ?_); exact rfl; exact rfl; (try simp (maxSteps := 10000000) (disch := first | omega | simp) [h3, isConst]); with_reducible refine hK2 _ _ ?_; clear hK2 K2) | ((with_reducible refine side' ?_ fun K2 hK2 => ?_); exact rfl; (try simp (maxSteps := 10000000) (disch := first | omega | simp) [h3, isConst]); refine hK2 _ _ (by simp) ?_; clear hK2 K2)); (try simp (maxSteps := 10000000) (disch := first | omega | simp) [h3, isConst]))) <;> clear hK K) | ((with_reducible refine awCond fun A B hA hB => ?_); simp (maxSteps := 10000000) (disch := first | omega | simp) [h3, isConst]; (first | refine ⟨fun h => hA ?_, fun h => hB ?_⟩ | refine hA ?_ | refine hB ?_) <;> (clear hA hB A B; (try (exfalso; omega))))
        all_goals (refine aEnR (aRes [true] fun K hK => ?_); simp (maxSteps := 10000000) (disch := first | omega | simp) [zP, ptErr]; refine hK _ ?_ (by simp); clear hK; first | done | (simp (maxSteps := 10000000) (disch := first | omega | simp) [zP, ptErr, *]; done) | (simp (maxSteps := 10000000) (disch := first | omega | simp) [zP, ptErr, *]; omega) | (simp_all [zP, ptErr]; done) | (simp_all [zP, ptErr]; omega))
      · have h4 : (t.parts.length : Int) ≤ q.part := by omega
        repeat' first | (with_reducible first | refine fS ?_ | refine fR ?_ | refine fQ ?_ | refine fT ?_ | refine awRet ?_) | ((with_reducible refine awReg fun K hok hK => ?_); clear hok; (try simp (maxSteps := 10000000) (disch := first | omega | simp) [h3, h4, isConst]); (repeat' first | (with_reducible refine hK _ (by simp) ?_) | ((first | ((with_reducible refine callS' fun K2 hK2 => ?_); (try simp (maxSteps := 10000000) (disch := first | omega | simp) [h3, h4, isConst]); (first | refine hK2 _ _ hn rfl fun hk9 => ?_ | refine hK2 _ _ (new_ok _ _ _) rfl fun hk9 => ?_); clear hk9; clear hK2 K2) | ((with_reducible refine callF' fun K2 hK2 => ?_); (try simp (maxSteps := 10000000) (disch := first | omega | simp) [h3, h4, isConst]); (first | refine hK2 _ _ _ hn fun _ => ?_ | refine hK2 _ _ _ (new_ok _ _ _) fun _ => ?_); clear hK2 K2) | ((with_reducible refine sideQ' ?_ ?_ fun K2 hK2 => ?_); exact rfl; exact rfl; (try simp (maxSteps := 10000000) (disch := first | omega | simp) [h3, h4, isConst]); with_reducible refine hK2 _ _ ?_; clear hK2 K2) | ((with_reducible refine side' ?_ fun K2 hK2 => ?_); exact rfl; (try simp (maxSteps := 10000000) (disch := first | omega | simp) [h3, h4, isConst]); refine hK2 _ _ (by simp) ?_; clear hK2 K2)); (try simp (maxSteps := 10000000) (disch := first | omega | simp) [h3, h4, isConst]))) <;> clear hK K) | ((with_reducible refine awCond fun A B hA hB => ?_); simp (maxSteps := 10000000) (disch := first | omega | simp) [h3, h4, isConst]; (first | refine ⟨fun h => hA ?_, fun h => hB ?_⟩ | refine hA ?_ | refine hB ?_) <;> (clear hA hB A B; (try (exfalso; omega))))
        all_goals (refine aEnR (aRes [true] fun K hK => ?_); simp (maxSteps := 10000000) (disch := first | omega | simp) [zP, ptErr]; refine hK _ ?_ (by simp); clear hK; first | done | (simp (maxSteps := 10000000) (disch := first | omega | simp) [zP, ptErr, *]; done) | (simp (maxSteps := 10000000) (disch := first | omega | simp) [zP, ptErr, *]; omega) | (simp_all [zP, ptErr]; done) | (simp_all [zP, ptErr]; omega))
def Req.short (q : Req) : Bool := decide (q.name.size ≤ 300) && decide (q.key.size ≤ 300) && decide (q.value.size ≤ 400) && decide (q.rack.size ≤ 300) && decide (q.ids.length ≤ 60)
theorem short_ok (q : Req) : ACall pg 5 [encQ q] (B q.short) := by
  refine s5.call mo (by simp) fun hxs => ?_
  clear hxs
  unfold c5; dsimp only [oF, oG, oK, oL, oM, oN, oO, oQ, oW, oZ]
  by_cases h1 : (q.name.size : Int) ≤ 300
  · by_cases h2 : (q.key.size : Int) ≤ 300
    · by_cases h3 : (q.value.size : Int) ≤ 400
      · by_cases h4 : (q.rack.size : Int) ≤ 300
        · have e : q.short = decide ((q.ids.length : Int) ≤ 60) := by
            unfold Req.short
            rw [decide_eq_true (show q.name.size ≤ 300 by omega), decide_eq_true (show q.key.size ≤ 300 by omega), decide_eq_true (show q.value.size ≤ 400 by omega), decide_eq_true (show q.rack.size ≤ 300 by omega)]
            simp only [Bool.true_and]
            congr 1
            apply propext
            omega
          rw [e]
          repeat' first | (with_reducible first | refine awRet ?_) | ((with_reducible refine awReg fun K hok hK => ?_); clear hok; (try simp (maxSteps := 10000000) (disch := first | omega | simp) [h1, h2, h3, h4]); (repeat' first | (with_reducible refine hK _ (by simp) ?_)) <;> clear hK K) | ((with_reducible refine awCond fun A B hA hB => ?_); simp (maxSteps := 10000000) (disch := first | omega | simp) [h1, h2, h3, h4]; (first | refine ⟨fun h => hA ?_, fun h => hB ?_⟩ | refine hA ?_ | refine hB ?_) <;> (clear hA hB A B; (try (exfalso; omega))))
          all_goals (refine aEnR (aRes [] fun K hK => ?_); simp (maxSteps := 10000000) (disch := first | omega | simp) []; refine hK _ ?_ (by simp); clear hK; first | done | (simp (maxSteps := 10000000) (disch := first | omega | simp) [*]; done) | (simp (maxSteps := 10000000) (disch := first | omega | simp) [*]; omega) | (simp_all []; done) | (simp_all []; omega))
        · have e : q.short = false := by unfold Req.short; rw [decide_eq_false (show ¬ q.rack.size ≤ 300 by omega)]; simp
          rw [e]
          repeat' first | (with_reducible first | refine awRet ?_) | ((with_reducible refine awReg fun K hok hK => ?_); clear hok; (try simp (maxSteps := 10000000) (disch := first | omega | simp) [h1, h2, h3, h4]); (repeat' first | (with_reducible refine hK _ (by simp) ?_)) <;> clear hK K) | ((with_reducible refine awCond fun A B hA hB => ?_); simp (maxSteps := 10000000) (disch := first | omega | simp) [h1, h2, h3, h4]; (first | refine ⟨fun h => hA ?_, fun h => hB ?_⟩ | refine hA ?_ | refine hB ?_) <;> (clear hA hB A B; (try (exfalso; omega))))
          all_goals (refine aEnR (aRes [] fun K hK => ?_); simp (maxSteps := 10000000) (disch := first | omega | simp) []; refine hK _ ?_ (by simp); clear hK; first | done | (simp (maxSteps := 10000000) (disch := first | omega | simp) [*]; done) | (simp (maxSteps := 10000000) (disch := first | omega | simp) [*]; omega) | (simp_all []; done) | (simp_all []; omega))
      · have e : q.short = false := by unfold Req.short; rw [decide_eq_false (show ¬ q.value.size ≤ 400 by omega)]; simp
        rw [e]
        repeat' first | (with_reducible first | refine awRet ?_) | ((with_reducible refine awReg fun K hok hK => ?_); clear hok; (try simp (maxSteps := 10000000) (disch := first | omega | simp) [h1, h2, h3]); (repeat' first | (with_reducible refine hK _ (by simp) ?_)) <;> clear hK K) | ((with_reducible refine awCond fun A B hA hB => ?_); simp (maxSteps := 10000000) (disch := first | omega | simp) [h1, h2, h3]; (first | refine ⟨fun h => hA ?_, fun h => hB ?_⟩ | refine hA ?_ | refine hB ?_) <;> (clear hA hB A B; (try (exfalso; omega))))
        all_goals (refine aEnR (aRes [] fun K hK => ?_); simp (maxSteps := 10000000) (disch := first | omega | simp) []; refine hK _ ?_ (by simp); clear hK; first | done | (simp (maxSteps := 10000000) (disch := first | omega | simp) [*]; done) | (simp (maxSteps := 10000000) (disch := first | omega | simp) [*]; omega) | (simp_all []; done) | (simp_all []; omega))
    · have e : q.short = false := by unfold Req.short; rw [decide_eq_false (show ¬ q.key.size ≤ 300 by omega)]; simp
      rw [e]
      repeat' first | (with_reducible first | refine awRet ?_) | ((with_reducible refine awReg fun K hok hK => ?_); clear hok; (try simp (maxSteps := 10000000) (disch := first | omega | simp) [h1, h2]); (repeat' first | (with_reducible refine hK _ (by simp) ?_)) <;> clear hK K) | ((with_reducible refine awCond fun A B hA hB => ?_); simp (maxSteps := 10000000) (disch := first | omega | simp) [h1, h2]; (first | refine ⟨fun h => hA ?_, fun h => hB ?_⟩ | refine hA ?_ | refine hB ?_) <;> (clear hA hB A B; (try (exfalso; omega))))
      all_goals (refine aEnR (aRes [] fun K hK => ?_); simp (maxSteps := 10000000) (disch := first | omega | simp) []; refine hK _ ?_ (by simp); clear hK; first | done | (simp (maxSteps := 10000000) (disch := first | omega | simp) [*]; done) | (simp (maxSteps := 10000000) (disch := first | omega | simp) [*]; omega) | (simp_all []; done) | (simp_all []; omega))
  · have e : q.short = false := by unfold Req.short; rw [decide_eq_false (show ¬ q.name.size ≤ 300 by omega)]; simp
    rw [e]
    repeat' first | (with_reducible first | refine awRet ?_) | ((with_reducible refine awReg fun K hok hK => ?_); clear hok; (try simp (maxSteps := 10000000) (disch := first | omega | simp) [h1]); (repeat' first | (with_reducible refine hK _ (by simp) ?_)) <;> clear hK K) | ((with_reducible refine awCond fun A B hA hB => ?_); simp (maxSteps := 10000000) (disch := first | omega | simp) [h1]; (first | refine ⟨fun h => hA ?_, fun h => hB ?_⟩ | refine hA ?_ | refine hB ?_) <;> (clear hA hB A B; (try (exfalso; omega))))
    all_goals (refine aEnR (aRes [] fun K hK => ?_); simp (maxSteps := 10000000) (disch := first | omega | simp) []; refine hK _ ?_ (by simp); clear hK; first | done | (simp (maxSteps := 10000000) (disch := first | omega | simp) [*]; done) | (simp (maxSteps := 10000000) (disch := first | omega | simp) [*]; omega) | (simp_all []; done) | (simp_all []; omega))
end
end Go.Am
