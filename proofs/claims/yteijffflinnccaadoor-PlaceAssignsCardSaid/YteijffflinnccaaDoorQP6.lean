/- Part of the proof of a law of placing. -/
import Derived.Test.YteijffflinnccaaDoorQED
import Derived.Test.YteijffflinnccaaDoorQP5
import Derived.Test.YteijffflinnccaaDoorQPK
set_option linter.all false
set_option maxRecDepth 100000
set_option maxHeartbeats 0
namespace Go.Am
open Go
noncomputable section
def c15 : SC := (.seq (.reg [⟨some 4, .box 30 (.tmp 0), none, []⟩,
  ⟨some 8, .assign (.const (.slice none 0 0)), none, []⟩,
  ⟨some 9, .assign (.const .nilIface), none, []⟩] [1, 2, 3, 4, 12, 26, 41, 50, 76, 78]) (.seq (.reg [⟨some 16, .load 30 (.tmp 4), none, []⟩,
  ⟨some 17, .call { callee := .value (.func 10), args := #[.tmp 16], argTypes := #[30] }, none, []⟩,
  ⟨some 10, .assign (.tmp 17), none, []⟩] [1, 2, 3, 4, 10, 12, 17, 26, 41, 50, 76, 78]) (.seq (.block 0 (.seq (.reg [⟨some 19, .move (.tmp 1), none, []⟩,
  ⟨some 20, .binOp .lss 3 (.tmp 19) (.const (.int .i64 1)) 3, none, []⟩,
  ⟨some 21, .move (.tmp 20), none, []⟩,
  ⟨some 22, .move (.tmp 1), (some (21, false)), []⟩,
  ⟨some 23, .binOp .gtr 3 (.tmp 22) (.const (.int .i64 256)) 3, (some (21, false)), []⟩,
  ⟨some 24, .pick (.tmp 21) (.const (.bool true)) (.tmp 23), none, []⟩,
  ⟨some 18, .assign (.tmp 24), none, []⟩] [1, 2, 3, 4, 10, 12, 17, 18, 20, 21, 23, 24, 26, 41, 50, 76, 78]) (.seq (.cond (.tmp 18) (.seq (.reg [⟨some 25, .move (.tmp 1), none, []⟩,
  ⟨some 26, .call { callee := .value (.func 23), args := #[.const (.string ⟨#[112, 97, 114, 116, 115]⟩), .tmp 25, .const (.int .i64 2)], argTypes := #[9, 3, 37] }, none, []⟩,
  ⟨some 8, .assign (.const (.slice none 0 0)), none, []⟩,
  ⟨some 9, .assign (.tmp 26), none, []⟩] [8, 9, 12, 26, 41, 50, 76, 78]) .ret) (.seq (.reg [⟨some 28, .move (.tmp 2), none, []⟩,
  ⟨some 29, .binOp .lss 3 (.tmp 28) (.const (.int .i64 1)) 3, none, []⟩,
  ⟨some 30, .move (.tmp 29), none, []⟩,
  ⟨some 31, .move (.tmp 2), (some (30, false)), []⟩,
  ⟨some 32, .binOp .gtr 3 (.tmp 31) (.const (.int .i64 7)) 3, (some (30, false)), []⟩,
  ⟨some 33, .pick (.tmp 30) (.const (.bool true)) (.tmp 32), none, []⟩,
  ⟨some 34, .move (.tmp 33), none, []⟩,
  ⟨some 35, .move (.tmp 2), (some (34, false)), []⟩,
  ⟨some 36, .move (.tmp 10), (some (34, false)), []⟩,
  ⟨some 37, .call { callee := .builtin .len, args := #[.tmp 36], argTypes := #[23] }, (some (34, false)), []⟩,
  ⟨some 38, .binOp .gtr 3 (.tmp 35) (.tmp 37) 3, (some (34, false)), []⟩,
  ⟨some 39, .pick (.tmp 34) (.const (.bool true)) (.tmp 38), none, []⟩,
  ⟨some 27, .assign (.tmp 39), none, []⟩] [1, 2, 3, 4, 10, 12, 17, 26, 27, 29, 30, 32, 33, 34, 38, 39, 41, 50, 76, 78]) (.seq (.cond (.tmp 27) (.seq (.reg [⟨some 40, .move (.tmp 2), none, []⟩,
  ⟨some 41, .call { callee := .value (.func 23), args := #[.const (.string ⟨#[114, 101, 112, 108, 105, 99, 97, 115]⟩), .tmp 40, .const (.int .i64 18)], argTypes := #[9, 3, 37] }, none, []⟩,
  ⟨some 8, .assign (.const (.slice none 0 0)), none, []⟩,
  ⟨some 9, .assign (.tmp 41), none, []⟩] [8, 9, 12, 26, 41, 50, 76, 78]) .ret) (.seq (.reg [⟨some 43, .move (.tmp 3), none, []⟩,
  ⟨some 44, .binOp .lss 3 (.tmp 43) (.const (.int .i64 0)) 3, none, []⟩,
  ⟨some 45, .move (.tmp 44), none, []⟩,
  ⟨some 46, .move (.tmp 3), (some (45, false)), []⟩,
  ⟨some 47, .binOp .gtr 3 (.tmp 46) (.const (.int .i64 1073741824)) 3, (some (45, false)), []⟩,
  ⟨some 48, .pick (.tmp 45) (.const (.bool true)) (.tmp 47), none, []⟩,
  ⟨some 42, .assign (.tmp 48), none, []⟩] [1, 2, 3, 4, 10, 12, 17, 26, 41, 42, 44, 45, 47, 48, 50, 76, 78]) (.seq (.cond (.tmp 42) (.seq (.reg [⟨some 49, .move (.tmp 3), none, []⟩,
  ⟨some 50, .call { callee := .value (.func 23), args := #[.const (.string ⟨#[115, 116, 97, 114, 116]⟩), .tmp 49, .const (.int .i64 2)], argTypes := #[9, 3, 37] }, none, []⟩,
  ⟨some 8, .assign (.const (.slice none 0 0)), none, []⟩,
  ⟨some 9, .assign (.tmp 50), none, []⟩] [8, 9, 12, 26, 41, 50, 76, 78]) .ret) .skip) .skip))) .skip))) .skip))) (.seq (.reg [⟨some 51, .makeFunc (Fn.func 27) #[] #[.tmp 4], none, []⟩,
  ⟨some 11, .assign (.tmp 51), none, []⟩] [1, 2, 3, 4, 10, 11, 17, 26, 41, 50, 51, 76]) (.seq (.reg [⟨some 12, .assign (.const (.slice none 0 0)), none, []⟩] [1, 2, 3, 4, 10, 11, 12, 17, 26, 41, 50, 51, 76]) (.seq (.reg [⟨some 52, .move (.tmp 1), none, []⟩,
  ⟨some 53, .move (.const (.int .i64 0)), none, []⟩] [1, 2, 3, 4, 10, 11, 12, 17, 26, 41, 50, 51, 52, 53, 76, 77]) (.seq (.block 1 (.seq (.loop (.seq (.reg [⟨some 54, .binOp .lss 3 (.tmp 53) (.tmp 52) 3, none, []⟩] [1, 2, 3, 4, 10, 11, 12, 17, 26, 41, 50, 51, 52, 53, 54, 76, 77]) (.seq (.cond (.tmp 54) .skip (.exit 1)) (.seq (.block 2 (.seq (.reg [⟨some 55, .move (.tmp 53), none, []⟩,
  ⟨some 13, .assign (.tmp 55), none, []⟩] [1, 2, 3, 4, 10, 11, 12, 13, 17, 26, 41, 50, 51, 52, 53, 55, 76, 77]) (.seq (.reg [⟨some 56, .move (.tmp 10), none, []⟩,
  ⟨some 57, .move (.tmp 3), none, []⟩,
  ⟨some 58, .move (.tmp 13), none, []⟩,
  ⟨some 59, .binOp .add 3 (.tmp 57) (.tmp 58) 3, none, []⟩,
  ⟨some 60, .move (.tmp 11), none, []⟩,
  ⟨some 61, .makeMap 68 none, none, []⟩,
  ⟨some 62, .build 70 #[(0, .tmp 56), (1, .tmp 59), (2, .tmp 60), (4, .tmp 61)], none, []⟩,
  ⟨some 63, .box 70 (.tmp 62), none, []⟩,
  ⟨some 14, .assign (.tmp 63), none, []⟩] [1, 2, 3, 4, 10, 11, 12, 14, 17, 26, 41, 50, 51, 52, 53, 63, 76, 77]) (.seq (.reg [⟨some 15, .assign (.const (.slice none 0 0)), none, []⟩] [1, 2, 3, 4, 10, 11, 12, 14, 15, 17, 26, 41, 50, 51, 52, 53, 63, 71, 76, 77]) (.seq (.reg [⟨some 64, .move (.tmp 2), none, []⟩,
  ⟨some 65, .move (.const (.int .i64 0)), none, []⟩] [1, 2, 3, 4, 10, 11, 12, 14, 15, 17, 26, 41, 50, 51, 52, 53, 63, 64, 65, 71, 72, 76, 77]) (.seq (.block 3 (.seq (.loop (.seq (.reg [⟨some 66, .binOp .lss 3 (.tmp 65) (.tmp 64) 3, none, []⟩] [1, 2, 3, 4, 10, 11, 12, 14, 15, 17, 26, 41, 50, 51, 52, 53, 63, 64, 65, 66, 71, 72, 76, 77]) (.seq (.cond (.tmp 66) .skip (.exit 3)) (.seq (.block 4 (.seq (.reg [⟨some 67, .move (.tmp 15), none, []⟩,
  ⟨some 68, .move (.tmp 14), none, []⟩,
  ⟨some 69, .call { callee := .value (.func 30), args := #[.tmp 68], argTypes := #[67] }, none, []⟩,
  ⟨some 70, .buildSlice 23 1 #[(0, .tmp 69)], none, []⟩,
  ⟨some 71, .call { callee := .builtin .append, args := #[.tmp 67, .tmp 70], argTypes := #[23, 23] }, none, []⟩,
  ⟨some 15, .assign (.tmp 71), none, []⟩] [1, 2, 3, 4, 10, 11, 12, 14, 15, 17, 26, 41, 50, 51, 52, 53, 63, 64, 65, 71, 72, 76, 77]) .skip)) (.seq (.reg [⟨some 72, .binOp .add 3 (.tmp 65) (.const (.int .i64 1)) 3, none, []⟩,
  ⟨some 65, .move (.tmp 72), none, []⟩] [1, 2, 3, 4, 10, 11, 12, 14, 15, 17, 26, 41, 50, 51, 52, 53, 63, 64, 65, 71, 72, 76, 77]) .skip))))) .skip)) (.seq (.reg [⟨some 73, .move (.tmp 12), none, []⟩,
  ⟨some 74, .move (.tmp 15), none, []⟩,
  ⟨some 75, .buildSlice 44 1 #[(0, .tmp 74)], none, []⟩,
  ⟨some 76, .call { callee := .builtin .append, args := #[.tmp 73, .tmp 75], argTypes := #[44, 44] }, none, []⟩,
  ⟨some 12, .assign (.tmp 76), none, []⟩] [1, 2, 3, 4, 10, 11, 12, 17, 26, 41, 50, 51, 52, 53, 76, 77]) .skip))))))) (.seq (.reg [⟨some 77, .binOp .add 3 (.tmp 53) (.const (.int .i64 1)) 3, none, []⟩,
  ⟨some 53, .move (.tmp 77), none, []⟩] [1, 2, 3, 4, 10, 11, 12, 17, 26, 41, 50, 51, 52, 53, 76, 77]) .skip))))) .skip)) (.seq (.reg [⟨some 78, .move (.tmp 12), none, []⟩,
  ⟨some 8, .assign (.tmp 78), none, []⟩,
  ⟨some 9, .assign (.const .nilIface), none, []⟩] [8, 9, 12, 26, 41, 50, 76, 78]) .ret))))))))
theorem s15 : TextK Proofs.Tryd.prog 0 15 79 [ResultVar.tmp 8, ResultVar.tmp 9] c15 := .mk' Proofs.Tryd.f15 _ (by kernel_rfl) rfl rfl rfl (by kernel_rfl) rfl (by kernel_rfl)
theorem Wk.frzO {l : List (Nat × E)} {r : Nat} {X : List V} (h : Am.ofA l r = .p (.own X)) : Wk (Am.ofA l) (Am.ofA ((r, .p (.ip (pvL X) 0)) :: blurK r [] l)) := by
  have hc : cont (Am.ofA l) r = .own X := by simp [cont, h]
  have := Wk.freeze (Γ := Am.ofA l) (r := r) (q := []) (D := .own X) (by rw [hc]; rfl) (by simp)
  rw [upd_ofA, hc] at this
  exact this
@[simp] theorem pvL_Li (l : List (List Int)) : pvL (l.map Li) = l.map Li := by rw [pvL_eq]; simp
theorem assignM_ok (m : Image) (pn rn sn : Nat) (hp1 : 1 ≤ pn ∧ pn ≤ 256) (hr1 : 1 ≤ rn ∧ rn ≤ 7 ∧ rn ≤ m.order.length) (hs1 : sn ≤ 1073741824) (hb : m.brokers.length ≤ 100) (hor : ∀ id ∈ m.order, 0 < id ∧ (m.broker id).isSome = true) (hnd : m.order.Nodup) :
    ACall pg 15 [encM m, I pn, I rn, I sn] (.tup [.uq ((rowsP m m.order sn rn pn).map Li), .c .nilIface]) := by
  refine s15.call mo (by simp) fun hxs => ?_
  clear hxs
  unfold c15
  have hro := order_ok m hb
  have hol : m.order.length ≤ 1000 := by
    have := (order_perm m (by omega)).length_eq
    rw [this, List.length_map]
    have := List.length_filter_le readyB m.brokers
    omega
  generalize hO : m.order = order at *
  have h13 : ¬ ((pn : Int) < 1) := by omega
  have h14 : ¬ (256 < (pn : Int)) := by omega
  have h24 : ¬ ((rn : Int) < 1) := by omega
  have h25 : ¬ (7 < (rn : Int)) := by omega
  have h26 : ¬ ((order.length : Int) < rn) := by omega
  have h33 : ¬ ((sn : Int) < 0) := by omega
  have h34 : ¬ (1073741824 < (sn : Int)) := by omega
  repeat' first
      | (with_reducible first | refine thN ?_ | refine thR ?_ | refine thE ?_ | refine inN ?_ | refine inR ?_ | refine inH ?_ | refine fF ?_ | refine fS ?_ | refine fR ?_ | refine fQ ?_ | refine fC ?_ | refine fB ?_ | refine fL ?_ | refine fE ?_ | refine fT ?_ | refine awBlock ?_ | refine awExit ?_ | refine awRet ?_ | refine awSkip ?_ | refine inM (by decide) ?_)
      | ((with_reducible refine awReg fun K hok hK => ?_); clear hok; (try simp (maxSteps := 10000000) (disch := first | omega | simp) [h13, h14, h24, h25, h26, h33, h34]); (repeat' first
          | (with_reducible refine hK _ (by simp) ?_)
          | ((with_reducible refine gdT (fun h => ?_) (fun h => ?_)) <;> (simp (maxSteps := 10000000) (disch := first | omega | simp) [h, h13, h14, h24, h25, h26, h33, h34]; (try simp at h); (try (exfalso; omega))))
          | ((with_reducible refine gdF (fun h => ?_) (fun h => ?_)) <;> (simp (maxSteps := 10000000) (disch := first | omega | simp) [h, h13, h14, h24, h25, h26, h33, h34]; (try simp at h); (try (exfalso; omega))))
          | ((with_reducible refine callS' fun K2 hK2 => ?_); (try simp (maxSteps := 10000000) (disch := first | omega | simp) [h13, h14, h24, h25, h26, h33, h34]); (first | (refine hK2 _ _ (hro) rfl fun hk9 => ?_; clear hk9)); clear hK2 K2; (try simp (maxSteps := 10000000) (disch := first | omega | simp) [h13, h14, h24, h25, h26, h33, h34]))
          | ((with_reducible refine callF' fun K2 hK2 => ?_); (try simp (maxSteps := 10000000) (disch := first | omega | simp) [h13, h14, h24, h25, h26, h33, h34]); (first | refine hK2 _ _ _ (hro) fun _ => ?_); clear hK2 K2; (try simp (maxSteps := 10000000) (disch := first | omega | simp) [h13, h14, h24, h25, h26, h33, h34]))
          | ((with_reducible refine callM' rfl fun K2 hK2 => ?_); (try simp (maxSteps := 10000000) (disch := first | omega | simp) [h13, h14, h24, h25, h26, h33, h34]); (first | refine hK2 _ _ _ _ _ _ _ (hro) rfl fun _ _ => ?_); clear hK2 K2; (try simp (maxSteps := 10000000) (disch := first | omega | simp) [h13, h14, h24, h25, h26, h33, h34]))
          | ((with_reducible refine callT' rfl fun K2 hK2 => ?_); (try simp (maxSteps := 10000000) (disch := first | omega | simp) [h13, h14, h24, h25, h26, h33, h34]); (first | refine hK2 _ _ _ _ _ (hro) fun _ => ?_); clear hK2 K2; (try simp (maxSteps := 10000000) (disch := first | omega | simp) [h13, h14, h24, h25, h26, h33, h34]))
          | ((with_reducible refine gdU ?_); (try simp (maxSteps := 10000000) (disch := first | omega | simp) [h13, h14, h24, h25, h26, h33, h34]))) <;> clear hK K)
      | ((with_reducible refine awCond fun A B hA hB => ?_); simp (maxSteps := 10000000) (disch := first | omega | simp) [h13, h14, h24, h25, h26, h33, h34]; (first | refine ⟨fun h => hA ?_, fun h => hB ?_⟩ | refine hA ?_ | refine hB ?_) <;> (clear hA hB A B; (try (exfalso; omega))))
  refine awFor pn (fun p (out : List (List Int)) => out ++ ((List.range pn).drop p).map (fun p => oneP m order (sn + p) rn) = rowsP m order sn rn pn ∧ out.length = p)
    (fun p out => [(53, .p (I p)), (52, .p (I pn)), (12, .p (.uq (out.map Li))), (11, .cl 27 [4]), (4, .p (.ip (encM m).cells 0)), (10, .p (.sl (order.map I))), (3, .p (I sn)), (2, .p (I rn))]) []
    ((Wk.frz0 (r := 10) rfl).trans ((Wk.frzO (r := 4) rfl).trans (Wk.ofA (by simp)))) ⟨by simp [rowsP], by simp⟩ fun p out hp hs => ?_
  obtain ⟨hs, hol2⟩ := hs
  by_cases hlt : p < pn
  · rw [drop_cons (show p < (List.range pn).length by simpa using hlt)] at hs
    simp only [List.getElem_range, List.map_cons] at hs
    generalize hrest : ((List.range pn).drop (p + 1)).map (fun p => oneP m order (sn + p) rn) = rest at hs
    repeat' first
        | (with_reducible first | refine thN ?_ | refine thR ?_ | refine thE ?_ | refine inN ?_ | refine inR ?_ | refine inH ?_ | refine fF ?_ | refine fS ?_ | refine fR ?_ | refine fQ ?_ | refine fC ?_ | refine fB ?_ | refine fL ?_ | refine fE ?_ | refine fT ?_ | refine awBlock ?_ | refine awExit ?_ | refine awRet ?_ | refine awSkip ?_ | refine inM (by decide) ?_)
        | ((with_reducible refine awReg fun K hok hK => ?_); clear hok; (try simp (maxSteps := 10000000) (disch := first | omega | simp) []); (repeat' first
            | (with_reducible refine hK _ (by simp) ?_)
            | ((with_reducible refine gdT (fun h => ?_) (fun h => ?_)) <;> (simp (maxSteps := 10000000) (disch := first | omega | simp) [h]; (try simp at h); (try (exfalso; omega))))
            | ((with_reducible refine gdF (fun h => ?_) (fun h => ?_)) <;> (simp (maxSteps := 10000000) (disch := first | omega | simp) [h]; (try simp at h); (try (exfalso; omega))))
            | ((with_reducible refine gdU ?_); (try simp (maxSteps := 10000000) (disch := first | omega | simp) []))) <;> clear hK K)
        | ((with_reducible refine awCond fun A B hA hB => ?_); simp (maxSteps := 10000000) (disch := first | omega | simp) []; (first | refine ⟨fun h => hA ?_, fun h => hB ?_⟩ | refine hA ?_ | refine hB ?_) <;> (clear hA hB A B; (try (exfalso; omega))))
    refine awFor rn (fun j (c : Ch) => iterC m order (rn - j) c = iterC m order rn ⟨sn + p, [], []⟩ ∧ ChOk m order (sn + p) j c)
      (fun j c => [(65, .p (I j)), (64, .p (I rn)), (15, .p (.uq (c.taken.map I))), (14, .p (.own (encCh m order c))), (53, .p (I p)), (52, .p (I pn)), (12, .p (.uq (out.map Li))), (11, .cl 27 [4]), (4, .p (.ip (encM m).cells 0)), (10, .p (.sl (order.map I))), (3, .p (I sn)), (2, .p (I rn))]) ⟨sn + p, [], []⟩
      (Wk.ofA (by simp [mE])) ⟨rfl, ChOk.zero _ _ _⟩ fun j c hj hs2 => ?_
    obtain ⟨hit, hck⟩ := hs2
    by_cases hjl : j < rn
    · have hfree := exists_free hnd hck.sub (by rw [hck.len]; omega)
      have hnx := next_ok m order c hb hol hor hfree (by rw [hck.at']; omega) (by rw [hck.len]; omega) (fun s => by
        rw [hck.met]
        have := List.countP_le_length (p := fun id => rackOf m id == s) (l := c.taken)
        rw [hck.len] at this
        omega)
      have hck2 := hck.next hnd (fun id h => (hor id h).1) (by omega)
      have ht : (nextC m order c).taken = c.taken ++ [bestB m order c] := rfl
      have hlen := hck.len
      have hit2 : iterC m order (rn - (j + 1)) (nextC m order c) = iterC m order rn ⟨sn + p, [], []⟩ := by
        rw [← hit, show rn - j = (rn - (j + 1)) + 1 by omega]; rfl
      repeat' first
          | (with_reducible first | refine thN ?_ | refine thR ?_ | refine thE ?_ | refine inN ?_ | refine inR ?_ | refine inH ?_ | refine fF ?_ | refine fS ?_ | refine fR ?_ | refine fQ ?_ | refine fC ?_ | refine fB ?_ | refine fL ?_ | refine fE ?_ | refine fT ?_ | refine awBlock ?_ | refine awExit ?_ | refine awRet ?_ | refine awSkip ?_ | refine inM (by decide) ?_)
          | ((with_reducible refine awReg fun K hok hK => ?_); clear hok; (try simp (maxSteps := 10000000) (disch := first | omega | simp) []); (repeat' first
              | (with_reducible refine hK _ (by simp) ?_)
              | ((with_reducible refine gdT (fun h => ?_) (fun h => ?_)) <;> (simp (maxSteps := 10000000) (disch := first | omega | simp) [h]; (try simp at h); (try (exfalso; omega))))
              | ((with_reducible refine gdF (fun h => ?_) (fun h => ?_)) <;> (simp (maxSteps := 10000000) (disch := first | omega | simp) [h]; (try simp at h); (try (exfalso; omega))))
              | ((with_reducible refine callS' fun K2 hK2 => ?_); (try simp (maxSteps := 10000000) (disch := first | omega | simp) []); (first | (refine hK2 _ _ (hnx) rfl fun hk9 => ?_; clear hk9)); clear hK2 K2; (try simp (maxSteps := 10000000) (disch := first | omega | simp) []))
              | ((with_reducible refine callF' fun K2 hK2 => ?_); (try simp (maxSteps := 10000000) (disch := first | omega | simp) []); (first | refine hK2 _ _ _ (hnx) fun _ => ?_); clear hK2 K2; (try simp (maxSteps := 10000000) (disch := first | omega | simp) []))
              | ((with_reducible refine callM' rfl fun K2 hK2 => ?_); (try simp (maxSteps := 10000000) (disch := first | omega | simp) []); (first | refine hK2 _ _ _ _ _ _ _ (hnx) rfl fun _ _ => ?_); clear hK2 K2; (try simp (maxSteps := 10000000) (disch := first | omega | simp) []))
              | ((with_reducible refine callT' rfl fun K2 hK2 => ?_); (try simp (maxSteps := 10000000) (disch := first | omega | simp) []); (first | refine hK2 _ _ _ _ _ (hnx) fun _ => ?_); clear hK2 K2; (try simp (maxSteps := 10000000) (disch := first | omega | simp) []))
              | ((with_reducible refine gdU ?_); (try simp (maxSteps := 10000000) (disch := first | omega | simp) []))) <;> clear hK K)
          | ((with_reducible refine awCond fun A B hA hB => ?_); simp (maxSteps := 10000000) (disch := first | omega | simp) []; (first | refine ⟨fun h => hA ?_, fun h => hB ?_⟩ | refine hA ?_ | refine hB ?_) <;> (clear hA hB A B; (try (exfalso; omega))))
      (refine ⟨?_, nextC m order c, ?_, Wk.ofA ?_⟩; assumption; rotate_left; focus (simp [ht]; done))
      exact ⟨hit2, hck2⟩
    · have hj0 : rn - j = 0 := by omega
      rw [hj0] at hit
      have ec : c.taken = oneP m order (sn + p) rn := by unfold oneP; rw [← hit]; rfl
      have hlen := hck.len
      repeat' first
          | (with_reducible first | refine thN ?_ | refine thR ?_ | refine thE ?_ | refine inN ?_ | refine inR ?_ | refine inH ?_ | refine fF ?_ | refine fS ?_ | refine fR ?_ | refine fQ ?_ | refine fC ?_ | refine fB ?_ | refine fL ?_ | refine fE ?_ | refine fT ?_ | refine awBlock ?_ | refine awExit ?_ | refine awRet ?_ | refine awSkip ?_ | refine inM (by decide) ?_)
          | ((with_reducible refine awReg fun K hok hK => ?_); clear hok; (try simp (maxSteps := 10000000) (disch := first | omega | simp) []); (repeat' first
              | (with_reducible refine hK _ (by simp) ?_)
              | ((with_reducible refine gdT (fun h => ?_) (fun h => ?_)) <;> (simp (maxSteps := 10000000) (disch := first | omega | simp) [h]; (try simp at h); (try (exfalso; omega))))
              | ((with_reducible refine gdF (fun h => ?_) (fun h => ?_)) <;> (simp (maxSteps := 10000000) (disch := first | omega | simp) [h]; (try simp at h); (try (exfalso; omega))))
              | ((with_reducible refine gdU ?_); (try simp (maxSteps := 10000000) (disch := first | omega | simp) []))) <;> clear hK K)
          | ((with_reducible refine awCond fun A B hA hB => ?_); simp (maxSteps := 10000000) (disch := first | omega | simp) []; (first | refine ⟨fun h => hA ?_, fun h => hB ?_⟩ | refine hA ?_ | refine hB ?_) <;> (clear hA hB A B; (try (exfalso; omega))))
      (refine ⟨?_, out ++ [c.taken], ?_, Wk.ofA ?_⟩; assumption; rotate_left; focus (simp []; done))
      rw [ec]
      exact ⟨by simpa using hs, by simp [hol2]⟩
  · have e : rowsP m order sn rn pn = out := by rw [drop_nil (by simp; omega)] at hs; simpa using hs.symm
    rw [e]
    repeat' first
        | (with_reducible first | refine thN ?_ | refine thR ?_ | refine thE ?_ | refine inN ?_ | refine inR ?_ | refine inH ?_ | refine fF ?_ | refine fS ?_ | refine fR ?_ | refine fQ ?_ | refine fC ?_ | refine fB ?_ | refine fL ?_ | refine fE ?_ | refine fT ?_ | refine awBlock ?_ | refine awExit ?_ | refine awRet ?_ | refine awSkip ?_ | refine inM (by decide) ?_)
        | ((with_reducible refine awReg fun K hok hK => ?_); clear hok; (try simp (maxSteps := 10000000) (disch := first | omega | simp) []); (repeat' first
            | (with_reducible refine hK _ (by simp) ?_)
            | ((with_reducible refine gdT (fun h => ?_) (fun h => ?_)) <;> (simp (maxSteps := 10000000) (disch := first | omega | simp) [h]; (try simp at h); (try (exfalso; omega))))
            | ((with_reducible refine gdF (fun h => ?_) (fun h => ?_)) <;> (simp (maxSteps := 10000000) (disch := first | omega | simp) [h]; (try simp at h); (try (exfalso; omega))))
            | ((with_reducible refine gdU ?_); (try simp (maxSteps := 10000000) (disch := first | omega | simp) []))) <;> clear hK K)
        | ((with_reducible refine awCond fun A B hA hB => ?_); simp (maxSteps := 10000000) (disch := first | omega | simp) []; (first | refine ⟨fun h => hA ?_, fun h => hB ?_⟩ | refine hA ?_ | refine hB ?_) <;> (clear hA hB A B; (try (exfalso; omega))))
    (refine aEnR (aRes [] fun K hK => ?_); simp (maxSteps := 10000000) (disch := first | omega | simp) []; refine hK _ ?_ (by simp); clear hK; first | done | (simp (maxSteps := 10000000) (disch := first | omega | simp) [*]; done) | (simp (maxSteps := 10000000) (disch := first | omega | simp) [*]; omega) | (simp_all []; done) | (simp_all []; omega))
end
end Go.Am
