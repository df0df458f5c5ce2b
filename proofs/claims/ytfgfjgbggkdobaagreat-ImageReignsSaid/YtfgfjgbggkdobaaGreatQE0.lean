/- Part of the proof of a law of the image. -/
import Derived.Test.YtfgfjgbggkdobaaGreatQData
import Derived.Test.YtfgfjgbggkdobaaGreatChecked
import Derived.WalkKit
import Derived.LaidEql
import Derived.Stop.Asserts
import Derived.RowKitTokens
import Derived.Lib.IfaceEq
import Derived.Handy
set_option linter.all false
namespace Go.Am
open Go Go.RowKit Go.Extern.Stop Go.Stop Go.Extern Go.Proofs
noncomputable section
inductive Er where
  | code (n : Int)
  | fault (op : ByteArray) (at' : Int) (e : Er)
def encE : Er → Value
  | .code n => .iface 55 (.int .i64 n)
  | .fault op a e => .iface 92 (.agg #[.string op, .int .i64 a, encE e])
def Er.has : Er → Int → Bool
  | .code n, c => n == c
  | .fault _ _ e, c => e.has c
theorem tyOf (v : Value) (w : World) : (Extern.ReflectliteType.typeOf #[.iface 55 v]).run Tryz.prog w = .ok (.iface 141 (.agg #[.pointer (some ⟨0, 55, none⟩)])) w := by kernel_rfl
theorem noIs35 (v : Value) (xT : TypeId) (w : World) : (Instr.typeAssert (.iface 55 v) xT 143 true).run Tryz.prog w = .ok (.tuple #[.nilIface, .bool false]) w := run_typeAssert_lacksB Tryz.underlying143 (by kernel_rfl) (by kernel_rfl) v xT w
theorem noUn35 (v : Value) (xT : TypeId) (w : World) : (Instr.typeAssert (.iface 55 v) xT 146 true).run Tryz.prog w = .ok (.tuple #[.nilIface, .bool false]) w := run_typeAssert_lacksB Tryz.underlying146 (by kernel_rfl) (by kernel_rfl) v xT w
theorem noUns35 (v : Value) (xT : TypeId) (w : World) : (Instr.typeAssert (.iface 55 v) xT 148 true).run Tryz.prog w = .ok (.tuple #[.nilIface, .bool false]) w := run_typeAssert_lacksB Tryz.underlying148 (by kernel_rfl) (by kernel_rfl) v xT w
theorem noIs171 (v : Value) (xT : TypeId) (w : World) : (Instr.typeAssert (.iface 92 v) xT 143 true).run Tryz.prog w = .ok (.tuple #[.nilIface, .bool false]) w := run_typeAssert_lacksB Tryz.underlying143 (by kernel_rfl) (by kernel_rfl) v xT w
theorem hasUn171 (v : Value) (xT : TypeId) (w : World) : (Instr.typeAssert (.iface 92 v) xT 146 true).run Tryz.prog w = .ok (.tuple #[.iface 92 v, .bool true]) w := run_typeAssert_hasB Tryz.underlying146 (by kernel_rfl) v xT w
theorem cmp35 : (Tryz.prog.info? 55).map (·.comparable) = some true := by kernel_rfl
theorem cmpRun (w : World) : ((Extern.ReflectliteType.method fun t => do Extern.Rtype.noPackHeld "Comparable" t; (fun a => Value.bool a.comparable) <$> typeInfo t) #[.agg #[.pointer (some ⟨0, 55, none⟩)]]).run Tryz.prog w = .ok (.bool true) w := by kernel_rfl
theorem mComparable (v : Value) (w : World) : (Go.method 191 141 v "Comparable").run Tryz.prog w = .ok (132, v) w := by kernel_rfl
theorem mUnwrap (v : Value) (w : World) : (Go.method 191 92 v "Unwrap").run Tryz.prog w = .ok (128, v) w := by kernel_rfl
theorem Far.trans0 {w w' w'' : World} (h : Far [] w w') (k : Far [] w' w'') : Far [] w w'' :=
  ⟨k.os.trans h.os, k.tape.trans h.tape, k.output.trans h.output, Nat.le_trans h.size k.size, fun b hb hn => (k.block b (Nat.lt_of_lt_of_le hb h.size) hn).trans (h.block b hb hn)⟩
set_option maxRecDepth 1000000 in
theorem is_calls (e : Er) (c : Int) (W : World) : Calls Tryz.prog 77 #[encE e, .iface 55 (.int .i64 c), .bool true] W fun r w' => r = .returned (.bool (e.has c)) ∧ Far [] W w' := by
  have nE := noIs35
  have uE := noUn35
  have vE := noUns35
  have nW := noIs171
  have uW := hasUn171
  have mU := mUnwrap
  go_enter Tryz.func77, Tryz.ntmps77
  go_wp2
  go_loopw [0] (fun E' wl => Far [] W wl ∧ ∃ e', E' = encE e' ∧ e.has c = e'.has c) (fun E' _ => SizeOf.sizeOf E')
  case atStart => exact ⟨⟨rfl, rfl, rfl, Nat.le_refl _, fun _ _ _ => rfl⟩, e, rfl, rfl⟩
  case round =>
    obtain ⟨hfar, e', rfl, hiff⟩ := hrel
    cases e' with
    | code n =>
      have heq := Lib.run_eql_iface_int (P := Tryz.prog) wr (t := 32) (tx := 55) (k := .i64) n c Tryz.underlying32 cmp35 Tryz.underlying55
      simp only [encE] at *
      by_cases hn : n = c
      · subst hn
        have heq : (binOp .eql 32 (.iface 55 (.int .i64 n)) (.iface 55 (.int .i64 n))).run Tryz.prog wr = .ok (.bool true) wr := by rw [heq]; simp
        go_wp2
        go_ret
        exact ⟨by simp [hiff, Er.has], hfar⟩
      · have heq : (binOp .eql 32 (.iface 55 (.int .i64 n)) (.iface 55 (.int .i64 c))).run Tryz.prog wr = .ok (.bool false) wr := by rw [heq]; simp [hn]
        go_wp2
        go_ret
        exact ⟨by simp [hiff, Er.has, hn], hfar⟩
    | fault op a e1 =>
      have hty := run_eql_iface_types (P := Tryz.prog) 92 55 (.agg #[.string op, .int .i64 a, encE e1]) (.int .i64 c) Tryz.underlying32 (by decide) wr
      simp only [encE] at *
      obtain ⟨u, v, hE⟩ : ∃ u v, encE e1 = .iface u v := by cases e1 <;> exact ⟨_, _, rfl⟩
      rw [hE] at hty
      simp only [hE]
      go_wp2
      simp only [show ∀ (a b c d e : Value), (#[a, b, c, d, e] : Array Value).getD 2 undef = c from fun _ _ _ _ _ => rfl]
      go_roundw
      case rel => exact ⟨_, _, _, _, _, _, _, _, _, _, _, _, _, _, _, _, _, _, _, _, _, _, _, _, _, _, _, _, _, _, _, _, _, _, _, _, _, _, _, _, _, _, _, _, _, _, _, _, ⟨hfar.trans0 (Far.alloc _ _), e1, hE.symm, by rw [hiff]; rfl⟩, rfl⟩
      case measure =>
        simp only [Array.getD_eq_getD_getElem?]
        simp
        omega
theorem ACall.ofConst {P : Program} {f : FuncId} {vs : List Value} {v : Value} (he : entr P f = true) (h : ∀ w, Calls P f vs.toArray w fun e w' => e = .returned v ∧ Far [] w w') : ACall P f (vs.map V.c) (.c v) := by
  refine ⟨he, fun S w us hR hS _ => ?_⟩
  have : us = vs := by
    clear h hS
    induction vs generalizing us with
    | nil => cases hR; rfl
    | cons x xs ih => cases hR with | c h => rw [ih _ h]
  subst this
  refine (h w).mono ?_
  rintro e w' ⟨rfl, hF⟩
  exact ⟨v, S, [], rfl, .c .nil, by simp, by simp, by simp, fun _ _ h => h, fun _ _ h => .inl h, fun b o hb => Nat.lt_of_lt_of_le (hS b o hb) hF.size, hF⟩
set_option maxRecDepth 1000000 in
theorem Is_calls (e : Er) (c : Int) (w : World) : Calls Tryz.prog 34 #[encE e, .iface 55 (.int .i64 c)] w fun r w' => r = .returned (.bool (e.has c)) ∧ Far [] w w' := by
  have h8 := @run_callFunc_extern Tryz.prog 76 _ Extern.ReflectliteType.typeOf Tryz.func76 (by kernel_rfl) (by kernel_rfl) (by kernel_rfl) (by kernel_rfl)
  have h32 := @run_callFunc_extern Tryz.prog 132 _ (Extern.ReflectliteType.method fun t => do Extern.Rtype.noPackHeld "Comparable" t; pure (.bool (← typeInfo t).comparable)) Tryz.func132 (by kernel_rfl) (by kernel_rfl) (by kernel_rfl) (by kernel_rfl)
  have tT := tyOf
  have cT := cmpRun
  have mR := mComparable
  obtain ⟨u, v, hE⟩ : ∃ u v, encE e = .iface u v := by cases e <;> exact ⟨_, _, rfl⟩
  have hc := is_calls e c
  simp only [hE] at *
  go_enter Tryz.func34, Tryz.ntmps34
  go_wp2_with (first | (go_at_call 77; refine (hc _).mono ?_; rintro r w' ⟨rfl, hF⟩))
  go_wp2
  go_ret
  exact ⟨rfl, hF⟩
theorem Is_ok (e : Er) (c : Int) : ACall pg 34 [.c (encE e), .c (.iface 55 (.int .i64 c))] (B (e.has c)) :=
  ACall.ofConst (vs := [encE e, .iface 55 (.int .i64 c)]) (by kernel_rfl) (Is_calls e c)
end
end Go.Am
