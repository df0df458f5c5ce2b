/- Part of the proof of ElectLeaves. -/
import Derived.Test.YteijffflinnccaaZData
import Derived.Test.YteijffflinnccaaChecked
import Derived.WalkKit
import Derived.LaidEql
import Derived.Stop.Asserts
import Derived.RowKitTokens
import Derived.Lib.IfaceEq
import Derived.Handy
set_option linter.all false
namespace Go.Am
open Go Go.RowKit Go.Extern.Stop Go.Stop Go.Extern Go.Proofs
noncomputable section
inductive Er where
  | code (n : Int)
  | fault (op : ByteArray) (at' : Int) (e : Er)
def encE : Er → Value
  | .code n => .iface 35 (.int .i64 n)
  | .fault op a e => .iface 171 (.agg #[.string op, .int .i64 a, encE e])
def Er.has : Er → Int → Bool
  | .code n, c => n == c
  | .fault _ _ e, c => e.has c
theorem tyOf (v : Value) (w : World) : (Extern.ReflectliteType.typeOf #[.iface 35 v]).run Try.prog w = .ok (.iface 199 (.agg #[.pointer (some ⟨0, 35, none⟩)])) w := by kernel_rfl
theorem noIs35 (v : Value) (xT : TypeId) (w : World) : (Instr.typeAssert (.iface 35 v) xT 201 true).run Try.prog w = .ok (.tuple #[.nilIface, .bool false]) w := run_typeAssert_lacksB Try.underlying201 (by kernel_rfl) (by kernel_rfl) v xT w
theorem noUn35 (v : Value) (xT : TypeId) (w : World) : (Instr.typeAssert (.iface 35 v) xT 204 true).run Try.prog w = .ok (.tuple #[.nilIface, .bool false]) w := run_typeAssert_lacksB Try.underlying204 (by kernel_rfl) (by kernel_rfl) v xT w
theorem noUns35 (v : Value) (xT : TypeId) (w : World) : (Instr.typeAssert (.iface 35 v) xT 206 true).run Try.prog w = .ok (.tuple #[.nilIface, .bool false]) w := run_typeAssert_lacksB Try.underlying206 (by kernel_rfl) (by kernel_rfl) v xT w
theorem noIs171 (v : Value) (xT : TypeId) (w : World) : (Instr.typeAssert (.iface 171 v) xT 201 true).run Try.prog w = .ok (.tuple #[.nilIface, .bool false]) w := run_typeAssert_lacksB Try.underlying201 (by kernel_rfl) (by kernel_rfl) v xT w
theorem hasUn171 (v : Value) (xT : TypeId) (w : World) : (Instr.typeAssert (.iface 171 v) xT 204 true).run Try.prog w = .ok (.tuple #[.iface 171 v, .bool true]) w := run_typeAssert_hasB Try.underlying204 (by kernel_rfl) v xT w
theorem cmp35 : (Try.prog.info? 35).map (·.comparable) = some true := by kernel_rfl
theorem cmpRun (w : World) : ((Extern.ReflectliteType.method fun t => do Extern.Rtype.noPackHeld "Comparable" t; (fun a => Value.bool a.comparable) <$> typeInfo t) #[.agg #[.pointer (some ⟨0, 35, none⟩)]]).run Try.prog w = .ok (.bool true) w := by kernel_rfl
theorem mComparable (v : Value) (w : World) : (Go.method 248 199 v "Comparable").run Try.prog w = .ok (188, v) w := by kernel_rfl
theorem mUnwrap (v : Value) (w : World) : (Go.method 248 171 v "Unwrap").run Try.prog w = .ok (184, v) w := by kernel_rfl
theorem Far.trans0 {w w' w'' : World} (h : Far [] w w') (k : Far [] w' w'') : Far [] w w'' :=
  ⟨k.os.trans h.os, k.tape.trans h.tape, k.output.trans h.output, Nat.le_trans h.size k.size, fun b hb hn => (k.block b (Nat.lt_of_lt_of_le hb h.size) hn).trans (h.block b hb hn)⟩
set_option maxRecDepth 1000000 in
theorem is_calls (e : Er) (c : Int) (W : World) : Calls Try.prog 146 #[encE e, .iface 35 (.int .i64 c), .bool true] W fun r w' => r = .returned (.bool (e.has c)) ∧ Far [] W w' := by
  have nE := noIs35
  have uE := noUn35
  have vE := noUns35
  have nW := noIs171
  have uW := hasUn171
  have mU := mUnwrap
  go_enter Try.func146, Try.ntmps146
  go_wp2
  go_loopw [0] (fun E' wl => Far [] W wl ∧ ∃ e', E' = encE e' ∧ e.has c = e'.has c) (fun E' _ => SizeOf.sizeOf E')
  case atStart => exact ⟨⟨rfl, rfl, rfl, Nat.le_refl _, fun _ _ _ => rfl⟩, e, rfl, rfl⟩
  case round =>
    obtain ⟨hfar, e', rfl, hiff⟩ := hrel
    cases e' with
    | code n =>
      have heq := Lib.run_eql_iface_int (P := Try.prog) wr (t := 55) (tx := 35) (k := .i64) n c Try.underlying55 cmp35 Try.underlying35
      simp only [encE] at *
      by_cases hn : n = c
      · subst hn
        have heq : (binOp .eql 55 (.iface 35 (.int .i64 n)) (.iface 35 (.int .i64 n))).run Try.prog wr = .ok (.bool true) wr := by rw [heq]; simp
        go_wp2
        go_ret
        exact ⟨by simp [hiff, Er.has], hfar⟩
      · have heq : (binOp .eql 55 (.iface 35 (.int .i64 n)) (.iface 35 (.int .i64 c))).run Try.prog wr = .ok (.bool false) wr := by rw [heq]; simp [hn]
        go_wp2
        go_ret
        exact ⟨by simp [hiff, Er.has, hn], hfar⟩
    | fault op a e1 =>
      have hty := run_eql_iface_types (P := Try.prog) 171 35 (.agg #[.string op, .int .i64 a, encE e1]) (.int .i64 c) Try.underlying55 (by decide) wr
      simp only [encE] at *
      obtain ⟨u, v, hE⟩ : ∃ u v, encE e1 = .iface u v := by cases e1 <;> exact ⟨_, _, rfl⟩
      rw [hE] at hty
      simp only [hE]
      go_wp2
      simp only [show ∀ (a b c d e : Value), (#[a, b, c, d, e] : Array Value).getD 2 undef = c from fun _ _ _ _ _ => rfl]
      go_roundw
      case rel => exact ⟨_, _, _, _, _, _, _, _, _, _, _, _, _, _, _, _, _, _, _, _, _, _, _, _, _, _, _, _, _, _, _, _, _, _, _, _, _, _, _, _, _, _, _, _, _, _, _, _, ⟨hfar.trans0 (Far.alloc _ _), e1, hE.symm, by rw [hiff]; rfl⟩, rfl⟩
      case measure =>
        simp only [Array.getD_eq_getD_getElem?]
        simp
        omega
theorem ACall.ofConst {P : Program} {f : FuncId} {vs : List Value} {v : Value} (he : entr P f = true) (h : ∀ w, Calls P f vs.toArray w fun e w' => e = .returned v ∧ Far [] w w') : ACall P f (vs.map V.c) (.c v) := by
  refine ⟨he, fun S w us hR hS => ?_⟩
  have : us = vs := by
    clear h hS
    induction vs generalizing us with
    | nil => cases hR; rfl
    | cons x xs ih => cases hR with | c h => rw [ih _ h]
  subst this
  refine (h w).mono ?_
  rintro e w' ⟨rfl, hF⟩
  exact ⟨v, S, [], rfl, .c .nil, by simp, by simp, by simp, fun _ _ h => h, fun _ _ h => .inl h, fun b o hb => Nat.lt_of_lt_of_le (hS b o hb) hF.size, hF⟩
set_option maxRecDepth 1000000 in
theorem Is_calls (e : Er) (c : Int) (w : World) : Calls Try.prog 117 #[encE e, .iface 35 (.int .i64 c)] w fun r w' => r = .returned (.bool (e.has c)) ∧ Far [] w w' := by
  have h8 := @run_callFunc_extern Try.prog 145 _ Extern.ReflectliteType.typeOf Try.func145 (by kernel_rfl) (by kernel_rfl) (by kernel_rfl) (by kernel_rfl)
  have h32 := @run_callFunc_extern Try.prog 188 _ (Extern.ReflectliteType.method fun t => do Extern.Rtype.noPackHeld "Comparable" t; pure (.bool (← typeInfo t).comparable)) Try.func188 (by kernel_rfl) (by kernel_rfl) (by kernel_rfl) (by kernel_rfl)
  have tT := tyOf
  have cT := cmpRun
  have mR := mComparable
  obtain ⟨u, v, hE⟩ : ∃ u v, encE e = .iface u v := by cases e <;> exact ⟨_, _, rfl⟩
  have hc := is_calls e c
  simp only [hE] at *
  go_enter Try.func117, Try.ntmps117
  go_wp2_with (first | (go_at_call 146; refine (hc _).mono ?_; rintro r w' ⟨rfl, hF⟩))
  go_wp2
  go_ret
  exact ⟨rfl, hF⟩
theorem Is_ok (e : Er) (c : Int) : ACall pg 117 [.c (encE e), .c (.iface 35 (.int .i64 c))] (B (e.has c)) :=
  ACall.ofConst (vs := [encE e, .iface 35 (.int .i64 c)]) (by kernel_rfl) (Is_calls e c)
end
end Go.Am
