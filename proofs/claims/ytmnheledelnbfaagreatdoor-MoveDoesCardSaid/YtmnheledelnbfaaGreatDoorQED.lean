/- Part of the proof of a law of moving. -/
import Derived.Test.YtmnheledelnbfaaGreatDoorQData
import Derived.Test.YtmnheledelnbfaaGreatDoorQE3
import Derived.Test.YtmnheledelnbfaaGreatDoorQPU
import Derived.Test.YtmnheledelnbfaaGreatDoorChecked
import Derived.WalkKit
import Derived.LaidEql
import Derived.Stop.Asserts
import Derived.RowKitTokens
import Derived.Lib.IfaceEq
import Derived.Handy
set_option linter.all false
section
set_option maxRecDepth 100000
set_option maxHeartbeats 0
namespace Go.Am
open Go
noncomputable section
def c33 : SC := (.seq (.reg [oD 6 (.assign (.const .nilIface))] [0,1,2]) (.seq (.reg [oM 7 0,oM 8 1,oM 9 2,oD 10 (.makeInterface 42 (.tmp 9)),oD 11 (.build 104 #[(0,.tmp 7),(1,.tmp 8),(2,.tmp 10)]),oD 12 (.makeInterface 104 (.tmp 11)),oG 6 12] [6,12]) .ret))
theorem s33 : TextK Proofs.Tryz.prog 0 33 13 [ResultVar.tmp 6] c33 := .mk' Proofs.Tryz.f33 _ (by kernel_rfl) rfl rfl rfl (by kernel_rfl) rfl (by kernel_rfl)
def errF (op : ByteArray) (a c : Int) : V := .c (.iface 104 (.agg #[.string op, .int .i64 a, .iface 42 (.int .i64 c)]))
@[simp] theorem errF_eq (op : ByteArray) (a c : Int) : errF op a c = .c (.iface 104 (.agg #[.string op, .int .i64 a, .iface 42 (.int .i64 c)])) := rfl
theorem new_ok (op : ByteArray) (a c : Int) : ACall pg 33 [St op, I a, I c] (errF op a c) := by
  refine s33.call mo (by simp) fun hxs => ?_
  clear hxs
  unfold c33; dsimp only [oD, oG, oM]
  repeat' first | (with_reducible first | refine awRet ?_) | ((with_reducible refine awReg fun K hok hK => ?_); clear hok; (try simp (maxSteps := 10000000) (disch := first | omega | simp) []); (repeat' first | (with_reducible refine hK _ (by simp) ?_)) <;> clear hK K) | ((with_reducible refine awCond fun A B hA hB => ?_); simp (maxSteps := 10000000) (disch := first | omega | simp) []; (first | refine ⟨fun h => hA ?_, fun h => hB ?_⟩ | refine hA ?_ | refine hB ?_) <;> (clear hA hB A B; (try (exfalso; omega))))
  (refine aEnR (aRes [] fun K hK => ?_); simp (maxSteps := 10000000) (disch := first | omega | simp) [errF]; refine hK _ ?_ (by simp); clear hK; first | done | (simp (maxSteps := 10000000) (disch := first | omega | simp) [errF, *]; done) | (simp (maxSteps := 10000000) (disch := first | omega | simp) [errF, *]; omega) | (simp_all [errF]; done) | (simp_all [errF]; omega))
def errO : Option Bad → V
  | some b => errF b.1 b.2.1 b.2.2
  | none => .c .nilIface
@[simp] theorem errO_some (b : Bad) : errO (some b) = errF b.1 b.2.1 b.2.2 := rfl
@[simp] theorem errO_none : errO none = .c .nilIface := rfl
end
end Go.Am
end
section
namespace Go.Am
open Go Go.RowKit Go.Extern.Stop Go.Stop Go.Extern Go.Proofs
noncomputable section
inductive Er where
  | code (n : Int)
  | fault (op : ByteArray) (at' : Int) (e : Er)
def encE : Er → Value
  | .code n => .iface 42 (.int .i64 n)
  | .fault op a e => .iface 104 (.agg #[.string op, .int .i64 a, encE e])
def Er.has : Er → Int → Bool
  | .code n, c => n == c
  | .fault _ _ e, c => e.has c
theorem tyOf (v : Value) (w : World) : (Extern.ReflectliteType.typeOf #[.iface 42 v]).run Tryz.prog w = .ok (.iface 146 (.agg #[.pointer (some ⟨1, 42, none⟩)])) w := by kernel_rfl
theorem noIs35 (v : Value) (xT : TypeId) (w : World) : (Instr.typeAssert (.iface 42 v) xT 165 true).run Tryz.prog w = .ok (.tuple #[.nilIface, .bool false]) w := run_typeAssert_lacksB Tryz.underlying165 (by kernel_rfl) (by kernel_rfl) v xT w
theorem noUn35 (v : Value) (xT : TypeId) (w : World) : (Instr.typeAssert (.iface 42 v) xT 153 true).run Tryz.prog w = .ok (.tuple #[.nilIface, .bool false]) w := run_typeAssert_lacksB Tryz.underlying153 (by kernel_rfl) (by kernel_rfl) v xT w
theorem noUns35 (v : Value) (xT : TypeId) (w : World) : (Instr.typeAssert (.iface 42 v) xT 155 true).run Tryz.prog w = .ok (.tuple #[.nilIface, .bool false]) w := run_typeAssert_lacksB Tryz.underlying155 (by kernel_rfl) (by kernel_rfl) v xT w
theorem noIs171 (v : Value) (xT : TypeId) (w : World) : (Instr.typeAssert (.iface 104 v) xT 165 true).run Tryz.prog w = .ok (.tuple #[.nilIface, .bool false]) w := run_typeAssert_lacksB Tryz.underlying165 (by kernel_rfl) (by kernel_rfl) v xT w
theorem hasUn171 (v : Value) (xT : TypeId) (w : World) : (Instr.typeAssert (.iface 104 v) xT 153 true).run Tryz.prog w = .ok (.tuple #[.iface 104 v, .bool true]) w := run_typeAssert_hasB Tryz.underlying153 (by kernel_rfl) v xT w
theorem cmp35 : (Tryz.prog.info? 42).map (·.comparable) = some true := by kernel_rfl
theorem cmpRun (w : World) : ((Extern.ReflectliteType.method fun t => do Extern.Rtype.noPackHeld "Comparable" t; (fun a => Value.bool a.comparable) <$> typeInfo t) #[.agg #[.pointer (some ⟨1, 42, none⟩)]]).run Tryz.prog w = .ok (.bool true) w := by kernel_rfl
theorem mComparable (v : Value) (w : World) : (Go.method 215 146 v "Comparable").run Tryz.prog w = .ok (144, v) w := by kernel_rfl
theorem mUnwrap (v : Value) (w : World) : (Go.method 215 104 v "Unwrap").run Tryz.prog w = .ok (138, v) w := by kernel_rfl
theorem Far.trans0 {w w' w'' : World} (h : Far [] w w') (k : Far [] w' w'') : Far [] w w'' :=
  ⟨k.os.trans h.os, k.tape.trans h.tape, k.output.trans h.output, Nat.le_trans h.size k.size, fun b hb hn => (k.block b (Nat.lt_of_lt_of_le hb h.size) hn).trans (h.block b hb hn)⟩
set_option maxRecDepth 1000000 in
theorem is_calls (e : Er) (c : Int) (W : World) : Calls Tryz.prog 79 #[encE e, .iface 42 (.int .i64 c), .bool true] W fun r w' => r = .returned (.bool (e.has c)) ∧ Far [] W w' := by
  have nE := noIs35
  have uE := noUn35
  have vE := noUns35
  have nW := noIs171
  have uW := hasUn171
  have mU := mUnwrap
  go_enter Tryz.func79, Tryz.ntmps79
  go_wp2
  go_loopw [0] (fun E' wl => Far [] W wl ∧ ∃ e', E' = encE e' ∧ e.has c = e'.has c) (fun E' _ => SizeOf.sizeOf E')
  case atStart => exact ⟨⟨rfl, rfl, rfl, Nat.le_refl _, fun _ _ _ => rfl⟩, e, rfl, rfl⟩
  case round =>
    obtain ⟨hfar, e', rfl, hiff⟩ := hrel
    cases e' with
    | code n =>
      have heq := Lib.run_eql_iface_int (P := Tryz.prog) wr (t := 39) (tx := 42) (k := .i64) n c Tryz.underlying39 cmp35 Tryz.underlying42
      simp only [encE] at *
      by_cases hn : n = c
      · subst hn
        have heq : (binOp .eql 39 (.iface 42 (.int .i64 n)) (.iface 42 (.int .i64 n))).run Tryz.prog wr = .ok (.bool true) wr := by rw [heq]; simp
        go_wp2
        go_ret
        exact ⟨by simp [hiff, Er.has], hfar⟩
      · have heq : (binOp .eql 39 (.iface 42 (.int .i64 n)) (.iface 42 (.int .i64 c))).run Tryz.prog wr = .ok (.bool false) wr := by rw [heq]; simp [hn]
        go_wp2
        go_ret
        exact ⟨by simp [hiff, Er.has, hn], hfar⟩
    | fault op a e1 =>
      have hty := run_eql_iface_types (P := Tryz.prog) 104 42 (.agg #[.string op, .int .i64 a, encE e1]) (.int .i64 c) Tryz.underlying39 (by decide) wr
      simp only [encE] at *
      obtain ⟨u, v, hE⟩ : ∃ u v, encE e1 = .iface u v := by cases e1 <;> exact ⟨_, _, rfl⟩
      rw [hE] at hty
      simp only [hE]
      go_wp2
      simp only [show ∀ (a b c d e : Value), (#[a, b, c, d, e] : Array Value).getD 2 undef = c from fun _ _ _ _ _ => rfl]
      go_roundw
      case rel => exact ⟨_, _, _, _, _, _, _, _, _, _, _, _, _, _, _, _, _, _, _, _, _, _, _, _, _, _, _, _, _, _, _, _, _, _, _, _, _, _, _, _, _, _, _, _, _, _, _, _, ⟨hfar.trans0 (Far.alloc _ _), e1, hE.symm, by rw [hiff]; rfl⟩, rfl⟩
      case measure =>
        simp only [Array.getD_eq_getD_getElem?]
        simp
        omega
theorem ACall.ofConst {P : Program} {f : FuncId} {vs : List Value} {v : Value} (he : entr P f = true) (h : ∀ w, Calls P f vs.toArray w fun e w' => e = .returned v ∧ Far [] w w') : ACall P f (vs.map V.c) (.c v) := by
  refine ⟨he, fun S w us hR hS _ => ?_⟩
  have : us = vs := by
    clear h hS
    induction vs generalizing us with
    | nil => cases hR; rfl
    | cons x xs ih => cases hR with | c h => rw [ih _ h]
  subst this
  refine (h w).mono ?_
  rintro e w' ⟨rfl, hF⟩
  exact ⟨v, S, [], rfl, .c .nil, by simp, by simp, by simp, fun _ _ h => h, fun _ _ h => .inl h, fun b o hb => Nat.lt_of_lt_of_le (hS b o hb) hF.size, hF⟩
set_option maxRecDepth 1000000 in
theorem Is_calls (e : Er) (c : Int) (w : World) : Calls Tryz.prog 55 #[encE e, .iface 42 (.int .i64 c)] w fun r w' => r = .returned (.bool (e.has c)) ∧ Far [] w w' := by
  have h8 := @run_callFunc_extern Tryz.prog 78 _ Extern.ReflectliteType.typeOf Tryz.func78 (by kernel_rfl) (by kernel_rfl) (by kernel_rfl) (by kernel_rfl)
  have h32 := @run_callFunc_extern Tryz.prog 144 _ (Extern.ReflectliteType.method fun t => do Extern.Rtype.noPackHeld "Comparable" t; pure (.bool (← typeInfo t).comparable)) Tryz.func144 (by kernel_rfl) (by kernel_rfl) (by kernel_rfl) (by kernel_rfl)
  have tT := tyOf
  have cT := cmpRun
  have mR := mComparable
  obtain ⟨u, v, hE⟩ : ∃ u v, encE e = .iface u v := by cases e <;> exact ⟨_, _, rfl⟩
  have hc := is_calls e c
  simp only [hE] at *
  go_enter Tryz.func55, Tryz.ntmps55
  go_wp2_with (first | (go_at_call 79; refine (hc _).mono ?_; rintro r w' ⟨rfl, hF⟩))
  go_wp2
  go_ret
  exact ⟨rfl, hF⟩
theorem Is_ok (e : Er) (c : Int) : ACall pg 55 [.c (encE e), .c (.iface 42 (.int .i64 c))] (B (e.has c)) :=
  ACall.ofConst (vs := [encE e, .iface 42 (.int .i64 c)]) (by kernel_rfl) (Is_calls e c)
end
end Go.Am
end
section
set_option maxRecDepth 100000
set_option maxHeartbeats 0
namespace Go.Am
open Go
noncomputable section
def c31 : SC := (.seq (.reg [oZ 4 false] [0,1]) (.seq (.reg [oM 5 0,oM 6 1,oD 7 (.makeInterface 42 (.tmp 6)),oC 8 55 #[.tmp 5,.tmp 7] #[39,39],oG 4 8] [4,8]) .ret))
theorem s31 : TextK Proofs.Tryz.prog 0 31 9 [ResultVar.tmp 4] c31 := .mk' Proofs.Tryz.f31 _ (by kernel_rfl) rfl rfl rfl (by kernel_rfl) rfl (by kernel_rfl)
theorem isF_ok (op : ByteArray) (a c d : Int) : ACall pg 31 [errF op a c, I d] (B (c == d)) := by
  refine s31.call mo (by simp) fun hxs => ?_
  clear hxs
  unfold c31; dsimp only [oC, oD, oG, oM, oZ]
  have h : ACall pg 55 [errF op a c, .c (.iface 42 (.int .i64 d))] (B (c == d)) := Is_ok (.fault op a (.code c)) d
  repeat' first | (with_reducible first | refine awRet ?_) | ((with_reducible refine awReg fun K hok hK => ?_); clear hok; (try simp (maxSteps := 10000000) (disch := first | omega | simp) []); (repeat' first | (with_reducible refine hK _ (by simp) ?_) | ((with_reducible refine callS' fun K2 hK2 => ?_); (try simp (maxSteps := 10000000) (disch := first | omega | simp) []); (refine hK2 _ _ h rfl fun hk9 => ?_); clear hk9; clear hK2 K2; (try simp (maxSteps := 10000000) (disch := first | omega | simp) []))) <;> clear hK K) | ((with_reducible refine awCond fun A B hA hB => ?_); simp (maxSteps := 10000000) (disch := first | omega | simp) []; (first | refine ⟨fun h => hA ?_, fun h => hB ?_⟩ | refine hA ?_ | refine hB ?_) <;> (clear hA hB A B; (try (exfalso; omega))))
  (refine aEnR (aRes [] fun K hK => ?_); simp (maxSteps := 10000000) (disch := first | omega | simp) []; refine hK _ ?_ (by simp); clear hK; first | done | (simp (maxSteps := 10000000) (disch := first | omega | simp) [*]; done) | (simp (maxSteps := 10000000) (disch := first | omega | simp) [*]; omega) | (simp_all []; done) | (simp_all []; omega))
end
end Go.Am
end
