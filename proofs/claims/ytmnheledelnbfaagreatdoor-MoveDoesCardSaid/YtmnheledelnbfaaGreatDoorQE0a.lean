/- Part of the proof of a law of moving. -/
import Derived.Test.YtmnheledelnbfaaGreatDoorQED
set_option linter.all false
namespace Go.Am
open Go Go.RowKit Go.Extern.Stop Go.Stop Go.Extern Go.Proofs
noncomputable section
def Er.code' : Er → Int
  | .code n => n
  | .fault _ _ e => e.code'
abbrev tv (t : TypeId) : Value := .pointer (some ⟨1, t, none⟩)
abbrev rt (t : TypeId) : Value := .iface 146 (.agg #[tv t])
abbrev rv (t : TypeId) (a : Addr) (f : Int) : Value := .agg #[tv t, .pointer (some a), .int .u64 f]
theorem valueOfP (t : Addr) (w : World) : (ReflectliteValue.unpack (.iface 84 (.pointer (some t)))).run Tryz.prog w
    = .ok (rv 84 ⟨w.heap.size, 0, none⟩ 150) (w.alloc (.cells #[.pointer (some t)] 84)) := by kernel_rfl
theorem typeP (a : Addr) (w : World) : (ReflectliteValue.methodAny (ReflectliteValue.valueError "reflectlite.Value.Type" 0) (fun t _ _ _ => ReflectliteType.toType t) #[rv 84 a 150]).run Tryz.prog w
    = .ok (rt 84) w := by kernel_rfl
theorem methodKind (h : Value) (w : World) : (Go.method (100 + 215 + 1) 146 (.agg #[h]) "Kind").run Tryz.prog w = .ok (133, h) w := by kernel_rfl
theorem kindP (w : World) : ((ReflectliteType.abiMethod fun t => (fun a : Nat => Value.int IntKind.u8 (a : Int)) <$> Rtype.kind t) #[tv 84]).run Tryz.prog w = .ok (.int .u8 22) w := by kernel_rfl
theorem kindC (w : World) : ((ReflectliteType.abiMethod fun t => (fun a : Nat => Value.int IntKind.u8 (a : Int)) <$> Rtype.kind t) #[tv 42]).run Tryz.prog w = .ok (.int .u8 2) w := by kernel_rfl
theorem rlm (z : Sem Value) (f : TypeId → Addr → Nat → Nat → Sem Value) (v : Value) :
    ReflectliteValue.method z f #[v] = (do match ← ReflectliteValue.parts v with | none => z | some (t, a, fl) => f t a fl (fl % 32)) := rfl
theorem partsP (a : Addr) (w : World) : (ReflectliteValue.parts (rv 84 a 150)).run Tryz.prog w = .ok (some (84, a, 150)) w := by kernel_rfl
theorem isNilP (a p : Addr) (W : World) (ha : W.cell? a = some (.pointer (some p))) :
    (ReflectliteValue.method (ReflectliteValue.valueError "reflectlite.Value.IsNil" 0) ReflectliteValue.isNil #[rv 84 a 150]).run Tryz.prog W = .ok (.bool false) W := by
  rw [rlm]
  simp only [Sem.run_bind, partsP, Result.andThen]
  simp [ReflectliteValue.isNil, loadVar, isAgg, underlying, Tryz.underlying84, ha, Result.andThen]
theorem methodElem (h : Value) (w : World) : (Go.method (100 + 215 + 1) 146 (.agg #[h]) "Elem").run Tryz.prog w = .ok (145, .agg #[h]) w := by kernel_rfl
theorem methodImplements (h : Value) (w : World) : (Go.method (100 + 215 + 1) 146 (.agg #[h]) "Implements").run Tryz.prog w = .ok (146, .agg #[h]) w := by kernel_rfl
theorem methodAssignableTo (h : Value) (w : World) : (Go.method (100 + 215 + 1) 146 (.agg #[h]) "AssignableTo").run Tryz.prog w = .ok (143, .agg #[h]) w := by kernel_rfl
theorem elemP (w : World) : (ReflectliteType.method ReflectliteType.elem #[.agg #[tv 84]]).run Tryz.prog w = .ok (rt 42) w := by kernel_rfl
theorem implementsC (w : World) : (ReflectliteType.relation "Implements" ReflectliteType.implements_ #[.agg #[tv 42], rt 39]).run Tryz.prog w = .ok (.bool true) w := by kernel_rfl
theorem typeOfC (v : Value) (w : World) : (ReflectliteType.typeOf #[.iface 42 v]).run Tryz.prog w = .ok (rt 42) w := by kernel_rfl
theorem typeOfF (v : Value) (w : World) : (ReflectliteType.typeOf #[.iface 104 v]).run Tryz.prog w = .ok (rt 104) w := by kernel_rfl
theorem assignableC (w : World) : (ReflectliteType.relation "AssignableTo" ReflectliteType.assignableTo #[.agg #[tv 42], rt 42]).run Tryz.prog w = .ok (.bool true) w := by kernel_rfl
theorem assignableF (w : World) : (ReflectliteType.relation "AssignableTo" ReflectliteType.assignableTo #[.agg #[tv 104], rt 42]).run Tryz.prog w = .ok (.bool false) w := by kernel_rfl
theorem valueOfC (n : Int) (w : World) : (ReflectliteValue.unpack (.iface 42 (.int .i64 n))).run Tryz.prog w
    = .ok (rv 42 ⟨w.heap.size, 0, none⟩ 130) (w.alloc (.cells #[.int .i64 n] 42)) := by kernel_rfl
theorem elemOfP (w : World) : (Rtype.elem? 84).run Tryz.prog w = .ok (some 42) w := by kernel_rfl
theorem mkC (p : Addr) (w : World) : (ReflectliteValue.mk 42 p ReflectliteValue.flagAddr).run Tryz.prog w = .ok (rv 42 p 386) w := by kernel_rfl
theorem elemV (a p : Addr) (W : World) (ha : W.cell? a = some (.pointer (some p))) :
    (ReflectliteValue.method (ReflectliteValue.valueError "reflectlite.Value.Elem" 0) ReflectliteValue.elem #[rv 84 a 150]).run Tryz.prog W
      = .ok (rv 42 p 386) W := by
  rw [rlm]
  simp only [Sem.run_bind, partsP, Result.andThen]
  simp [ReflectliteValue.elem, loadVar, isAgg, underlying, Tryz.underlying84, ha, Result.andThen, elemOfP, mkC]
theorem rls (v x : Value) : ReflectliteValue.set #[v, x] = (do
    let (some (dst, a, fl), some (src, b, _)) := (← ReflectliteValue.parts v, ← ReflectliteValue.parts x)
      | unsupported (.noEntry "extern/(internal/reflectlite.Value).Set.zeroValue")
    if fl / ReflectliteValue.flagAddr % 2 == 0 then unsupported (.noEntry "extern/(internal/reflectlite.Value).Set.unaddressable")
    let val ← loadVar src b
    if ← Rtype.directlyAssignable dst src then storeVar dst a val
    else if ← Rtype.implements dst src then
      if (← Rtype.kind src) == 20 then
        match val with
        | .nilIface => unsupported (.noEntry "extern/reflectlite: a nil value of one interface type handed on as a value of another")
        | _ => storeVar dst a val
      else storeVar dst a (.iface src val)
    else panicString ("reflectlite.Set: value of type " ++ (← Rtype.spelt src) ++ " is not assignable to type " ++ (← Rtype.spelt dst))
    pure (.tuple #[])) := rfl
theorem partsCa (a : Addr) (w : World) : (ReflectliteValue.parts (rv 42 a 386)).run Tryz.prog w = .ok (some (42, a, 386)) w := by kernel_rfl
theorem partsC (a : Addr) (w : World) : (ReflectliteValue.parts (rv 42 a 130)).run Tryz.prog w = .ok (some (42, a, 130)) w := by kernel_rfl
theorem directC (w : World) : (Rtype.directlyAssignable 42 42).run Tryz.prog w = .ok true w := by kernel_rfl
theorem setC (ta b : Addr) (n : Int) (old : Value) (W : World) (hb : W.cell? b = some (.int .i64 n)) (ht : W.cell? ta = some old) (hf : W.frozen? ta = false) :
    (ReflectliteValue.set #[rv 42 ta 386, rv 42 b 130]).run Tryz.prog W
      = .ok (.tuple #[]) (W.setCell ta (.int .i64 n)) := by
  rw [rls]
  simp only [Sem.run_bind, partsCa, partsC, Result.andThen]
  simp [ReflectliteValue.flagAddr, loadVar, isAgg, underlying, Tryz.underlying42, hb, Result.andThen, directC, storeVar, Value.cells, storeCells, Addr.add]
  rw [run_store Tryz.prog W ta _ _ (by rfl)]
  simp [ht, hf]
theorem noAsF (v : Value) (xT : TypeId) (w : World) : (Instr.typeAssert (.iface 104 v) xT 150 true).run Tryz.prog w = .ok (.tuple #[.nilIface, .bool false]) w := run_typeAssert_lacksB Tryz.underlying150 (by kernel_rfl) (by kernel_rfl) v xT w
def Code1 (B : Nat) (n : Int) (W w : World) : Prop := Far [B] W w ∧ w.heap[B]? = some (.cells #[.int .i64 n] 42 (0, 0))
set_option maxRecDepth 1000000 in
set_option maxHeartbeats 4000000 in
theorem as_calls (e : Er) (B A : Nat) (W : World) (hB : W.heap[B]? = some (.cells #[.int .i64 0] 42 (0, 0))) (hA : W.cell? ⟨A, 0, none⟩ = some (.pointer (some ⟨B, 0, none⟩))) (hAB : A ≠ B) :
    Calls Tryz.prog 69 #[encE e, .iface 84 (.pointer (some ⟨B, 0, none⟩)), rv 84 ⟨A, 0, none⟩ 150, rt 42] W fun r w' => r = .returned (.bool true) ∧ Code1 B e.code' W w' := by
  have h10 := @run_callFunc_extern Tryz.prog 78 _ ReflectliteType.typeOf Tryz.func78 (by kernel_rfl) (by kernel_rfl) (by kernel_rfl) (by kernel_rfl)
  have h35 := @run_callFunc_extern Tryz.prog 143 _ (ReflectliteType.relation "AssignableTo" ReflectliteType.assignableTo) Tryz.func143 (by kernel_rfl) (by kernel_rfl) (by kernel_rfl) (by kernel_rfl)
  have h11 := @run_callFunc_extern Tryz.prog 92 _ (ReflectliteValue.method (ReflectliteValue.valueError "reflectlite.Value.Elem" 0) ReflectliteValue.elem) Tryz.func92 (by kernel_rfl) (by kernel_rfl) (by kernel_rfl) (by kernel_rfl)
  have h12 := @run_callFunc_extern Tryz.prog 93 _ ReflectliteValue.set Tryz.func93 (by kernel_rfl) (by kernel_rfl) (by kernel_rfl) (by kernel_rfl)
  have h6 := @run_callFunc_extern Tryz.prog 66 _ (fun args => ReflectliteValue.unpack (args.getD 0 (.tuple #[]))) Tryz.func66 (by kernel_rfl) (by kernel_rfl) (by kernel_rfl) (by kernel_rfl)
  have tC := typeOfC
  have tF := typeOfF
  have mA := methodAssignableTo
  have aC := assignableC
  have aF := assignableF
  have vC := valueOfC
  have nA := noAsF
  have uW := hasUn171
  have mU := mUnwrap
  go_enter Tryz.func69, Tryz.ntmps69
  go_wp2
  go_loopw [0] (fun E' wl => (Far [] W wl ∧ W.heap.size < wl.heap.size ∧ wl.heap[W.heap.size]? = some (.cells #[tv 84, .pointer (some ⟨A, 0, none⟩), .int .u64 150] 111 (0, 0))) ∧ ∃ e', E' = encE e' ∧ e.code' = e'.code') (fun E' _ => SizeOf.sizeOf E')
  case atStart => exact ⟨⟨⟨rfl, rfl, rfl, by simp, fun k hk _ => Below.heap_alloc W _ k hk⟩, by simp, heap_alloc_new W _⟩, e, rfl, rfl⟩
  case round =>
    obtain ⟨⟨hfar, hsz, hbox⟩, e', rfl, hiff⟩ := hrel
    have hBr : wr.heap[B]? = some (.cells #[.int .i64 0] 42 (0, 0)) := by rw [hfar.block B (Array.getElem?_eq_some_iff.1 hB).1 (by simp)]; exact hB
    have hAr : wr.cell? ⟨A, 0, none⟩ = some (.pointer (some ⟨B, 0, none⟩)) := by
      rw [← hA]
      refine World.cell?_of_block (hfar.block A ?_ (by simp))
      rcases Nat.lt_or_ge A W.heap.size with h | h
      · exact h
      · simp [World.cell?, Array.getElem?_eq_none h] at hA
    have hb0 : wr.cell? ⟨W.heap.size, 0, none⟩ = some (tv 84) := by simp [World.cell?, hbox]
    have hb1 : wr.cell? ⟨W.heap.size, 1, none⟩ = some (.pointer (some ⟨A, 0, none⟩)) := by simp [World.cell?, hbox]
    have hb2 : wr.cell? ⟨W.heap.size, 2, none⟩ = some (.int .u64 150) := by simp [World.cell?, hbox]
    cases e' with
    | code n =>
      simp only [encE] at *
      have el := elemV ⟨A, 0, none⟩ ⟨B, 0, none⟩ wr hAr
      have hBs := (Array.getElem?_eq_some_iff.1 hBr).1
      have hBn : (wr.alloc (.cells #[.int .i64 n] 42)).heap[B]? = some (.cells #[.int .i64 0] 42 (0, 0)) := by rw [Below.heap_alloc wr _ B hBs]; exact hBr
      have st := setC ⟨B, 0, none⟩ ⟨wr.heap.size, 0, none⟩ n (.int .i64 0) (wr.alloc (.cells #[.int .i64 n] 42)) (by simp) (by simp [World.cell?, hBn]) (by simp [World.frozen?, hBn])
      go_wp2
      go_ret
      rw [hiff]
      refine ⟨rfl, ?_, ?_⟩
      · rw [setCell_eq_setRow wr B 0 _ _ _ _ hBr]
        refine ⟨hfar.os, hfar.tape, hfar.output, ?_, fun k hk hk' => ?_⟩
        · simp; omega
        · rw [Below.heap_alloc _ _ k (by simp; omega), setRow_other _ B k _ (by simpa using hk')]
          exact hfar.block k hk (by simp)
      · rw [setCell_eq_setRow wr B 0 _ _ _ _ hBr, Below.heap_alloc _ _ B (by simpa using hBs)]
        exact setRow_heap _ B _ _ _ _ hBr
    | fault op a e1 =>
      simp only [encE] at *
      obtain ⟨u, v, hE⟩ : ∃ u v, encE e1 = .iface u v := by cases e1 <;> exact ⟨_, _, rfl⟩
      simp only [hE]
      go_wp2
      simp only [show ∀ (a b c d e : Value), (#[a, b, c, d, e] : Array Value).getD 2 undef = c from fun _ _ _ _ _ => rfl]
      go_roundw
      case rel =>
        repeat (with_reducible apply Exists.intro)
        exact ⟨⟨⟨hfar.trans0 (Far.alloc _ _), by simp; omega, by rw [Below.heap_alloc _ _ _ hsz]; exact hbox⟩, e1, hE.symm, by rw [hiff]; rfl⟩, rfl⟩
      case measure =>
        simp only [Array.getD_eq_getD_getElem?]
        simp
        omega
theorem Code1.back {B : Nat} {n : Int} {W W1 w : World} (h : Far [] W W1) (k : Code1 B n W1 w) : Code1 B n W w :=
  ⟨⟨k.1.os.trans h.os, k.1.tape.trans h.tape, k.1.output.trans h.output, Nat.le_trans h.size k.1.size, fun b hb hn => (k.1.block b (Nat.lt_of_lt_of_le hb h.size) hn).trans (h.block b hb (by simp))⟩, k.2⟩
set_option maxRecDepth 1000000 in
set_option maxHeartbeats 4000000 in
theorem As_calls (e : Er) (B : Nat) (W : World) (hg : W.cell? ⟨0, 0, none⟩ = some (rt 39)) (hB : W.heap[B]? = some (.cells #[.int .i64 0] 42 (0, 0))) :
    Calls Tryz.prog 38 #[encE e, .iface 84 (.pointer (some ⟨B, 0, none⟩))] W fun r w' => r = .returned (.bool true) ∧ Code1 B e.code' W w' := by
  have h6 := @run_callFunc_extern Tryz.prog 66 _ (fun args => ReflectliteValue.unpack (args.getD 0 (.tuple #[]))) Tryz.func66 (by kernel_rfl) (by kernel_rfl) (by kernel_rfl) (by kernel_rfl)
  have h7 := @run_callFunc_extern Tryz.prog 67 _ (ReflectliteValue.methodAny (ReflectliteValue.valueError "reflectlite.Value.Type" 0) (fun t _ _ _ => ReflectliteType.toType t)) Tryz.func67 (by kernel_rfl) (by kernel_rfl) (by kernel_rfl) (by kernel_rfl)
  have h8 := @run_callFunc_extern Tryz.prog 68 _ (ReflectliteValue.method (ReflectliteValue.valueError "reflectlite.Value.IsNil" 0) ReflectliteValue.isNil) Tryz.func68 (by kernel_rfl) (by kernel_rfl) (by kernel_rfl) (by kernel_rfl)
  have h27 := @run_callFunc_extern Tryz.prog 133 _ (ReflectliteType.abiMethod fun t => do pure (.int .u8 (← Rtype.kind t))) Tryz.func133 (by kernel_rfl) (by kernel_rfl) (by kernel_rfl) (by kernel_rfl)
  have h37 := @run_callFunc_extern Tryz.prog 145 _ (ReflectliteType.method ReflectliteType.elem) Tryz.func145 (by kernel_rfl) (by kernel_rfl) (by kernel_rfl) (by kernel_rfl)
  have h38 := @run_callFunc_extern Tryz.prog 146 _ (ReflectliteType.relation "Implements" ReflectliteType.implements_) Tryz.func146 (by kernel_rfl) (by kernel_rfl) (by kernel_rfl) (by kernel_rfl)
  have f6 := valueOfP
  have f7 := typeP
  have mK := methodKind
  have mE := methodElem
  have mI := methodImplements
  have kP := kindP
  have kC := kindC
  have eP := elemP
  have iC := implementsC
  have hlt : 0 < W.heap.size := by
    rcases Nat.eq_zero_or_pos W.heap.size with h0 | h
    · simp [World.cell?, h0] at hg
    · exact h
  have hBl := (Array.getElem?_eq_some_iff.1 hB).1
  have n8 := isNilP ⟨W.heap.size, 0, none⟩ ⟨B, 0, none⟩ ((W.alloc (.cells #[.pointer (some ⟨B, 0, none⟩)] 84)).alloc (.cells #[tv 84, .pointer (some ⟨W.heap.size, 0, none⟩), .int .u64 150] 111)) (by simp)
  have hg2 : ((W.alloc (.cells #[.pointer (some ⟨B, 0, none⟩)] 84)).alloc (.cells #[tv 84, .pointer (some ⟨W.heap.size, 0, none⟩), .int .u64 150] 111)).cell? ⟨0, 0, none⟩ = some (rt 39) := by
    rw [World.cell?_alloc_lt _ _ ⟨0, 0, none⟩ (by simp), World.cell?_alloc_lt _ _ ⟨0, 0, none⟩ hlt]; exact hg
  obtain ⟨u, v, hE⟩ : ∃ u v, encE e = .iface u v := by cases e <;> exact ⟨_, _, rfl⟩
  have ha := as_calls e B W.heap.size ((W.alloc (.cells #[.pointer (some ⟨B, 0, none⟩)] 84)).alloc (.cells #[tv 84, .pointer (some ⟨W.heap.size, 0, none⟩), .int .u64 150] 111))
    (by rw [Below.heap_alloc _ _ B (by simp; omega), Below.heap_alloc _ _ B hBl]; exact hB) (by simp) (by omega)
  rw [hE] at ha ⊢
  go_enter Tryz.func38, Tryz.ntmps38
  go_wp2_with (go_at_call 69; refine ha.mono ?_; rintro r w' ⟨rfl, hF⟩)
  go_ret
  exact ⟨rfl, hF.back ((Far.alloc _ _).trans0 (Far.alloc _ _))⟩
set_option maxRecDepth 1000000 in
set_option maxHeartbeats 4000000 in
theorem Of_calls (e : Er) (W : World) (hg : W.cell? ⟨0, 0, none⟩ = some (rt 39)) :
    Calls Tryz.prog 10 #[encE e] W fun r w' => r = .returned (.int .i64 e.code') ∧ Far [] W w' := by
  have hlt : 0 < W.heap.size := by
    rcases Nat.eq_zero_or_pos W.heap.size with h0 | h
    · simp [World.cell?, h0] at hg
    · exact h
  have ha := As_calls e W.heap.size (W.alloc (.cells #[.int .i64 0] 42)) (by rw [World.cell?_alloc_lt _ _ ⟨0, 0, none⟩ hlt]; exact hg) (heap_alloc_new W _)
  obtain ⟨u, v, hE⟩ : ∃ u v, encE e = .iface u v := by cases e <;> exact ⟨_, _, rfl⟩
  rw [hE] at ha ⊢
  go_enter Tryz.func10, Tryz.ntmps10
  go_wp2_with (go_at_call 38; refine ha.mono ?_; rintro r w' ⟨rfl, hF⟩; have hc : w'.cell? ⟨W.heap.size, 0, none⟩ = some (.int .i64 e.code') := by simp [World.cell?, hF.2])
  go_ret
  refine ⟨rfl, hF.1.os, hF.1.tape, hF.1.output, by have := hF.1.size; simp at this; omega, fun k hk _ => ?_⟩
  rw [hF.1.block k (by simp; omega) (by simp; omega), Below.heap_alloc _ _ k hk]
theorem of_ok (e : Er) : ACall pg 10 [.c (encE e)] (I e.code') := by
  refine ⟨by kernel_rfl, fun S w us hR hS hgl => ?_⟩
  cases hR with
  | c h =>
  cases h
  refine (Of_calls e w hgl.get).mono ?_
  rintro r w' ⟨rfl, hF⟩
  exact ⟨_, S, [], rfl, .c .nil, by simp, by simp, by simp, fun _ _ h => h, fun _ _ h => .inl h, fun b o hb => Nat.lt_of_lt_of_le (hS b o hb) hF.size, hF⟩
theorem Of_nil (W : World) : Calls Tryz.prog 10 #[.nilIface] W fun r w' => r = .returned (.int .i64 0) ∧ Far [] W w' := by
  go_enter Tryz.func10, Tryz.ntmps10
  go_wp2
  go_ret
  exact ⟨rfl, rfl, rfl, rfl, Nat.le_refl _, fun _ _ _ => rfl⟩
theorem ofNil_ok : ACall pg 10 [.c .nilIface] (I 0) := ACall.ofConst (vs := [.nilIface]) (by kernel_rfl) Of_nil
end
end Go.Am
