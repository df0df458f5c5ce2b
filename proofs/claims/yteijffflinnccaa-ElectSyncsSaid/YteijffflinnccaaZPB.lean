/- Part of the proof of ElectLeaves. -/
import Derived.Test.YteijffflinnccaaZPA
import Derived.Laws.StructEq
import Derived.ChangeKeysEq
import Derived.Laws.OwnMore
import Derived.Laws.Slices
import Derived.Orders
set_option linter.all false
section
namespace Go.Am
open Go.RowKit
def prim (op : BinOp) (x y : Value) : Option Value :=
  match op, x, y with
  | .add, .int k a, .int k' b => if k = k' then some (.int k (k.wrap (a + b))) else none
  | .sub, .int k a, .int k' b => if k = k' then some (.int k (k.wrap (a - b))) else none
  | .mul, .int k a, .int k' b => if k = k' then some (.int k (k.wrap (a * b))) else none
  | .quo, .int k a, .int k' b => if k = k' ∧ b ≠ 0 then some (.int k (k.wrap (a.tdiv b))) else none
  | .rem, .int k a, .int k' b => if k = k' ∧ b ≠ 0 then some (.int k (a.tmod b)) else none
  | .and, .int k a, .int k' b => if k = k' then some (.int k (k.wrap (BitVec.ofInt k.bits a &&& BitVec.ofInt k.bits b).toNat)) else none
  | .or, .int k a, .int k' b => if k = k' then some (.int k (k.wrap (BitVec.ofInt k.bits a ||| BitVec.ofInt k.bits b).toNat)) else none
  | .shr, .int k a, .int k' b => if 0 ≤ b then some (.int k (a.fdiv (2 ^ min b.toNat k.bits))) else none
  | .shl, .int k a, .int k' b => if 0 ≤ b then some (.int k (k.wrap (a * 2 ^ min b.toNat k.bits))) else none
  | .eql, .int k a, .int k' b => if k = k' then some (.bool (a == b)) else none
  | .neq, .int k a, .int k' b => if k = k' then some (.bool (a != b)) else none
  | .lss, .int k a, .int k' b => if k = k' then some (.bool (decide (a < b))) else none
  | .leq, .int k a, .int k' b => if k = k' then some (.bool (decide (a ≤ b))) else none
  | .gtr, .int k a, .int k' b => if k = k' then some (.bool (decide (b < a))) else none
  | .geq, .int k a, .int k' b => if k = k' then some (.bool (decide (b ≤ a))) else none
  | .eql, .string a, .string b => some (.bool (a.toList == b.toList))
  | .neq, .string a, .string b => some (.bool (!(a.toList == b.toList)))
  | .lss, .string a, .string b => some (.bool (Op.bytesLess a.toList b.toList))
  | .gtr, .string a, .string b => some (.bool (!(Op.bytesLess a.toList b.toList || a.toList == b.toList)))
  | .leq, .string a, .string b => some (.bool (Op.bytesLess a.toList b.toList || a.toList == b.toList))
  | .geq, .string a, .string b => some (.bool (!Op.bytesLess a.toList b.toList))
  | _, _, _ => none
theorem prim_ok {op : BinOp} {x y z : Value} (h : prim op x y = some z) (P : Program) (t : TypeId) (xo yo : Operand) (w : World) :
    ((do eqGuard op t xo yo x y; binOp op t x y : Sem Value)).run P w = .ok z w := by
  have hi : ∀ (op : BinOp) (k : IntKind) (a b : Int) (z : Value), (binOp op t (.int k a) (.int k b)).run P w = .ok z w →
      ((do eqGuard op t xo yo (.int k a) (.int k b); binOp op t (.int k a) (.int k b) : Sem Value)).run P w = .ok z w := by
    intro op k a b z h
    rw [eqGuard_at_int]; exact h
  have hs : ∀ (op : BinOp) (a b : ByteArray) (z : Value), (binOp op t (.string a) (.string b)).run P w = .ok z w →
      ((do eqGuard op t xo yo (.string a) (.string b); binOp op t (.string a) (.string b) : Sem Value)).run P w = .ok z w := by
    intro op a b z h
    rw [eqGuard_at_string]; exact h
  unfold prim at h
  split at h
  case h_1 => split at h <;> cases h; rename_i hk; subst hk; refine hi _ _ _ _ _ ?_; rw [binOp_add]; rfl
  case h_2 => split at h <;> cases h; rename_i hk; subst hk; refine hi _ _ _ _ _ ?_; rw [binOp_sub]; rfl
  case h_3 => split at h <;> cases h; rename_i hk; subst hk; refine hi _ _ _ _ _ ?_; rw [binOp_mul]; rfl
  case h_4 => split at h <;> cases h; rename_i hk; obtain ⟨rfl, hb⟩ := hk; refine hi _ _ _ _ _ ?_; rw [binOp_quo, Op.intDiv, if_neg hb]; rfl
  case h_5 => split at h <;> cases h; rename_i hk; obtain ⟨rfl, hb⟩ := hk; refine hi _ _ _ _ _ ?_; rw [binOp_rem, Op.intDiv, if_neg hb]; rfl
  case h_6 => split at h <;> cases h; rename_i hk; subst hk; refine hi _ _ _ _ _ ?_; rw [binOp_and]; rfl
  case h_7 => split at h <;> cases h; rename_i hk; subst hk; refine hi _ _ _ _ _ ?_; rw [binOp_or]; rfl
  case h_8 =>
    split at h <;> cases h; rename_i k a k' b hb
    have e : (do eqGuard .shr t xo yo (.int k a) (.int k' b); binOp .shr t (.int k a) (.int k' b) : Sem Value) = binOp .shr t (.int k a) (.int k' b) := rfl
    rw [e, binOp_shr, Op.shift, if_neg (by omega)]; rfl
  case h_9 =>
    split at h <;> cases h; rename_i k a k' b hb
    have e : (do eqGuard .shl t xo yo (.int k a) (.int k' b); binOp .shl t (.int k a) (.int k' b) : Sem Value) = binOp .shl t (.int k a) (.int k' b) := rfl
    rw [e, binOp_shl, Op.shift, if_neg (by omega)]; rfl
  case h_10 => split at h <;> cases h; rename_i hk; subst hk; refine hi _ _ _ _ _ ?_; rw [binOp_eql]; rfl
  case h_11 => split at h <;> cases h; rename_i hk; subst hk; refine hi _ _ _ _ _ ?_; rw [binOp_neq]; rfl
  case h_12 => split at h <;> cases h; rename_i hk; subst hk; refine hi _ _ _ _ _ ?_; rw [binOp_lss]; rfl
  case h_13 => split at h <;> cases h; rename_i hk; subst hk; refine hi _ _ _ _ _ ?_; rw [binOp_leq]; rfl
  case h_14 => split at h <;> cases h; rename_i hk; subst hk; refine hi _ _ _ _ _ ?_; rw [binOp_gtr]; rfl
  case h_15 => split at h <;> cases h; rename_i hk; subst hk; refine hi _ _ _ _ _ ?_; rw [binOp_geq]; rfl
  case h_16 => cases h; exact hs _ _ _ _ rfl
  case h_17 => cases h; exact hs _ _ _ _ rfl
  case h_18 => cases h; exact hs _ _ _ _ rfl
  case h_19 => cases h; exact hs _ _ _ _ rfl
  case h_20 => cases h; exact hs _ _ _ _ rfl
  case h_21 => cases h; exact hs _ _ _ _ rfl
  case h_22 => cases h
def primB (op : BinOp) (x y : Value) : Option Value :=
  match op, x, y with
  | .eql, .bool a, .bool b => some (.bool (a == b))
  | .neq, .bool a, .bool b => some (.bool (!(a == b)))
  | _, _, _ => none
theorem equalIn_bool {P : Program} {t : TypeId} (ht : P.underlying t = some .bool) (d : Nat) (a b : Bool) (w : World) : (Op.equalIn (d + 1) t (.bool a) (.bool b)).run P w = .ok (a == b) w := by
  simp [Op.equalIn, run_underlying ht]
theorem primB_ok {op : BinOp} {x y z : Value} (h : primB op x y = some z) {P : Program} {t : TypeId} (ht : P.underlying t = some .bool) (xo yo : Operand) (w : World) :
    ((do eqGuard op t xo yo x y; binOp op t x y : Sem Value)).run P w = .ok z w := by
  have he : ∀ a b : Bool, (Op.equal t (.bool a) (.bool b)).run P w = .ok (a == b) w := fun a b => equalIn_bool ht 9999 a b w
  unfold primB at h
  split at h <;> cases h
  · rw [eqGuard_at_bool]
    show (do pure (Value.bool (← Op.equal t _ _)) : Sem Value).run P w = _
    simp only [Sem.run_bind, he, Result.andThen_ok, Sem.run_pure]
  · rw [eqGuard_at_bool]
    show (do pure (Value.bool (!(← Op.equal t _ _))) : Sem Value).run P w = _
    simp only [Sem.run_bind, he, Result.andThen_ok, Sem.run_pure]
def kInt : V → Option Int
  | .c (.int _ n) => some n
  | _ => none
def evFieldAddr (P : Program) (Γ : Env) (t : TypeId) (x : Operand) (f : Nat) : Option (Env × E) :=
  if (ti P t).ok = true ∧ (ti P t).k = .struct then
    match (ti P t).flds[f]? with
    | some (off, fs) =>
      if fs = 0 then none else
      match rd Γ x with
      | .p (.ip l o) => some (Γ, .p (.ip l (o + off)))
      | e => match adr Γ e with
        | some (r, q, i, j) => match (cont Γ r).getP q with
          | some D => match D.row i with
            | some _ => some (Γ, .pa r q i (j + off))
            | none => none
          | none => none
        | none => none
    | none => none
  else none
def evIndexAddr (P : Program) (Γ : Env) (t : TypeId) (x ix : Operand) : Option (Env × E) :=
  match (ti P t).k with
  | .slice e =>
    if (ti P t).ok = true ∧ (ti P e).ok = true then
      match look Γ (rd Γ ix) with
      | .c (.int _ n) =>
        if n < 0 then none else
        match rd Γ x with
        | .p (.sl l) => match l[n.toNat]? with
          | some y => if y.cells.length = (ti P e).size then some (Γ, .p (.ip y.cells 0)) else none
          | none => none
        | .al r q => match (cont Γ r).getP q with
          | some (.uq l) => match l[n.toNat]? with
            | some y => if y.cells.length = (ti P e).size then some (Γ, .pa r q n.toNat 0) else none
            | none => none
          | _ => none
        | _ => none
      | _ => none
    else none
  | _ => none
section
variable {C : Ctx} {S S' : Nat → Nat → Prop} {F : Nat → List Nat} {Γ Γ1 : Env} {a : Act} {w w' : World} {P : Program}
theorem evFieldAddr_ok (h : G C S F Γ a w) {t : TypeId} {x : Operand} {f : Nat} {e : E} (he : evFieldAddr P Γ t x f = some (Γ1, e)) :
    ∃ v, (Instr.fieldAt t (a.eval x) f).run P w = .ok v w ∧ Out C Γ1 e a w v := by
  obtain ⟨ha, hc⟩ := h.rdAli x
  simp only [evFieldAddr] at he
  split at he
  rotate_left
  · cases he
  rename_i ht
  obtain ⟨ht, hk⟩ := ht
  obtain ⟨i, d, z, h1, h2, h3, h4, h5, h6, h7, h8, h9, h10⟩ := ti_ok ht
  rw [h4] at hk
  cases d <;> simp [kOf] at hk
  rename_i fs0
  have hfl := (h10 fs0 rfl).1
  split at he
  rotate_left
  · cases he
  rename_i off fs hf
  split at he
  · cases he
  rename_i hfs
  rw [hfl] at hf
  simp only [List.getElem?_map, Option.map_eq_some_iff, Array.getElem?_toList, Prod.mk.injEq] at hf
  obtain ⟨fd, hfd, rfl, rfl⟩ := hf
  have hplace : ∀ b o : Nat, (fieldPlace ⟨b, o, none⟩ fd).run P w = .ok ⟨b, o + fd.offset, none⟩ w := by
    intro b o
    have hs : (sizeOf fd.type).run P w = .ok (P.cellsOf fd.type) w := by
      unfold Program.cellsOf at hfs ⊢
      cases hi : P.info? fd.type with
      | none => simp [hi] at hfs
      | some i => simp [sizeOf, typeInfo, hi]
    simp only [fieldPlace, Sem.run_bind, hs, Result.andThen_ok, if_neg hfs, Sem.run_ite, Sem.run_pure, Addr.add_lit]
  have hrun : ∀ b o : Nat, (Instr.fieldAt t (.pointer (some ⟨b, o, none⟩)) f).run P w = .ok (.pointer (some ⟨b, o + fd.offset, none⟩)) w := by
    intro b o
    simp only [Instr.fieldAt, Sem.run_bind, run_underlying h2, Result.andThen_ok, hfd, sureAddr_run, hplace, Sem.run_pure]
  split at he
  · rename_i l o hrd
    cases he
    rw [hrd] at hc
    obtain ⟨b, o0, cs, hv, hR, h1', hS⟩ := R.ipCells (by simpa [E.cont] using hc)
    rw [hv]
    refine ⟨_, hrun b (o0 + o), Out.pure h ?_⟩
    rw [Nat.add_assoc]
    exact R.ip b o0 (o + fd.offset) hR h1' hS .nil
  · split at he
    rotate_left
    · cases he
    rename_i r q i j hadr
    split at he
    rotate_left
    · cases he
    rename_i D hD
    split at he
    rotate_left
    · cases he
    rename_i cs hcs
    cases he
    obtain ⟨u, x', hu, hx', hv⟩ := adr_ok h hadr ha hD hcs
    obtain ⟨u0, fc, fr, k1, k2, k3⟩ := h.at hD
    rw [k1] at hu; cases hu
    obtain ⟨b, o, us, f0, f1, f2, g1, g2, g3, g4, g5⟩ := k2.rowAt hcs
    rw [g1] at hx'; cases hx'
    rw [hv]
    refine ⟨_, hrun b (o + j), Out.ali h rfl ?_⟩
    intro D' cs' hD' hcs'
    rw [hD] at hD'; cases hD'
    exact ⟨_, _, k1, g1 (j + fd.offset), by rw [Nat.add_assoc]⟩
theorem R.slRow {l : List V} {v : Value} (h : R S w [.sl l] [v] []) {n : Nat} {y : V} (hy : l[n]? = some y) :
    ∃ b o cap, v = .slice (some ⟨b, o, none⟩) l.length cap ∧ R S w [.ip y.cells 0] [.pointer (some ⟨b, o + n * y.cells.length, none⟩)] [] := by
  have hn : n < l.length := by
    rcases Nat.lt_or_ge n l.length with h' | h'
    · exact h'
    · simp [List.getElem?_eq_none h'] at hy
  cases h with
  | sl0 hh => simp at hn
  | @sl _ cs _ _ _ b o cap es h1 h2 h3 h4 h5 h6 h7 h8 hh =>
    cases hh
    obtain ⟨f0, f1, f2, hf, hR⟩ := R.oneRow h3 h4 hy
    have hff : f1 = [] := by
      have : f0 = [] ∧ f1 = [] ∧ f2 = [] := by simpa [and_assoc] using hf.symm
      exact this.2.1
    rw [hff] at hR
    have hyl := h3 y (List.mem_of_getElem? hy)
    refine ⟨b, o, cap, rfl, ?_⟩
    rw [hyl]
    have hlen := flat_len h3
    have hcl := h4.length
    have hie : (n + 1) * es ≤ l.length * es := Nat.mul_le_mul_right es hn
    rw [Nat.add_mul] at hie
    have hRl := hR.length
    simpa using R.ip (S := S) (w := w) b (o + n * es) 0 hR (fun u hu => h5 u (List.mem_of_mem_drop (List.mem_of_mem_take hu))) (fun i hi => by
      have hi' : i < es := by simp at hi; omega
      have := h6 (n * es + i) (by omega)
      rw [Nat.add_assoc]
      refine ⟨this.1, ?_⟩
      rw [this.2, List.getElem?_take_of_lt hi', List.getElem?_drop]) .nil
theorem lookInt (h : G C S F Γ a w) {x : Operand} {u : Value} (hx : look Γ (rd Γ x) = .c u) : a.eval x = u := by
  have := h.look x
  rw [hx] at this
  cases this; rfl
theorem run_indexAt {t e : TypeId} (ht : P.underlying t = some (.slice e)) (he : (ti P e).ok = true) (b o len cap : Nat) (k : IntKind) (n : Int) (h0 : 0 ≤ n) (h1 : n.toNat < len) (w : World) :
    (Instr.indexAt t (.slice (some ⟨b, o, none⟩) len cap) (.int k n)).run P w = .ok (.pointer (some ⟨b, o + n.toNat * (ti P e).size, none⟩)) w := by
  simp only [Instr.indexAt, asIntOf, Sem.run_bind, Sem.run_pure, Result.andThen_ok, run_underlying ht]
  have hc : 0 ≤ n ∧ n < (len : Int) := by omega
  simp only [hc, and_self, if_true, Sem.run_bind, run_size he, Result.andThen_ok, Sem.run_pure, Addr.add_lit, Sem.run_ite]
theorem evIndexAddr_ok (h : G C S F Γ a w) {t : TypeId} {x ix : Operand} {e : E} (he : evIndexAddr P Γ t x ix = some (Γ1, e)) :
    ∃ v, (Instr.indexAt t (a.eval x) (a.eval ix)).run P w = .ok v w ∧ Out C Γ1 e a w v := by
  obtain ⟨ha, hc⟩ := h.rdAli x
  simp only [evIndexAddr] at he
  split at he
  rotate_left
  · cases he
  rename_i el hk
  split at he
  rotate_left
  · cases he
  rename_i ht
  obtain ⟨ht, hte⟩ := ht
  obtain ⟨i, d, z, h1, h2, h3, h4, _⟩ := ti_ok ht
  rw [h4] at hk
  cases d <;> simp [kOf] at hk
  subst hk
  split at he
  rotate_left
  · cases he
  rename_i kk n hix
  rw [lookInt h hix]
  split at he
  · cases he
  rename_i hn
  split at he
  · rename_i l hrd
    split at he
    rotate_left
    · cases he
    rename_i y hy
    split at he
    rotate_left
    · cases he
    rename_i hyl
    cases he
    rw [hrd] at hc
    obtain ⟨b, o, cap, hv, hR⟩ := R.slRow (by simpa [E.cont] using hc) hy
    have hnl : n.toNat < l.length := by
      rcases Nat.lt_or_ge n.toNat l.length with h' | h'
      · exact h'
      · simp [List.getElem?_eq_none h'] at hy
    rw [hv]
    refine ⟨_, run_indexAt h2 hte b o l.length cap kk n (by omega) hnl w, Out.pure h ?_⟩
    rw [← hyl]; exact hR
  · rename_i r q hrd
    split at he
    rotate_left
    · cases he
    rename_i l hD
    split at he
    rotate_left
    · cases he
    rename_i y hy
    split at he
    rotate_left
    · cases he
    rename_i hyl
    cases he
    rw [hrd] at ha
    have hv := ha _ hD
    obtain ⟨u, fc, fr, k1, k2, k3⟩ := h.at hD
    rw [k1] at hv; cases hv
    have hnl : n.toNat < l.length := by
      rcases Nat.lt_or_ge n.toNat l.length with h' | h'
      · exact h'
      · simp [List.getElem?_eq_none h'] at hy
    have hrow : (V.uq l).row n.toNat = some y.cells := by simp [V.row, hy]
    generalize hev : a.eval x = xv at k1 k2
    cases k2 with
    | uq0 hh => simp at hnl
    | @uq _ cs fq _ _ _ b cap e es cur g1 g2 g3 g4 g5 g6 g7 g8 g9 hh =>
      cases hh
      refine ⟨_, run_indexAt h2 hte b 0 l.length cap kk n (by omega) hnl w, Out.ali h rfl ?_⟩
      intro D' cs' hD' hcs'
      rw [hD] at hD'; cases hD'
      refine ⟨_, _, k1, ?_, rfl⟩
      have hyes := g2 y (List.mem_of_getElem? hy)
      cases l with
      | nil => simp at hnl
      | cons y0 l => simp [addrOf, g2 y0 (by simp), ← hyl, hyes]
  · cases he
end
end Go.Am
end
section
namespace Go.Am
open Go.RowKit
def isConst : Operand → Bool
  | .const _ => true
  | _ => false
def primNil (P : Program) (t : TypeId) (x y : Operand) (X Y : V) : Option Bool :=
  match (ti P t).k with
  | .iface => match X, Y with
    | .c .nilIface, .c .nilIface => if isConst x || isConst y then some true else none
    | .c (.iface _ _), .c .nilIface => some false
    | .c .nilIface, .c (.iface _ _) => some false
    | _, _ => none
  | .pointer => match X, Y with
    | .c (.pointer none), .c (.pointer none) => some true
    | .ip _ _, .c (.pointer none) => some false
    | .c (.pointer none), .ip _ _ => some false
    | _, _ => none
  | .slice _ => match X, y with
    | .sl (_ :: _), .const (.slice none 0 0) => some false
    | .c (.slice a _ _), .const (.slice none 0 0) => some a.isNone
    | _, _ => none
  | _ => none
def neqF (op : BinOp) (b : Bool) : Bool := match op with | .neq => !b | _ => b
def eqFld (P : Program) (i : Nat) (f : Field) : Option K :=
  if f.offset = i ∧ f.name ≠ "_" then
    match P.underlying f.type with
    | some (.int k) => some (.int k)
    | some .bool => some .bool
    | some .string => some .string
    | _ => none
  else none
def eqFlds (P : Program) : Nat → List Field → Option (List K)
  | _, [] => some []
  | i, f :: fs => match eqFld P i f, eqFlds P (i + 1) fs with
    | some k, some ks => some (k :: ks)
    | _, _ => none
def eqT (P : Program) (t : TypeId) : Option (List K) :=
  match P.underlying t with
  | some (.struct fs) => if P.stoodInHeld t = false ∧ P.eqGuardType P.depth t = false then eqFlds P 0 fs.toList else none
  | _ => none
def eqC : K → V → V → Option Bool
  | .int _, .c (.int k a), .c (.int k' b) => if k = k' then some (a == b) else none
  | .bool, .c (.bool a), .c (.bool b) => some (a == b)
  | .string, .c (.string a), .c (.string b) => some (a.toList == b.toList)
  | _, _, _ => none
def eqCs : List K → List V → List V → Option Bool
  | [], [], [] => some true
  | k :: ks, x :: xs, y :: ys => match eqC k x y, eqCs ks xs ys with
    | some a, some b => some (a && b)
    | _, _ => none
  | _, _, _ => none
def primEq (P : Program) (t : TypeId) : V → V → Option Bool
  | .agg l, .agg r => match eqT P t with
    | some ks => eqCs ks l r
    | none => none
  | _, _ => none
def evBin (P : Program) (Γ : Env) (op : BinOp) (t : TypeId) (x y : Operand) : Option (Env × E) :=
  match look Γ (rd Γ x), look Γ (rd Γ y) with
  | .c u, .c v => match prim op u v with
    | some z => some (Γ, .p (.c z))
    | none =>
      if (ti P t).ok = true ∧ (ti P t).k = .bool then (match primB op u v with | some z => some (Γ, .p (.c z)) | none => none)
      else if (ti P t).ok = true then
        match op, primNil P t x y (.c u) (.c v) with
        | .eql, some b => some (Γ, .p (.c (.bool b)))
        | .neq, some b => some (Γ, .p (.c (.bool !b)))
        | _, _ => none
      else none
  | X, Y => if (ti P t).ok = true then
      match op, primNil P t x y X Y with
      | .eql, some b => some (Γ, .p (.c (.bool b)))
      | .neq, some b => some (Γ, .p (.c (.bool !b)))
      | .eql, none => match primEq P t X Y with | some b => some (Γ, .p (.c (.bool b))) | none => none
      | .neq, none => match primEq P t X Y with | some b => some (Γ, .p (.c (.bool !b))) | none => none
      | _, _ => none
    else none
theorem equalIn_nilnil {P : Program} {t : TypeId} {ms} (ht : P.underlying t = some (.interface ms)) (d : Nat) (w : World) : (Op.equalIn (d + 1) t .nilIface .nilIface).run P w = .ok true w := by
  simp [Op.equalIn, run_underlying ht]
theorem equalIn_heldnil {P : Program} {t : TypeId} {ms} (ht : P.underlying t = some (.interface ms)) (d : Nat) (u : TypeId) (v : Value) (w : World) : (Op.equalIn (d + 1) t (.iface u v) .nilIface).run P w = .ok false w := by
  simp [Op.equalIn, run_underlying ht]
theorem equalIn_nilheld {P : Program} {t : TypeId} {ms} (ht : P.underlying t = some (.interface ms)) (d : Nat) (u : TypeId) (v : Value) (w : World) : (Op.equalIn (d + 1) t .nilIface (.iface u v)).run P w = .ok false w := by
  simp [Op.equalIn, run_underlying ht]
theorem equalIn_pnil {P : Program} {t e : TypeId} (ht : P.underlying t = some (.pointer e)) (d : Nat) (w : World) : (Op.equalIn (d + 1) t (.pointer none) (.pointer none)).run P w = .ok true w := by
  simp [Op.equalIn, run_underlying ht]
theorem equalIn_psome {P : Program} {t e : TypeId} (ht : P.underlying t = some (.pointer e)) (d : Nat) (x : Addr) (w : World) : (Op.equalIn (d + 1) t (.pointer (some x)) (.pointer none)).run P w = .ok false w := by
  simp [Op.equalIn, run_underlying ht]
theorem equalIn_somep {P : Program} {t e : TypeId} (ht : P.underlying t = some (.pointer e)) (d : Nat) (x : Addr) (w : World) : (Op.equalIn (d + 1) t (.pointer none) (.pointer (some x))).run P w = .ok false w := by
  simp [Op.equalIn, run_underlying ht]
theorem equalIn_slnil {P : Program} {t e : TypeId} (ht : P.underlying t = some (.slice e)) (d : Nat) (x : Addr) (n c m k : Nat) (w : World) : (Op.equalIn (d + 1) t (.slice (some x) n c) (.slice none m k)).run P w = .ok false w := by
  simp [Op.equalIn, run_underlying ht]
theorem equalIn_slnn {P : Program} {t e : TypeId} (ht : P.underlying t = some (.slice e)) (d : Nat) (n c m k : Nat) (w : World) : (Op.equalIn (d + 1) t (.slice none n c) (.slice none m k)).run P w = .ok true w := by
  simp [Op.equalIn, run_underlying ht]
section
variable {C : Ctx} {S S' : Nat → Nat → Prop} {F : Nat → List Nat} {Γ Γ1 : Env} {a : Act} {w w' : World} {P : Program}
theorem run_eq_of {op : BinOp} {t : TypeId} {xo yo : Operand} {u v : Value} {b : Bool} (hg : eqGuard op t xo yo u v = pure ()) (hE : (Op.equal t u v).run P w = .ok b w)
    (hop : op = .eql ∨ op = .neq) (hb : binOp .eql t u v = (do pure (.bool (← Op.equal t u v))) ∧ binOp .neq t u v = (do pure (.bool (!(← Op.equal t u v))))) :
    ((do eqGuard op t xo yo u v; binOp op t u v : Sem Value)).run P w = .ok (.bool (neqF op b)) w := by
  rw [hg]
  rcases hop with rfl | rfl
  · simp only [pure_bind, hb.1, Sem.run_bind, hE, Result.andThen_ok, Sem.run_pure, neqF]
  · simp only [pure_bind, hb.2, Sem.run_bind, hE, Result.andThen_ok, Sem.run_pure, neqF]
theorem primNil_ok {t : TypeId} (ht : (ti P t).ok = true) {x y : Operand} {X Y : V} {b : Bool} (h : primNil P t x y X Y = some b) {T : Nat → Nat → Prop} {u v : Value} (hX : R T w [X] [u] []) (hY : R T w [Y] [v] [])
    (hxe : ∀ z, x = .const z → u = z) (hye : ∀ z, y = .const z → v = z) {op : BinOp} (hop : op = .eql ∨ op = .neq) :
    ((do eqGuard op t x y u v; binOp op t u v : Sem Value)).run P w = .ok (.bool (neqF op b)) w := by
  obtain ⟨i, d, z, h1, h2, h3, h4, _⟩ := ti_ok ht
  unfold primNil at h
  split at h
  · rename_i hk
    rw [h4] at hk
    cases d <;> simp [kOf] at hk
    rename_i ms
    split at h
    · cases hX with
      | c hx => cases hx; cases hY with
        | c hy =>
          cases hy
          split at h
          · rename_i hc
            cases h
            refine run_eq_of ?_ (equalIn_nilnil h2 9999 w) hop ⟨rfl, rfl⟩
            rcases Bool.or_eq_true_iff.1 hc with hc | hc
            · cases x <;> simp [isConst] at hc; exact eqGuard_nil_constL op t _ _
            · cases y <;> simp [isConst] at hc; exact eqGuard_nil_constR op t _ _
          · cases h
    · cases hX with
      | c hx => cases hx; cases hY with
        | c hy => cases hy; cases h; exact run_eq_of (eqGuard_at_iface _ _ _ _ _ _ _) (equalIn_heldnil h2 9999 _ _ w) hop ⟨rfl, rfl⟩
    · cases hX with
      | c hx => cases hx; cases hY with
        | c hy => cases hy; cases h; exact run_eq_of (eqGuard_nil_iface _ _ _ _ _ _) (equalIn_nilheld h2 9999 _ _ w) hop ⟨rfl, rfl⟩
    · cases h
  · rename_i hk
    rw [h4] at hk
    cases d <;> simp [kOf] at hk
    split at h
    · cases hX with
      | c hx => cases hx; cases hY with
        | c hy => cases hy; cases h; exact run_eq_of (eqGuard_at_pointer _ _ _ _ _ _) (equalIn_pnil h2 9999 w) hop ⟨rfl, rfl⟩
    · obtain ⟨b', o0, cs, hv, _⟩ := R.ipCells hX
      subst hv
      cases hY with
      | c hy => cases hy; cases h; exact run_eq_of (eqGuard_at_pointer _ _ _ _ _ _) (equalIn_psome h2 9999 _ w) hop ⟨rfl, rfl⟩
    · obtain ⟨b', o0, cs, hv, _⟩ := R.ipCells hY
      subst hv
      cases hX with
      | c hy => cases hy; cases h; exact run_eq_of (eqGuard_at_pointer _ _ _ _ _ _) (equalIn_somep h2 9999 _ w) hop ⟨rfl, rfl⟩
    · cases h
  · rename_i hk
    rw [h4] at hk
    cases d <;> simp [kOf] at hk
    split at h
    · cases h
      have := hye _ rfl
      subst this
      cases hX with
      | sl b o cap es _ _ _ _ _ _ _ _ hh =>
        cases hh
        exact run_eq_of (eqGuard_at_slice _ _ _ _ _ _ _ _) (equalIn_slnil h2 9999 _ _ _ _ _ w) hop ⟨rfl, rfl⟩
    · cases h
      have := hye _ rfl
      subst this
      cases hX with
      | c hh =>
        cases hh
        rename_i ad _ _
        cases ad with
        | none => exact run_eq_of (eqGuard_at_slice _ _ _ _ _ _ _ _) (equalIn_slnn h2 9999 _ _ _ _ w) hop ⟨rfl, rfl⟩
        | some x => exact run_eq_of (eqGuard_at_slice _ _ _ _ _ _ _ _) (equalIn_slnil h2 9999 _ _ _ _ _ w) hop ⟨rfl, rfl⟩
    · cases h
  · cases h
theorem R.cinv {T : Nat → Nat → Prop} {u v : Value} (h : R T w [.c u] [v] []) : v = u := by
  cases h with
  | c h => rfl
theorem eqC_ok {T : Nat → Nat → Prop} {f : Field} {i : Nat} {k : K} (hf : eqFld P i f = some k) {X Y : V} {u v : Value} {b : Bool} (h : eqC k X Y = some b) (hX : R T w [X] [u] []) (hY : R T w [Y] [v] []) (d : Nat) :
    f.offset = i ∧ f.name ≠ "_" ∧ (isAgg f.type).run P w = .ok false w ∧ (Op.equalIn (d + 1) f.type u v).run P w = .ok b w := by
  unfold eqFld at hf
  split at hf
  rotate_left
  · cases hf
  rename_i h0
  refine ⟨h0.1, h0.2, ?_⟩
  split at hf
  · rename_i k' hk
    cases hf
    refine ⟨by simp [isAgg, run_underlying hk], ?_⟩
    unfold eqC at h
    split at h
    · rename_i heq; cases heq
      obtain rfl := hX.cinv; obtain rfl := hY.cinv
      split at h
      · rename_i he; subst he; cases h; exact run_equalIn_int w d f.type _ _ _ _ hk
      · cases h
    · rename_i heq; cases heq
    · rename_i heq; cases heq
    · cases h
  · rename_i hk
    cases hf
    refine ⟨by simp [isAgg, run_underlying hk], ?_⟩
    unfold eqC at h
    split at h
    · rename_i heq; cases heq
    · obtain rfl := hX.cinv; obtain rfl := hY.cinv
      cases h
      exact equalIn_bool hk d _ _ w
    · rename_i heq; cases heq
    · cases h
  · rename_i hk
    cases hf
    refine ⟨by simp [isAgg, run_underlying hk], ?_⟩
    unfold eqC at h
    split at h
    · rename_i heq; cases heq
    · rename_i heq; cases heq
    · obtain rfl := hX.cinv; obtain rfl := hY.cinv
      cases h
      exact run_equalIn_string w d f.type _ _ hk
    · cases h
  · cases hf
theorem eqCs_ok {T : Nat → Nat → Prop} {us vs : Array Value} (d : Nat) : ∀ {fs : List Field} {i : Nat} {ks : List K} {xs ys : List V} {b : Bool}, eqFlds P i fs = some ks → eqCs ks xs ys = some b →
    R T w xs (us.toList.drop i) [] → R T w ys (vs.toList.drop i) [] → (Op.eqFields (d + 1) us vs fs).run P w = .ok b w := by
  intro fs
  induction fs with
  | nil =>
    intro i ks xs ys b hf h hX hY
    simp only [eqFlds] at hf; cases hf
    unfold eqCs at h
    split at h
    · cases h; simp [Op.eqFields]
    · rename_i heq; cases heq
    · cases h
  | cons f fs ih =>
    intro i ks xs ys b hf h hX hY
    simp only [eqFlds] at hf
    split at hf
    rotate_left
    · cases hf
    rename_i k ks' hk hks
    cases hf
    unfold eqCs at h
    split at h
    · simp_all
    · rename_i k0 ks0 x xs y ys heq
      cases heq
      split at h
      rotate_left
      · cases h
      rename_i a b' ha hb
      cases h
      obtain ⟨u, us', f1, f2, e1, e2, m1, m2⟩ := R.uncons hX
      obtain ⟨v, vs', g1, g2, e3, e4, n1, n2⟩ := R.uncons hY
      simp at e2 e4
      obtain ⟨rfl, rfl⟩ := e2
      obtain ⟨rfl, rfl⟩ := e4
      obtain ⟨q1, q2, q3, q4⟩ := eqC_ok hk ha m1 n1 d
      have hu : us[i]? = some u := by
        rw [← Array.getElem?_toList]
        have := congrArg (·[0]?) e1
        simpa [List.getElem?_drop] using this
      have hv : vs[i]? = some v := by
        rw [← Array.getElem?_toList]
        have := congrArg (·[0]?) e3
        simpa [List.getElem?_drop] using this
      have d1 : us.toList.drop (i + 1) = us' := by rw [← List.drop_drop, e1]; simp
      have d2 : vs.toList.drop (i + 1) = vs' := by rw [← List.drop_drop, e3]; simp
      have hp : ∀ (cs : Array Value) (z : Value), cs[i]? = some z → (part f.type cs f.offset).run P w = .ok z w := by
        intro cs z hz
        simp [part, q3, q1, hz]
      simp only [Op.eqFields, if_pos q2, Sem.run_bind, hp us u hu, hp vs v hv, Result.andThen_ok, q4]
      have := ih hks hb (by rw [d1]; exact m2) (by rw [d2]; exact n2)
      cases a
      · simp
      · simp [this]
    · cases h
theorem primEq_ok {T : Nat → Nat → Prop} {t : TypeId} {x y : Operand} {X Y : V} {b : Bool} (h : primEq P t X Y = some b) {u v : Value} (hX : R T w [X] [u] []) (hY : R T w [Y] [v] []) {op : BinOp} (hop : op = .eql ∨ op = .neq) :
    ((do eqGuard op t x y u v; binOp op t u v : Sem Value)).run P w = .ok (.bool (neqF op b)) w := by
  unfold primEq at h
  split at h
  rotate_left
  · cases h
  split at h
  rotate_left
  · cases h
  rename_i l r _ ks hks
  unfold eqT at hks
  split at hks
  rotate_left
  · cases hks
  rename_i fs ht
  split at hks
  rotate_left
  · cases hks
  rename_i hc
  have hA : ∀ {l : List V} {u : Value}, R T w [.agg l] [u] [] → ∃ us : Array Value, u = .agg us ∧ R T w l us.toList [] := by
    intro l u hu
    obtain ⟨f, hf, hu⟩ : ∃ f, f = [] ∧ R T w [.agg l] [u] f := ⟨_, rfl, hu⟩
    cases hu with
    | agg g1 g2 g3 =>
      cases g3
      simp only [List.append_nil] at hf
      rw [hf] at g1
      exact ⟨_, rfl, by simpa using g1⟩
  obtain ⟨us, rfl, hx⟩ := hA hX
  obtain ⟨vs, rfl, hy⟩ := hA hY
  have hfo : P.fieldsOf t = fs := by simp [Program.fieldsOf, ht]
  have hE : (Op.equalIn 10000 t (.agg us) (.agg vs)).run P w = .ok b w := by
    rw [run_equalIn_struct w 9999 t us vs (by rw [hfo]; exact ht) hc.1, hfo]
    exact eqCs_ok 9998 hks h (by simpa using hx) (by simpa using hy)
  have hG := run_eqGuard_agg w op t x y us vs hc.2
  rcases hop with rfl | rfl
  · simp only [Sem.run_bind, hG, Result.andThen_ok, run_eql_struct, hE, neqF]
  · simp only [Sem.run_bind, hG, Result.andThen_ok, run_neq_struct, hE, neqF]
theorem evBin_ok (h : G C S F Γ a w) {op : BinOp} {t : TypeId} {x y : Operand} {e : E} (he : evBin P Γ op t x y = some (Γ1, e)) :
    ∃ v, ((do eqGuard op t x y (a.eval x) (a.eval y); binOp op t (a.eval x) (a.eval y) : Sem Value)).run P w = .ok v w ∧ Out C Γ1 e a w v := by
  have hX := h.look x
  have hY := h.look y
  have hxe : ∀ z, x = .const z → a.eval x = z := fun z e => by subst e; rfl
  have hye : ∀ z, y = .const z → a.eval y = z := fun z e => by subst e; rfl
  simp only [evBin] at he
  split at he
  · rename_i u v hu hv
    have eu := lookInt h hu
    have ev := lookInt h hv
    rw [hu] at hX; rw [hv] at hY
    split at he
    · rename_i z hz
      cases he
      rw [eu, ev]
      exact ⟨z, prim_ok hz P t x y w, Out.pure h (.c .nil)⟩
    · split at he
      · rename_i ht
        split at he
        · rename_i z hz
          cases he
          obtain ⟨i, d, z', h1, h2, h3, h4, _⟩ := ti_ok ht.1
          rw [h4] at ht
          have hd : d = .bool := by cases d <;> simp [kOf] at ht; rfl
          subst hd
          rw [eu, ev]
          exact ⟨z, primB_ok hz h2 x y w, Out.pure h (.c .nil)⟩
        · cases he
      · split at he
        · rename_i ht
          split at he
          · cases he
            exact ⟨_, primNil_ok (op := .eql) ht (by assumption) hX hY hxe hye (.inl rfl), Out.pure h (.c .nil)⟩
          · cases he
            exact ⟨_, primNil_ok (op := .neq) ht (by assumption) hX hY hxe hye (.inr rfl), Out.pure h (.c .nil)⟩
          · cases he
        · cases he
  · split at he
    · rename_i ht
      split at he
      · rename_i b hb
        cases he
        exact ⟨_, primNil_ok (op := .eql) ht hb hX hY hxe hye (.inl rfl), Out.pure h (.c .nil)⟩
      · rename_i b hb
        cases he
        exact ⟨_, primNil_ok (op := .neq) ht hb hX hY hxe hye (.inr rfl), Out.pure h (.c .nil)⟩
      · split at he
        · rename_i hb
          cases he
          exact ⟨_, primEq_ok (op := .eql) hb hX hY (.inl rfl), Out.pure h (.c .nil)⟩
        · cases he
      · split at he
        · rename_i hb
          cases he
          exact ⟨_, primEq_ok (op := .neq) hb hX hY (.inr rfl), Out.pure h (.c .nil)⟩
        · cases he
      · cases he
    · cases he
def zeroV (l : List Value) : List V := l.map constV
theorem R.zero (l : List Value) : R S w (zeroV l) l [] := by
  induction l with
  | nil => exact .nil
  | cons v l ih =>
    refine R.cons (f1 := []) ?_ ih
    simp only [constV]
    split
    · exact .uq0 .nil
    · exact .c .nil
theorem evAlloc_ok (h : G C S F Γ a w) {t : TypeId} (ht : (ti P t).ok = true) : ∃ v w', (Instr.alloc t true (.tuple #[])).run P w = .ok v w' ∧ Out C Γ (.p (.own (zeroV (ti P t).zero))) a w' v ∧ ∃ ob, w' = w.alloc ob := by
  obtain ⟨i, d, z, h1, h2, h3, h4, h5, h6, h7, h8, _⟩ := ti_ok ht
  have hz : (zeroValue t).run P w = .ok z w := by simp [zeroValue, typeInfo, h1, h3]
  rw [h7]
  refine ⟨_, _, ?_, Out.new h (R.zero z.cells.toList) h8 t, _, rfl⟩
  simp only [Instr.alloc, Sem.run_bind, hz, Result.andThen_ok, newVar, newRow, run_newObj, Sem.run_pure]
  rfl
def cellsB : V → Bool
  | .agg _ => true
  | x => leafB x
theorem R.toCells {y : V} {v : Value} (h : R S w [y] [v] []) (hy : cellsB y = true) : R S w y.cells v.cells.toList [] ∧ ∀ u ∈ v.cells.toList, u.oneCell' = true := by
  by_cases hl : leafB y = true
  · have h1 := h.leafV hl
    have e1 : v.cells = #[v] := by cases v <;> simp_all [Value.cells, Value.oneCell']
    rw [e1, h.leaf h1]
    refine ⟨h, ?_⟩
    intro u hu; simp at hu; subst hu; exact h1
  · cases y <;> simp_all [cellsB, leafB]
    obtain ⟨f, hf, h⟩ : ∃ f, f = [] ∧ R S w [_] [v] f := ⟨_, rfl, h⟩
    cases h with
    | agg g1 g2 g3 =>
      cases g3
      simp only [List.append_nil] at hf
      rw [hf] at g1
      exact ⟨by simpa [V.cells, Value.cells] using g1, by simpa [Value.cells] using g2⟩
theorem R.toCellsO {y : V} {v : Value} {fp : List Nat} (h : R S w [y] [v] fp) (hy : cellsB y = true) : R S w y.cells v.cells.toList fp ∧ ∀ u ∈ v.cells.toList, u.oneCell' = true := by
  by_cases hl : leafB y = true
  · have h1 := h.leafV hl
    have e1 : v.cells = #[v] := by cases v <;> simp_all [Value.cells, Value.oneCell']
    rw [e1, h.leaf h1]
    refine ⟨h, ?_⟩
    intro u hu; simp at hu; subst hu; exact h1
  · cases y <;> simp_all [cellsB, leafB]
    cases h with
    | agg g1 g2 g3 =>
      cases g3
      exact ⟨by simpa [V.cells, Value.cells] using g1, by simpa [Value.cells] using g2⟩
theorem Out.newO (h : G C S F Γ a w) {l : List V} {cs : List Value} {fy : List Nat} (hR : R S w l cs fy) (hn : fy.Nodup) (hd : ∀ s b, b ∈ fy → b ∉ F s) (hS : ∀ b o, b ∈ fy → ¬ S b o) (hm : ∀ b, b ∈ fy → b < w.heap.size ∧ (b ∈ C.fp0 ∨ C.w0.heap.size ≤ b)) (h1 : ∀ u ∈ cs, u.oneCell' = true) (e : TypeId) :
    Out C Γ (.p (.own l)) a (w.alloc (.cells cs.toArray e)) (.pointer (some ⟨w.heap.size, 0, none⟩)) := by
  have hG := h.alloc (.cells cs.toArray e)
  refine ⟨S, F, w.heap.size :: fy, hG, ?_, ?_, ?_, ?_, ?_, trivial⟩
  · have hR' := hR.mono (S' := S) (w' := w.alloc (.cells cs.toArray e)) (fun _ _ h => h) (fun b k hb => cell_alloc_lt w _ b k (h.mem.lt b k hb)) (fun b hb => heap_alloc_old w _ b (hm b hb).1)
    simpa [E.cont] using R.own (xs := []) (vs := []) (fp := []) w.heap.size e hR' h1 (by show (w.heap.push _)[w.heap.size]? = _; simp) .nil
  · rw [List.nodup_cons]; exact ⟨fun hb => by have := (hm _ hb).1; omega, hn⟩
  · intro s b hb hb'
    rcases List.mem_cons.1 hb with rfl | hb
    · have := (h.mine s _ hb').1; omega
    · exact hd s b hb hb'
  · intro b o hb hs
    rcases List.mem_cons.1 hb with rfl | hb
    · have := h.mem.lt _ _ hs; omega
    · exact hS b o hb hs
  · intro b hb
    rcases List.mem_cons.1 hb with rfl | hb
    · exact ⟨by simp, .inr h.mem.size⟩
    · have := hm b hb; exact ⟨by simp; omega, this.2⟩
def evBox (Γ : Env) (x : Operand) : Option (Env × E) :=
  match tkf Γ (rd Γ x) with
  | some (Γ1, y) => if cellsB y then some (Γ1, .p (.own y.cells)) else none
  | none => none
theorem evBox_ok (h : G C S F Γ a w) {t : TypeId} {x : Operand} {e : E} (he : evBox Γ x = some (Γ1, e)) : ∃ v w', (Instr.box t (a.eval x)).run P w = .ok v w' ∧ Out C Γ1 e a w' v := by
  obtain ⟨ha, hc⟩ := h.rdAli x
  simp only [evBox] at he
  split at he
  · rename_i Γ2 y hf
    split at he
    · rename_i hy
      cases he
      obtain ⟨S', F', fy, g1, g2, g3, g4, g5, g6⟩ := tkf_ok h hf ha hc
      obtain ⟨h1, h2⟩ := g2.toCellsO hy
      refine ⟨_, _, ?_, Out.newO g1 h1 g3 g4 g5 g6 h2 t⟩
      simp only [Instr.box, newVar, newRow, Sem.run_bind, run_newObj, Result.andThen_ok, Sem.run_pure]
      rfl
    · cases he
  · cases he
def evExtract (Γ : Env) (x : Operand) (i : Nat) : Option (Env × E) :=
  match rd Γ x with
  | .p (.tup l) => match l[i]? with
    | some y => some (Γ, .p y)
    | none => none
  | .al r [] => match cont Γ r with
    | .tup l => match l[i]? with
      | some y => if pureB y then some (Γ, .p y) else some (upd Γ r [] (.tup (l.set i .any)), .p y)
      | none => none
    | _ => none
  | _ => none
theorem run_extract (vs : Array Value) (i : Nat) (v : Value) (h : vs[i]? = some v) (w : World) : (Instr.extract (.tuple vs) i).run P w = .ok v w := by
  simp [Instr.extract, h]
theorem evExtract_ok (h : G C S F Γ a w) {x : Operand} {i : Nat} {e : E} (he : evExtract Γ x i = some (Γ1, e)) : ∃ v, (Instr.extract (a.eval x) i).run P w = .ok v w ∧ Out C Γ1 e a w v := by
  obtain ⟨ha, hc⟩ := h.rdAli x
  simp only [evExtract] at he
  split at he
  · rename_i l hrd
    split at he
    · rename_i y hy
      cases he
      rw [hrd] at hc
      simp only [E.cont] at hc
      obtain ⟨f, hf, hc⟩ : ∃ f, f = [] ∧ R S w [.tup l] [a.eval x] f := ⟨_, rfl, hc⟩
      generalize hev : a.eval x = xv at hc ha
      cases hc with
      | tup g1 g3 =>
        cases g3
        simp only [List.append_nil] at hf
        rw [hf] at g1
        obtain ⟨v, hv, hR⟩ := g1.one hy
        exact ⟨v, run_extract _ i v (by simpa using hv) w, Out.pure h hR⟩
    · cases he
  · rename_i r hrd
    split at he
    · rename_i l hl
      split at he
      · rename_i y hy
        have hD : (cont Γ r).getP [] = some (.tup l) := by simp [V.getP, hl]
        rw [hrd] at ha
        have hv := ha _ hD
        obtain ⟨u, fc, fr, k1, k2, k3, k4, k5⟩ := h.upd (D' := .tup (l.set i .any)) hD (h.rlt hD (by simp))
        rw [k1] at hv; cases hv
        generalize hev : a.eval x = xv at k1 k2 k5
        cases k2 with
        | @tup _ cs fq _ _ _ g1 g3 =>
          cases g3
          obtain ⟨v, f0, f1, f2, hvi, hfe, hR1, hA, hB⟩ := g1.at i y hy
          have hrun := run_extract (P := P) cs.toArray i v (by simpa using hvi) w
          split at he
          · rename_i hp
            cases he
            rw [hR1.pure1 hp] at hR1
            exact ⟨v, hrun, Out.pure h hR1⟩
          · cases he
            have hnd := List.nodup_append.1 (k3.nodup_iff.1 (h.nodup r))
            have hnq : fq.Nodup := by simpa using hnd.1
            have hin : ∀ b, b ∈ fr → b ∈ F r := fun b hb => k3.mem_iff.2 (List.mem_append_right _ hb)
            have hin' : ∀ b, b ∈ fq → b ∈ F r := fun b hb => k3.mem_iff.2 (List.mem_append_left _ (by simpa using hb))
            rw [hfe, List.append_assoc] at hnq
            have n1 := List.nodup_append.1 hnq
            have n2 := List.nodup_append.1 n1.2.1
            have hil : i < l.length := by
              rcases Nat.lt_or_ge i l.length with h' | h'
              · exact h'
              · simp [List.getElem?_eq_none h'] at hy
            have hlc := g1.length
            have e1 : l.take i ++ .any :: l.drop (i + 1) = l.set i .any := (List.set_eq_take_append_cons_drop.trans (if_pos hil)).symm
            have e2 : cs.take i ++ v :: cs.drop (i + 1) = cs := by
              have : cs[i]? = some v := hvi
              have hic : i < cs.length := by omega
              have e3 : cs[i] = v := by simpa [List.getElem?_eq_getElem hic] using this
              rw [← e3, ← List.drop_eq_getElem_cons hic, List.take_append_drop]
            have hnew := R.append hA (R.cons (R.any (S := S) (w := w) (v := v) .nil) hB)
            rw [e1, e2] at hnew
            have hRt : R S w [.tup (l.set i .any)] [.tuple cs.toArray] (f0 ++ f2) := by simpa using R.tup hnew .nil
            have hmem : ∀ b, b ∈ f0 ++ f2 → b ∈ fq := by
              intro b hb; rw [hfe]; rcases List.mem_append.1 hb with hb | hb <;> simp [hb]
            obtain ⟨fp', hp', hG⟩ := k5 S w (f0 ++ f2) h.mem (fun _ _ h => h) (fun _ _ _ => rfl) (fun _ _ => rfl) (fun _ _ _ _ => rfl) (Nat.le_refl _) hRt
              (by rw [List.nodup_append]; exact ⟨n1.1, n2.2.1, fun x hx y hy => n1.2.2 x hx y (List.mem_append_right _ hy)⟩)
              (fun b hb hb' => hnd.2.2 b (by simpa using hmem b hb) b hb' rfl) (fun s b hs hb => h.disj r s b (fun e => hs e.symm) (hin' b (hmem b hb)))
              (fun b o hb => h.apart r b o (hin' b (hmem b hb))) (fun b o hb => h.apart r b o (hin b hb)) (fun s b o _ hb => h.apart s b o hb) (fun b hb => h.mine r b (hin' b (hmem b hb)))
              (by simp [V.row])
            have hf1 : ∀ b, b ∈ f1 → b ∈ fq := by intro b hb; rw [hfe]; simp [hb]
            refine ⟨v, hrun, S, _, f1, hG, hR1, n2.1, ?_, fun b o hb => h.apart r b o (hin' b (hf1 b hb)), fun b hb => h.mine r b (hin' b (hf1 b hb)), trivial⟩
            intro s b hb hb'
            split at hb'
            · rcases List.mem_append.1 (hp'.mem_iff.1 hb') with hb' | hb'
              · rcases List.mem_append.1 hb' with hb' | hb'
                · exact n1.2.2 b hb' b (List.mem_append_left _ hb) rfl
                · exact n2.2.2 b hb b hb' rfl
              · exact hnd.2.2 b (by simpa using hf1 b hb) b hb' rfl
            · rename_i hs
              exact h.disj r s b (fun e => hs e.symm) (hin' b (hf1 b hb)) hb'
      · cases he
    · cases he
  · cases he
end
end Go.Am
end
section
namespace Go.Am
open Go.RowKit
structure Far (fy : List Nat) (w w' : World) : Prop where
  os : w'.os = w.os
  tape : w'.tape = w.tape
  output : w'.output = w.output
  size : w.heap.size ≤ w'.heap.size
  block : ∀ k, k < w.heap.size → k ∉ fy → w'.heap[k]? = w.heap[k]?
theorem Far.refl (fy : List Nat) (w : World) : Far fy w w := ⟨rfl, rfl, rfl, Nat.le_refl _, fun _ _ _ => rfl⟩
section
variable {S : Nat → Nat → Prop} {w : World} {P : Program}
theorem run_append_zero {t ty e : TypeId} {i : TypeInfo} (ht : P.underlying t = some (.slice e)) (hi : P.info? e = some i) (base : Option Addr) (n cap : Nat) (hn : n ≤ cap) (b : Option Addr) (c : Nat) (w : World) :
    (Builtin.append_ #[t, t] ty #[.slice base n cap, .slice b 0 c]).run P w = .ok (.slice base n cap) w := by
  cases b <;> cases base <;> simp [Builtin.append_, run_underlying ht, sizeOf, typeInfo, hi, Builtin.lenOf, Builtin.firstCells, hn, loadCells, loadCellsFrom, storeCells]
theorem zeroCells_size (z : Array Value) (n : Nat) : (Builtin.zeroCells z n).size = n * z.size := by simp [Builtin.zeroCells]
theorem run_append_room' {t ty e : TypeId} {i : TypeInfo} (ht : P.underlying t = some (.slice e)) (hi : P.info? e = some i) (g sLen sCap : Nat) (cur : Array Value) (e' : TypeId) (hg : w.heap[g]? = some (.cells cur e' (0, 0)))
    (x : Addr) (m c : Nat) (news : List Value) (hl : news.length = m * i.size) (hnews : ∀ j u, news[j]? = some u → w.cell? (x.add j) = some u) (h1 : ∀ u ∈ news, u.oneCell' = true)
    (hroom : sLen + m ≤ sCap) (hfit : sLen * i.size + news.length ≤ cur.size) :
    (Builtin.append_ #[t, t] ty #[.slice (some ⟨g, 0, none⟩) sLen sCap, .slice (some x) m c]).run P w =
      .ok (.slice (some ⟨g, 0, none⟩) (sLen + m) sCap) (w.setRow g (cur.toList.take (sLen * i.size) ++ news ++ cur.toList.drop (sLen * i.size + news.length)).toArray) := by
  have h2 := run_firstCells_some (P := P) w i.size m x m c news hl hnews
  have h3 := run_storeCells_at P g (sLen * i.size) e' news 0 cur w hg (by simpa using hfit) h1
  rw [Nat.add_zero] at h3
  simp [Builtin.append_, run_underlying ht, sizeOf, typeInfo, hi, Builtin.lenOf, hroom, h2, Addr.add_lit, h3]
theorem R.app {t ty e : TypeId} {i : TypeInfo} {z : Value} (ht : P.underlying t = some (.slice e)) (hi : P.info? e = some i) (hz : i.zero = some z) (hzs : z.cells.size = i.size) (hsz : 0 < i.size)
    {l l2 : List V} {v : Value} {fy : List Nat} (h : R S w [.uq l] [v] fy) (hny : fy.Nodup) (hap : ∀ b o, b ∈ fy → ¬ S b o) (hlt : ∀ b o, S b o → b < w.heap.size) (hfl : ∀ b, b ∈ fy → b < w.heap.size)
    (hl : ∀ y ∈ l, y.cells.length = i.size) (hl2 : ∀ y ∈ l2, y.cells.length = i.size)
    {x : Value} {news : List Value} (hR : R S w (l2.flatMap V.cells) news []) (h1 : ∀ u ∈ news, u.oneCell' = true)
    (hx : l2 = [] ∧ (∃ b c, x = .slice b 0 c) ∨ l2 ≠ [] ∧ ∃ ad c, x = .slice (some ad) l2.length c ∧ ∀ j u, news[j]? = some u → w.cell? (ad.add j) = some u)
    (hm : l.length + l2.length ≤ maxLen) (hb : (l.length + l2.length) * i.bytes ≤ 140737488355328) :
    ∃ v' w' fy', (Builtin.append_ #[t, t] ty #[v, x]).run P w = .ok v' w' ∧ R S w' [.uq (l ++ l2)] [v'] fy' ∧ fy'.Nodup ∧ (∀ b, b ∈ fy' → b ∈ fy ∨ w.heap.size ≤ b) ∧ (∀ b, b ∈ fy' → b < w'.heap.size) ∧ Far fy w w' := by
  rcases hx with ⟨rfl, b, c, rfl⟩ | ⟨hne, ad, c, rfl, hnews⟩
  · rw [List.append_nil]
    refine ⟨v, w, fy, ?_, h, hny, fun b hb => .inl hb, hfl, Far.refl _ _⟩
    cases h with
    | uq0 hh => cases hh; exact run_append_zero ht hi none 0 0 (Nat.le_refl _) b c w
    | uq b' cap e' es cur g1 g2 g3 g4 g5 g6 g7 g8 g9 hh => cases hh; exact run_append_zero ht hi _ _ cap g6 b c w
  · have hpos : 0 < l2.length := by cases l2 with | nil => exact absurd rfl hne | cons _ _ => simp
    have hnl : news.length = l2.length * i.size := by rw [← hR.length]; exact flat_len hl2
    have hne' : l ++ l2 ≠ [] := by simp [hne]
    have hall : ∀ y ∈ l ++ l2, y.cells.length = i.size := by
      intro y hy; rcases List.mem_append.1 hy with hy | hy
      · exact hl y hy
      · exact hl2 y hy
    have hsmall : l.length + l2.length ≤ 9223372036854775807 := by simpa only [maxLen] using hm
    have grown : ∀ {cs : List Value} {fq : List Nat}, R S w (l.flatMap V.cells) cs fq → (∀ u ∈ cs, u.oneCell' = true) → fq.Nodup → (∀ b, b ∈ fq → b ∈ fy) → ∀ old, old < l.length + l2.length →
        R S (w.drew.alloc (.cells (cs.toArray ++ news.toArray ++ Builtin.zeroCells z.cells (grownCap w (l.length + l2.length) old e - (l.length + l2.length))) e))
          [.uq (l ++ l2)] [.slice (some ⟨w.heap.size, 0, none⟩) (l.length + l2.length) (grownCap w (l.length + l2.length) old e)] (w.heap.size :: fq) := by
      intro cs fq hcs h1c hnq hsub old hold
      have hge := grownCap_ge w (l.length + l2.length) old e
      have hcm := grownCap_le_maxLen w (l.length + l2.length) old e hm
      have hcl : cs.length = l.length * i.size := by rw [← hcs.length]; exact flat_len hl
      have hA : R S (w.drew.alloc (.cells (cs.toArray ++ news.toArray ++ Builtin.zeroCells z.cells (grownCap w (l.length + l2.length) old e - (l.length + l2.length))) e)) ((l ++ l2).flatMap V.cells) (cs ++ news) (fq ++ []) := by
        rw [List.flatMap_append]
        have hcell : ∀ b o, S b o → (w.drew.alloc (.cells (cs.toArray ++ news.toArray ++ Builtin.zeroCells z.cells (grownCap w (l.length + l2.length) old e - (l.length + l2.length))) e)).cell? ⟨b, o, none⟩ = w.cell? ⟨b, o, none⟩ :=
          fun b o hs => cell_alloc_lt w.drew _ b o (hlt b o hs)
        exact R.append (hcs.mono (fun _ _ h => h) hcell (fun b hb => Below.heap_alloc w.drew _ b (hfl b (hsub b hb)))) (hR.mono (fun _ _ h => h) hcell (by simp))
      rw [List.append_nil] at hA
      have := R.uq (S := S) (xs := []) (vs := []) (fp := []) w.heap.size (grownCap w (l.length + l2.length) old e) e i.size _ hsz hall hA (fun u hu => by
          rcases List.mem_append.1 hu with hu | hu
          · exact h1c u hu
          · exact h1 u hu) (heap_alloc_new w.drew _) (by simpa using hge) ⟨hcm, fun e => absurd e hne'⟩
        (by simp only [Array.size_append, List.size_toArray, zeroCells_size, hzs, hcl, hnl, ← Nat.add_mul]; congr 1; omega)
        (by
          simp only [Array.toList_append, List.append_assoc, List.length_append]
          rw [← List.append_assoc]
          have : (cs ++ news).length = (l.length + l2.length) * i.size := by rw [List.length_append, hcl, hnl, Nat.add_mul]
          rw [← this]; exact List.take_left) R.nil
      simpa using this
    cases h with
    | uq0 hh =>
      cases hh
      have hr := run_append_nil (P := P) w t ty e i z ht hi hz ad l2.length c news hnl hnews hpos (by simp at hsmall; omega) (by simp at hb; omega)
      have hg := grown (cs := []) (fq := []) .nil (by simp) List.nodup_nil (by simp) 0 (by simp; omega)
      simp only [List.length_nil, Nat.zero_add, List.nil_append] at hg ⊢
      refine ⟨_, _, [w.heap.size], hr, ?_, by simp, fun b hb => .inr (by simp at hb; omega), fun b hb => by simp at hb; subst hb; simp, ⟨rfl, rfl, rfl, by simp, fun k hk _ => heap_alloc_old w.drew _ k hk⟩⟩
      simpa using hg
    | @uq _ cs fq _ _ _ b cap e' es cur g1 g2 g3 g4 g5 g6 g7 g8 g9 hh =>
      cases hh
      have hes : l ≠ [] → es = i.size := by
        intro hl0
        cases l with
        | nil => exact absurd rfl hl0
        | cons y l => rw [← g2 y (by simp)]; exact hl y (by simp)
      have hcs : cur.size = cap * i.size := by
        by_cases hl0 : l = []
        · rw [g8, g7.2 hl0]; simp
        · rw [g8, hes hl0]
      have htk : cur.toList.take (l.length * i.size) = cs := by
        by_cases hl0 : l = []
        · subst hl0; simpa using g9
        · rw [← hes hl0]; exact g9
      have hcl : cs.length = l.length * i.size := by rw [← g3.length]; exact flat_len hl
      have hbin : b ∈ (b :: fq ++ []) := by simp
      have hnq : fq.Nodup := by simp at hny; exact hny.2
      have hbq : b ∉ fq := by simp at hny; exact hny.1
      by_cases hroom : l.length + l2.length ≤ cap
      · have hfit : l.length * i.size + news.length ≤ cur.size := by rw [hnl, hcs, ← Nat.add_mul]; exact Nat.mul_le_mul_right _ hroom
        have hr := run_append_room' ht hi b l.length cap cur e' g5 ad l2.length c news hnl hnews h1 hroom hfit (ty := ty)
        have hBut : But b w (w.setRow b (cur.toList.take (l.length * i.size) ++ news ++ cur.toList.drop (l.length * i.size + news.length)).toArray) :=
          ⟨rfl, rfl, rfl, by simp, fun k hk => setRow_other w b k _ hk⟩
        have hne2 : ∀ b' o', S b' o' → b' ≠ b := fun b' o' hs e => hap b o' hbin (e ▸ hs)
        have hA : R S (w.setRow b (cur.toList.take (l.length * i.size) ++ news ++ cur.toList.drop (l.length * i.size + news.length)).toArray) ((l ++ l2).flatMap V.cells) (cs ++ news) (fq ++ []) := by
          rw [List.flatMap_append]
          exact R.append (g3.mono (fun _ _ h => h) (fun b' o' hs => hBut.cell (hne2 b' o' hs)) (fun k hk => hBut.block k (fun e => hbq (e ▸ hk)))) (hR.mono (fun _ _ h => h) (fun b' o' hs => hBut.cell (hne2 b' o' hs)) (by simp))
        rw [List.append_nil] at hA
        have := R.uq (S := S) (xs := []) (vs := []) (fp := []) b cap e' i.size _ hsz hall hA (fun u hu => by
            rcases List.mem_append.1 hu with hu | hu
            · exact g4 u hu
            · exact h1 u hu) (setRow_heap w b cur _ e' _ g5) (by simpa using hroom) ⟨g7.1, fun e => absurd e hne'⟩
          (by simp only [List.size_toArray, List.length_append, List.length_take, List.length_drop, Array.length_toList]; omega)
          (by
            simp only [List.length_append]
            rw [htk]
            have : (cs ++ news).length = (l.length + l2.length) * i.size := by rw [List.length_append, hcl, hnl, Nat.add_mul]
            rw [← this]; exact List.take_left) R.nil
        rw [List.length_append] at this
        refine ⟨_, _, _, hr, this, hny, fun k hk => .inl hk, fun k hk => by rw [hBut.size]; exact hfl k hk, ⟨rfl, rfl, rfl, by simp, fun k _ hk => hBut.block k (fun e => hk (e ▸ hbin))⟩⟩
      · have holds : ∀ j u, cs[j]? = some u → w.cell? ((⟨b, 0, none⟩ : Addr).add j) = some u := by
          intro j u hu
          rw [Addr.add_lit, cell_of_row w b _ cur e' (0, 0) g5]
          have hj : j < l.length * i.size := by
            rcases Nat.lt_or_ge j cs.length with h' | h'
            · omega
            · simp [List.getElem?_eq_none h'] at hu
          rw [← htk, List.getElem?_take_of_lt hj] at hu
          simpa using hu
        have hr := run_append_grow (P := P) w t ty e i z ht hi hz ⟨b, 0, none⟩ l.length cap cs hcl holds ad l2.length c news hnl hnews (by omega) (by omega) (growslice_fits (by omega) hb)
        have hg := grown g3 g4 hnq (fun k hk => by simp [hk]) cap (by omega)
        refine ⟨_, _, _, hr, hg, ?_, fun k hk => ?_, fun k hk => ?_, ⟨rfl, rfl, rfl, by simp, fun k hk _ => heap_alloc_old w.drew _ k hk⟩⟩
        · rw [List.nodup_cons]
          refine ⟨fun hk => ?_, hnq⟩
          have := hfl w.heap.size (by simp [hk])
          omega
        · rcases List.mem_cons.1 hk with rfl | hk
          · exact .inr (Nat.le_refl _)
          · exact .inl (by simp [hk])
        · rcases List.mem_cons.1 hk with rfl | hk
          · simp
          · have := hfl k (by simp [hk]); simp; omega
end
end Go.Am
end
section
namespace Go.Am
open Go.RowKit
def chk {α : Type} (p : Prop) [Decidable p] (x : Option α) : Option α := if p then x else none
theorem chk_pos {α : Type} {p : Prop} [Decidable p] {x : Option α} (h : p) : chk p x = x := if_pos h
theorem chk_some {α : Type} {p : Prop} [Decidable p] {x : Option α} {y : α} (h : chk p x = some y) : p ∧ x = some y := by
  unfold chk at h; split at h
  · rename_i hp; exact ⟨hp, h⟩
  · cases h
def setSeg {α : Type} : List α → Nat → List α → List α
  | l, _, [] => l
  | l, p, x :: xs => setSeg (l.set p x) (p + 1) xs
theorem setSeg_length {α : Type} (xs : List α) : ∀ (l : List α) (p : Nat), (setSeg l p xs).length = l.length := by
  induction xs with
  | nil => intros; rfl
  | cons x xs ih => intro l p; simp [setSeg, ih]
theorem mem_setSeg {α : Type} (xs : List α) : ∀ (l : List α) (p : Nat) (y : α), y ∈ setSeg l p xs → y ∈ l ∨ y ∈ xs := by
  induction xs with
  | nil => intro l p y h; exact .inl h
  | cons x xs ih =>
    intro l p y h
    rcases ih _ _ _ h with h | h
    · rcases List.mem_or_eq_of_mem_set h with h | rfl
      · exact .inl h
      · exact .inr (by simp)
    · exact .inr (by simp [h])
theorem foldl_seg (xs : List Value) : ∀ (cs : Array Value) (off k : Nat),
    ((xs.zipIdx k).foldl (fun cs (c, j) => cs.setIfInBounds (off + j) c) cs).toList = setSeg cs.toList (off + k) xs := by
  induction xs with
  | nil => intros; rfl
  | cons x xs ih =>
    intro cs off k
    simp only [List.zipIdx_cons, List.foldl_cons]
    rw [ih]
    simp [setSeg, Nat.add_assoc]
section
variable {S : Nat → Nat → Prop} {w : World}
theorem R.setOne {xs : List V} {vs : List Value} (h : R S w xs vs []) {y : V} {u : Value} (hy : R S w [y] [u] []) (p : Nat) : R S w (xs.set p y) (vs.set p u) [] := by
  have hl := h.length
  rcases Nat.lt_or_ge p xs.length with hp | hp
  · obtain ⟨x, hx⟩ : ∃ x, xs[p]? = some x := ⟨xs[p], List.getElem?_eq_getElem hp⟩
    obtain ⟨v, f0, f1, f2, h1, h2, h3, h4, h5⟩ := h.at p x hx
    have hf : f0 = [] ∧ f1 = [] ∧ f2 = [] := by simpa [and_assoc] using h2.symm
    rw [hf.1] at h4; rw [hf.2.2] at h5
    have := R.append h4 (R.cons hy h5)
    rw [List.set_eq_take_append_cons_drop, if_pos hp, List.set_eq_take_append_cons_drop, if_pos (by omega)]
    exact this
  · rw [List.set_eq_of_length_le hp, List.set_eq_of_length_le (by omega)]; exact h
theorem R.setSeg {ys : List V} : ∀ {us : List Value} {xs : List V} {vs : List Value} (p : Nat), R S w xs vs [] → R S w ys us [] → R S w (Am.setSeg xs p ys) (Am.setSeg vs p us) [] := by
  induction ys with
  | nil => intro us xs vs p h hy; cases hy; exact h
  | cons y ys ih =>
    intro us xs vs p h hy
    obtain ⟨u, us', f1, f2, rfl, hf, h1, h2⟩ := R.uncons hy
    have hff : f1 = [] ∧ f2 = [] := by simpa using hf.symm
    rw [hff.1] at h1; rw [hff.2] at h2
    exact ih (p + 1) (h.setOne h1 p) h2
end
def frzL (Γ : Env) : List (Nat × Operand) → Option (Env × List (Nat × V))
  | [] => some (Γ, [])
  | (i, x) :: l => match frz Γ (rd Γ x) with
    | some (Γ1, y) => if cellsB y then (match frzL Γ1 l with
      | some (Γ2, ys) => some (Γ2, (i, y) :: ys)
      | none => none) else none
    | none => none
def bld (flds : List (Nat × Nat)) (cells : List V) : List (Nat × V) → Option (List V)
  | [] => some cells
  | (i, y) :: l => match flds[i]? with
    | some (off, size) => if y.cells.length = size ∧ off + size ≤ cells.length then bld flds (setSeg cells off y.cells) l else none
    | none => none
def evBuild (P : Program) (Γ : Env) (t : TypeId) (parts : Array (Nat × Operand)) : Option (Env × E) :=
  if (ti P t).ok = true ∧ (ti P t).k = .struct then
    match frzL Γ parts.toList with
    | some (Γ1, ys) => match bld (ti P t).flds (zeroV (ti P t).zero) ys with
      | some cells => if pureL (cells.map pv) then some (Γ1, .p (.agg (cells.map fun z => if pureB z then z else pv z))) else none
      | none => none
    | none => none
  else none
section
variable {C : Ctx} {S S' : Nat → Nat → Prop} {F : Nat → List Nat} {Γ Γ1 : Env} {a : Act} {w w' : World} {P : Program}
theorem frzL_ok : ∀ {l : List (Nat × Operand)} {S F Γ Γ1 ys}, G C S F Γ a w → frzL Γ l = some (Γ1, ys) →
    ∃ S' F', G C S' F' Γ1 a w ∧ (∀ b o, S b o → S' b o) ∧ R S' w (ys.map (·.2)) (l.map fun z => a.eval z.2) [] ∧ ys.map (·.1) = l.map (·.1) ∧ ∀ y ∈ ys, cellsB y.2 = true := by
  intro l
  induction l with
  | nil => intro S F Γ Γ1 ys h hf; simp only [frzL] at hf; cases hf; exact ⟨S, F, h, fun _ _ h => h, .nil, rfl, by simp⟩
  | cons ix l ih =>
    obtain ⟨i, x⟩ := ix
    intro S F Γ Γ1 ys h hf
    simp only [frzL] at hf
    split at hf
    rotate_left
    · cases hf
    rename_i Γ2 y hy
    split at hf
    rotate_left
    · cases hf
    rename_i hcy
    split at hf
    rotate_left
    · cases hf
    rename_i Γ3 ys' hys
    cases hf
    obtain ⟨ha, hc⟩ := h.rdAli x
    obtain ⟨S1, F1, h1, h2, h3⟩ := frz_ok h hy ha hc
    obtain ⟨S2, F2, g1, g2, g3, g4, g5⟩ := ih h1 hys
    refine ⟨S2, F2, g1, fun b o hs => g2 b o (h3 b o hs), ?_, by simp [g4], ?_⟩
    · simpa using R.cons (h2.mono g2 (fun _ _ _ => rfl) (by simp)) g3
    · intro z hz
      rcases List.mem_cons.1 hz with rfl | hz
      · exact hcy
      · exact g5 z hz
theorem R.pvIf {xs : List V} {vs : List Value} (h : R S w xs vs []) : R S w (xs.map fun z => if pureB z then z else pv z) vs [] := by
  induction xs generalizing vs with
  | nil => cases h; exact .nil
  | cons x xs ih =>
    obtain ⟨v, us, f1, f2, rfl, hf, h1, h2⟩ := R.uncons h
    have hff : f1 = [] ∧ f2 = [] := by simpa using hf.symm
    rw [hff.1] at h1; rw [hff.2] at h2
    refine R.cons (f1 := []) ?_ (ih h2)
    dsimp only
    split
    · exact h1
    · exact h1.view1.mono (fun b o hs => hs.elim id (by simp)) (fun _ _ _ => rfl) (by simp)
theorem bld_ok {flds : List (Nat × Nat)} : ∀ {ys : List (Nat × V)} {vals : List Value} {cells cells' : List V} {cs : Array Value}, bld flds cells ys = some cells' → R S w cells cs.toList [] → R S w (ys.map (·.2)) vals [] → (∀ y ∈ ys, cellsB y.2 = true) → (∀ u ∈ cs.toList, u.oneCell' = true) →
    ∃ cs', Instr.fill (flds[·]?) cs ((ys.map (·.1)).zip vals) = some cs' ∧ R S w cells' cs'.toList [] ∧ (∀ u ∈ cs'.toList, u.oneCell' = true) := by
  intro ys
  induction ys with
  | nil =>
    intro vals cells cells' cs hb hR hv _ h1
    simp only [bld] at hb; cases hb
    exact ⟨cs, by simp [Instr.fill], hR, h1⟩
  | cons iy ys ih =>
    obtain ⟨i, y⟩ := iy
    intro vals cells cells' cs hb hR hv hc h1
    obtain ⟨v, us, f1, f2, rfl, hf, g1, g2⟩ := R.uncons hv
    have hff : f1 = [] ∧ f2 = [] := by simpa using hf.symm
    rw [hff.1] at g1; rw [hff.2] at g2
    simp only [bld] at hb
    split at hb
    rotate_left
    · cases hb
    rename_i off size hfl
    split at hb
    rotate_left
    · cases hb
    rename_i hsz
    obtain ⟨k1, k2⟩ := g1.toCells (hc (i, y) (by simp))
    have hvl : v.cells.size = size := by rw [← hsz.1, k1.length]; simp
    have hcl : cells.length = cs.size := by rw [hR.length]; simp
    have hseg := R.setSeg off hR k1
    have hfold : (v.cells.zipIdx.foldl (fun cs (c, j) => cs.setIfInBounds (off + j) c) cs).toList = Am.setSeg cs.toList off v.cells.toList := by
      have := foldl_seg v.cells.toList cs off 0
      simp only [Nat.add_zero] at this
      rw [← this]
      congr 1
      rw [← Array.foldl_toList]
      congr 1
      simp
    rw [← hfold] at hseg
    obtain ⟨cs', m1, m2, m3⟩ := ih hb hseg g2 (fun z hz => hc z (by simp [hz])) (fun u hu => by
      rw [hfold] at hu
      rcases mem_setSeg _ _ _ _ hu with hu | hu
      · exact h1 u hu
      · exact k2 u hu)
    refine ⟨cs', ?_, m2, m3⟩
    simp only [List.map_cons, List.zip_cons_cons, Instr.fill, hfl]
    have hno : ¬ (v.cells.size ≠ size ∨ off + v.cells.size > cs.size) := by
      have := hsz.2
      omega
    simp only [Bool.or_eq_true, decide_eq_true_eq]
    rw [if_neg (by simpa using hno)]
    exact m1
theorem mapM_places {fs : List Field} {w : World} (h : ∀ f ∈ fs, (P.info? f.type).isSome = true) :
    (fs.mapM fun f => (do pure (f.offset, ← sizeOf f.type) : Sem (Nat × Nat))).run P w = .ok (fs.map fun f => (f.offset, P.cellsOf f.type)) w := by
  induction fs with
  | nil => rfl
  | cons f fs ih =>
    have hf := h f (by simp)
    obtain ⟨i, hi⟩ := Option.isSome_iff_exists.1 hf
    have hs : (sizeOf f.type).run P w = .ok (P.cellsOf f.type) w := by simp [sizeOf, typeInfo, hi, Program.cellsOf]
    simp only [List.mapM_cons, Sem.run_bind, hs, Result.andThen_ok, Sem.run_pure, ih (fun g hg => h g (by simp [hg])), List.map_cons]
end
end Go.Am
end
section
namespace Go.Am
open Go.RowKit
def srcE (Γ : Env) (e : E) : Option (List V) :=
  match e with
  | .p (.sl l) => some l
  | .p (.uq []) => some []
  | .p (.c (.slice _ 0 _)) => some []
  | .al r q => match (cont Γ r).getP q with
    | some (.sl l) => some l
    | some (.uq l) => if ∀ y ∈ l, pureL y.cells = true then some l else none
    | _ => none
  | _ => none
def dstE (Γ : Env) (e : E) : Option (Env × List V) :=
  match e with
  | .p (.uq []) => some (Γ, [])
  | .al r q => match (cont Γ r).getP q with
    | some (.uq l) => some (upd Γ r q .any, l)
    | _ => none
  | _ => none
def lenL (n : Nat) (l : List V) : Prop := ∀ y ∈ l, y.cells.length = n
instance (n : Nat) (l : List V) : Decidable (lenL n l) := inferInstanceAs (Decidable (∀ y ∈ l, y.cells.length = n))
@[simp] theorem lenL_nil (n : Nat) : lenL n [] = True := by simp [lenL]
@[simp] theorem lenL_cons (n : Nat) (x : V) (l : List V) : lenL n (x :: l) = (x.cells.length = n ∧ lenL n l) := by simp [lenL]
@[simp] theorem lenL_append (n : Nat) (l l' : List V) : lenL n (l ++ l') = (lenL n l ∧ lenL n l') := by simp [lenL, or_imp, forall_and]
@[simp] theorem lenL_map {α : Type} (n : Nat) (f : α → V) (l : List α) (h : ∀ x, (f x).cells.length = n) : lenL n (l.map f) = True := by simp [lenL, h]
def evAppend (P : Program) (Γ : Env) (t : TypeId) (s x : Operand) : Option (Env × E) :=
  match (ti P t).k with
  | .slice e =>
    if (ti P t).ok = true ∧ (ti P e).ok = true ∧ (ti P e).size ≠ 0 ∧ (ti P e).bytes ≠ 0 then
      match srcE Γ (rd Γ x), dstE Γ (rd Γ s) with
      | some l2, some (Γ1, l) =>
        if lenL (ti P e).size l ∧ lenL (ti P e).size l2 then
          chk ((l.length + l2.length) * (ti P e).bytes ≤ 140737488355328) (some (Γ1, .p (.uq (l ++ l2))))
        else none
      | _, _ => none
    else none
  | _ => none
def evBuildSlice (P : Program) (Γ : Env) (t : TypeId) (n : Nat) (parts : Array (Nat × Operand)) : Option (Env × E) :=
  match (ti P t).k with
  | .slice e =>
    if (ti P t).ok = true ∧ (ti P e).ok = true ∧ (ti P e).size ≠ 0 ∧ parts.toList.map (·.1) = List.range n ∧ n * (ti P e).size ≤ 16777216 then
      match frzL Γ parts.toList with
      | some (Γ1, ys) => if ∀ y ∈ ys, y.2.cells.length = (ti P e).size then some (Γ1, .p (.uq (ys.map (·.2)))) else none
      | none => none
    else none
  | _ => none
def cutL (l : List V) (lo hi : Int) : List V := (l.take hi.toNat).drop lo.toNat
def evSlice (P : Program) (Γ : Env) (t : TypeId) (x : Operand) (lo hi mx : Option Operand) : Option (Env × E) :=
  match mx with
  | some _ => none
  | none =>
    match (ti P t).k with
    | .slice e =>
      if (ti P t).ok = true ∧ (ti P e).ok = true ∧ (ti P e).size ≠ 0 then
        match frz Γ (rd Γ x) with
        | some (Γ1, .sl l) =>
          if ∀ y ∈ l, y.cells.length = (ti P e).size then
          let L := match lo with | none => some 0 | some o => kInt (look Γ (rd Γ o))
          let H := match hi with | none => some (l.length : Int) | some o => kInt (look Γ (rd Γ o))
          match L, H with
          | some lo, some hi => chk (0 ≤ lo ∧ lo ≤ hi ∧ hi ≤ l.length) (some (Γ1, .p (.sl (cutL l lo hi))))
          | _, _ => none
          else none
        | _ => none
      else none
    | _ => none
def evLen (P : Program) (Γ : Env) (t : TypeId) (x : Operand) : Option (Env × E) :=
  if (ti P t).ok = true then
    match (ti P t).k, look Γ (rd Γ x) with
    | .slice _, .sl l => some (Γ, .p (.c (.int .i64 l.length)))
    | .string, .c (.string s) => some (Γ, .p (.c (.int .i64 s.size)))
    | _, _ => none
  else none
section
variable {C : Ctx} {S S' : Nat → Nat → Prop} {F : Nat → List Nat} {Γ Γ1 : Env} {a : Act} {w w' : World} {P : Program}
theorem zip_map_eval {parts : List (Nat × Operand)} {ys : List (Nat × V)} (ρ : Operand → Value) (h : ys.map (·.1) = parts.map (·.1)) :
    (ys.map (·.1)).zip (parts.map fun z => ρ z.2) = parts.map fun z => (z.1, ρ z.2) := by
  rw [h]
  induction parts generalizing ys with
  | nil => rfl
  | cons p ps ih =>
    cases ys with
    | nil => simp at h
    | cons y ys => simp only [List.map_cons, List.zip_cons_cons, List.cons.injEq] at h ⊢; exact ⟨trivial, ih h.2⟩
theorem evBuild_ok (h : G C S F Γ a w) {t : TypeId} {parts : Array (Nat × Operand)} {e : E} (he : evBuild P Γ t parts = some (Γ1, e)) :
    ∃ v, (Instr.build t (parts.map fun z => (z.1, a.eval z.2))).run P w = .ok v w ∧ Out C Γ1 e a w v := by
  simp only [evBuild] at he
  split at he
  rotate_left
  · cases he
  rename_i ht
  obtain ⟨i, d, z, h1, h2, h3, h4, h5, h6, h7, h8, h9, h10⟩ := ti_ok ht.1
  rw [h4] at ht
  have hd : ∃ fs, d = .struct fs := by cases d <;> simp [kOf] at ht; exact ⟨_, rfl⟩
  obtain ⟨fs, rfl⟩ := hd
  obtain ⟨hfl, hpl⟩ := h10 fs rfl
  split at he
  rotate_left
  · cases he
  rename_i Γ2 ys hys
  split at he
  rotate_left
  · cases he
  rename_i cells hb
  split at he
  rotate_left
  · cases he
  cases he
  obtain ⟨S2, F2, g1, g2, g3, g4, g5⟩ := frzL_ok h hys
  have hz0 : R S2 w (zeroV (ti P t).zero) z.cells.toList [] := by rw [h7]; exact R.zero _
  obtain ⟨cs', k1, k2, k3⟩ := bld_ok hb hz0 g3 g5 h8
  rw [zip_map_eval a.eval g4] at k1
  have hbuilt : P.built t (parts.map fun z => (z.1, a.eval z.2)).toList = some cs' := by
    have hpl' := hpl
    simp only [places] at hpl'
    simp only [Program.built, h1, h2, h3, hpl']
    simpa using k1
  exact ⟨_, run_build w t _ cs' hbuilt, Out.pure g1 (R.agg (by simpa using k2.pvIf) (by simpa using k3) .nil)⟩
theorem srcE_ok (h : G C S F Γ a w) {x : Operand} {l2 : List V} (hs : srcE Γ (rd Γ x) = some l2) :
    ∃ news, R S w (l2.flatMap V.cells) news [] ∧ (∀ u ∈ news, u.oneCell' = true) ∧ l2.length ≤ maxLen ∧
      (l2 = [] ∧ (∃ b c, a.eval x = .slice b 0 c) ∨ l2 ≠ [] ∧ ∃ ad c, a.eval x = .slice (some ad) l2.length c ∧ ∀ j u, news[j]? = some u → w.cell? (ad.add j) = some u) := by
  obtain ⟨ha, hc⟩ := h.rdAli x
  have slCase : ∀ {l : List V} {v : Value}, R S w [.sl l] [v] [] → ∃ news, R S w (l.flatMap V.cells) news [] ∧ (∀ u ∈ news, u.oneCell' = true) ∧ l.length ≤ maxLen ∧
      (l = [] ∧ (∃ b c, v = .slice b 0 c) ∨ l ≠ [] ∧ ∃ ad c, v = .slice (some ad) l.length c ∧ ∀ j u, news[j]? = some u → w.cell? (ad.add j) = some u) := by
    intro l v hR
    cases hR with
    | sl0 hh => cases hh; exact ⟨[], .nil, by simp, by simp [maxLen], .inl ⟨rfl, _, _, rfl⟩⟩
    | @sl _ cs _ _ _ b o cap es h1 h2 h3 h4 h5 h6 h7 h8 hh =>
      cases hh
      refine ⟨cs, h4, h5, by omega, .inr ⟨h1, ⟨b, o, none⟩, cap, rfl, fun j u hu => ?_⟩⟩
      have hj : j < cs.length := by
        rcases Nat.lt_or_ge j cs.length with h' | h'
        · exact h'
        · simp [List.getElem?_eq_none h'] at hu
      rw [Addr.add_lit, (h6 j hj).2, hu]
  have uqCase : ∀ {l : List V} {v : Value} {f : List Nat}, R S w [.uq l] [v] f → (∀ y ∈ l, pureL y.cells = true) → ∃ news, R S w (l.flatMap V.cells) news [] ∧ (∀ u ∈ news, u.oneCell' = true) ∧ l.length ≤ maxLen ∧
      (l = [] ∧ (∃ b c, v = .slice b 0 c) ∨ l ≠ [] ∧ ∃ ad c, v = .slice (some ad) l.length c ∧ ∀ j u, news[j]? = some u → w.cell? (ad.add j) = some u) := by
    intro l v f hR hp
    cases hR with
    | uq0 hh => cases hh; exact ⟨[], .nil, by simp, by simp [maxLen], .inl ⟨rfl, _, _, rfl⟩⟩
    | @uq _ cs fq _ _ _ b cap e es cur g1 g2 g3 g4 g5 g6 g7 g8 g9 hh =>
      cases hh
      have hfq : pureL (l.flatMap V.cells) = true := by
        rw [pureL_eq, List.all_eq_true]
        intro z hz
        obtain ⟨y, hy, hz⟩ := List.mem_flatMap.1 hz
        have := hp y hy
        rw [pureL_eq, List.all_eq_true] at this
        exact this z hz
      rw [g3.pure_of hfq] at g3
      have hcl : cs.length = l.length * es := by rw [← g3.length]; exact flat_len g2
      refine ⟨cs, g3, g4, by omega, ?_⟩
      by_cases hl : l = []
      · subst hl; exact .inl ⟨rfl, _, _, rfl⟩
      · refine .inr ⟨hl, ⟨b, 0, none⟩, cap, rfl, fun j u hu => ?_⟩
        rw [Addr.add_lit, cell_of_row w b _ cur e (0, 0) g5]
        have hj : j < l.length * es := by
          rcases Nat.lt_or_ge j cs.length with h' | h'
          · omega
          · simp [List.getElem?_eq_none h'] at hu
        rw [← g9, List.getElem?_take_of_lt hj] at hu
        simpa using hu
  unfold srcE at hs
  split at hs
  · rename_i l hrd
    cases hs
    rw [hrd] at hc
    exact slCase (by simpa [E.cont] using hc)
  · rename_i hrd
    cases hs
    rw [hrd] at hc
    exact uqCase (l := []) (by simpa [E.cont] using hc) (by simp)
  · rename_i b c hrd
    cases hs
    rw [hrd] at hc
    have : a.eval x = .slice b 0 c := (show R S w [.c (.slice b 0 c)] [a.eval x] [] by simpa [E.cont] using hc).cinv
    exact ⟨[], .nil, by simp, by simp [maxLen], .inl ⟨rfl, _, _, this⟩⟩
  · rename_i r q hrd
    rw [hrd] at ha
    split at hs
    · rename_i l hD
      cases hs
      obtain ⟨u, fc, fr, k1, k2, k3⟩ := h.at hD
      have hv := ha _ hD
      rw [k1] at hv; cases hv
      rw [k2.pure1 rfl] at k2
      exact slCase k2
    · rename_i l hD
      split at hs
      · rename_i hp
        cases hs
        obtain ⟨u, fc, fr, k1, k2, k3⟩ := h.at hD
        have hv := ha _ hD
        rw [k1] at hv; cases hv
        exact uqCase k2 hp
      · cases hs
    · cases hs
  · cases hs
theorem dstE_ok (h : G C S F Γ a w) {x : Operand} {l : List V} (hs : dstE Γ (rd Γ x) = some (Γ1, l)) :
    ∃ F' fy, G C S F' Γ1 a w ∧ R S w [.uq l] [a.eval x] fy ∧ fy.Nodup ∧ (∀ s b, b ∈ fy → b ∉ F' s) ∧ (∀ b, b ∈ fy → ∃ s, b ∈ F s) := by
  obtain ⟨ha, hc⟩ := h.rdAli x
  unfold dstE at hs
  split at hs
  · rename_i hrd
    cases hs
    rw [hrd] at hc
    exact ⟨F, [], h, by simpa [E.cont] using hc, List.nodup_nil, by simp, by simp⟩
  · rename_i r q hrd
    rw [hrd] at ha
    split at hs
    · rename_i l' hD
      cases hs
      have hv := ha _ hD
      obtain ⟨u, fc, F', h1, h2, h3, h4, h5, h6, h7, h8⟩ := h.take hD (by simp)
      rw [h1] at hv; cases hv
      exact ⟨F', fc, h6, h2, h3, h7, fun b hb => ⟨r, h4 b hb⟩⟩
    · cases hs
  · cases hs
theorem Mem.far {fy : List Nat} (h : Mem C S w) (hF : Far fy w w') (hb : ∀ b, b ∈ fy → b ∈ C.fp0 ∨ C.w0.heap.size ≤ b) : Mem C S w' where
  sub := h.sub
  lt b' o hs := Nat.lt_of_lt_of_le (h.lt b' o hs) hF.size
  new := h.new
  os := hF.os.trans h.os
  tape := hF.tape.trans h.tape
  output := hF.output.trans h.output
  size := Nat.le_trans h.size hF.size
  block k hk hf := by
    have := h.size
    rw [hF.block k (by omega) (fun e => by rcases hb k e with hb | hb; exact hf hb; omega)]
    exact h.block k hk hf
theorem evAppend_ok (h : G C S F Γ a w) {t ty : TypeId} {s x : Operand} {e : E} (he : evAppend P Γ t s x = some (Γ1, e)) :
    ∃ v w', (Builtin.append_ #[t, t] ty #[a.eval s, a.eval x]).run P w = .ok v w' ∧ Out C Γ1 e a w' v := by
  simp only [evAppend] at he
  split at he
  rotate_left
  · cases he
  rename_i el hk
  split at he
  rotate_left
  · cases he
  rename_i ht
  obtain ⟨ht, hte, hsz, hbz⟩ := ht
  obtain ⟨i, d, z, h1, h2, h3, h4, _⟩ := ti_ok ht
  rw [h4] at hk
  cases d <;> simp [kOf] at hk
  subst hk
  obtain ⟨ie, de, ze, e1, e2, e3, e4, e5, e6, e7, e8, e9, _⟩ := ti_ok hte
  split at he
  rotate_left
  · cases he
  rename_i l2 Γ2 l hsrc hdst
  split at he
  rotate_left
  · cases he
  rename_i hl
  obtain ⟨hb, he⟩ := chk_some he
  cases he
  obtain ⟨news, n1, n2, n3, n4⟩ := srcE_ok h hsrc
  obtain ⟨F', fy, g1, g2, g3, g4, g5⟩ := dstE_ok h hdst
  rw [e5] at hsz
  rw [e6] at hbz hb
  rw [e5] at hl
  have hle : l.length + l2.length ≤ 140737488355328 := Nat.le_trans (Nat.le_mul_of_pos_right _ (by omega)) hb
  have hap : ∀ b o, b ∈ fy → ¬ S b o := fun b o hb' => by obtain ⟨s', hs'⟩ := g5 b hb'; exact h.apart s' b o hs'
  have hmine : ∀ b, b ∈ fy → b < w.heap.size ∧ (b ∈ C.fp0 ∨ C.w0.heap.size ≤ b) := fun b hb' => by obtain ⟨s', hs'⟩ := g5 b hb'; exact h.mine s' b hs'
  obtain ⟨v', w', fy', r1, r2, r3, r4, r5, r6⟩ := R.app (P := P) (ty := ty) h2 e1 e3 e9 (by omega) g2 g3 hap h.mem.lt (fun b hb' => (hmine b hb').1) hl.1 hl.2 n1 n2 n4 (by simp only [maxLen]; omega) hb
  refine ⟨v', w', r1, S, F', fy', ?_, r2, r3, ?_, ?_, ?_, trivial⟩
  · refine g1.world (g1.mem.far r6 (fun b hb' => (hmine b hb').2)) (fun _ _ h => h) (fun b o hs => World.cell?_of_block (w := w) (a := ⟨b, o, none⟩) (r6.block b (h.mem.lt b o hs) (fun e => hap b o e hs))) (fun s' b hb' => r6.block b (g1.mine s' b hb').1 (fun e => g4 s' b e hb')) r6.size g1.apart
  · intro s' b hb' hb''
    rcases r4 b hb' with hh | hh
    · exact g4 s' b hh hb''
    · have := (g1.mine s' b hb'').1; omega
  · intro b o hb' hs
    rcases r4 b hb' with hh | hh
    · exact hap b o hh hs
    · have := h.mem.lt b o hs; omega
  · intro b hb'
    refine ⟨r5 b hb', ?_⟩
    rcases r4 b hb' with hh | hh
    · exact (hmine b hh).2
    · have := h.mem.size; exact .inr (by omega)
theorem fill_rows {size : Nat} : ∀ (vs : List Value) (i0 : Nat) (arr : Array Value), arr.size = (i0 + vs.length) * size → (∀ v ∈ vs, v.cells.size = size) →
    ∃ arr', Instr.fill (fun i => some (i * size, size)) arr ((vs.zipIdx i0).map fun z => (z.2, z.1)) = some arr' ∧ arr'.toList = arr.toList.take (i0 * size) ++ vs.flatMap fun v => v.cells.toList := by
  intro vs
  induction vs with
  | nil => intro i0 arr h1 _; exact ⟨arr, rfl, by simp at h1; rw [← h1]; simp [List.take_of_length_le]⟩
  | cons v vs ih =>
    intro i0 arr h1 h2
    have hv := h2 v (by simp)
    simp only [List.zipIdx_cons, List.map_cons, Instr.fill]
    have hle : (i0 + 1) * size ≤ arr.size := by rw [h1]; exact Nat.mul_le_mul_right _ (by simp)
    rw [Nat.add_mul, Nat.one_mul] at hle
    have hno : ¬ ((decide (v.cells.size ≠ size) || decide (i0 * size + v.cells.size > arr.size)) = true) := by simp; omega
    rw [if_neg (by simpa using hno)]
    have hfold : (v.cells.zipIdx.foldl (fun cs (c, j) => cs.setIfInBounds (i0 * size + j) c) arr).toList = setSeg arr.toList (i0 * size) v.cells.toList := by
      have := foldl_seg v.cells.toList arr (i0 * size) 0
      simp only [Nat.add_zero] at this
      rw [← this]
      congr 1
      rw [← Array.foldl_toList]
      congr 1
      simp
    have hsz : (v.cells.zipIdx.foldl (fun cs (c, j) => cs.setIfInBounds (i0 * size + j) c) arr).size = arr.size := by
      rw [← Array.length_toList, hfold, setSeg_length]; simp
    obtain ⟨arr', k1, k2⟩ := ih (i0 + 1) _ (by rw [hsz, h1]; congr 1; simp; omega) (fun u hu => h2 u (by simp [hu]))
    refine ⟨arr', k1, ?_⟩
    rw [k2, hfold]
    have hseg : ∀ (xs : List Value) (l : List Value) (p : Nat), p + xs.length ≤ l.length → (setSeg l p xs).take (p + xs.length) = l.take p ++ xs := by
      intro xs
      induction xs with
      | nil => intro l p _; simp [setSeg]
      | cons x xs ihx =>
        intro l p hp
        simp only [setSeg, List.length_cons] at hp ⊢
        have := ihx (l.set p x) (p + 1) (by simp; omega)
        rw [show p + (xs.length + 1) = p + 1 + xs.length by omega, this]
        have h3 : (l.set p x).take (p + 1) = l.take p ++ [x] := by
          rw [List.take_set]
          rw [List.take_succ_eq_append_getElem (by omega : p < l.length)]
          rw [List.set_append_right _ _ (by simp; omega)]
          simp [Nat.min_eq_left (by omega : p ≤ l.length)]
        rw [h3]; simp
    have hvl : v.cells.toList.length = size := by simpa using hv
    have := hseg v.cells.toList arr.toList (i0 * size) (by simp; omega)
    rw [hvl] at this
    rw [Nat.add_mul, Nat.one_mul, this]
    simp
theorem evBuildSlice_ok (h : G C S F Γ a w) {t : TypeId} {n : Nat} {parts : Array (Nat × Operand)} {e : E} (he : evBuildSlice P Γ t n parts = some (Γ1, e)) :
    ∃ v w', (Instr.buildSlice t n (parts.map fun z => (z.1, a.eval z.2))).run P w = .ok v w' ∧ Out C Γ1 e a w' v ∧ ∃ ob, w' = w.alloc ob := by
  simp only [evBuildSlice] at he
  split at he
  rotate_left
  · cases he
  rename_i el hk
  split at he
  rotate_left
  · cases he
  rename_i ht
  obtain ⟨ht, hte, hsz, hix, hn⟩ := ht
  obtain ⟨i, d, z, h1, h2, h3, h4, hrest⟩ := ti_ok ht
  clear hrest
  rw [h4] at hk
  cases d <;> simp [kOf] at hk
  rename_i el2
  subst hk
  obtain ⟨ie, de, ze, e1, e2, e3, e4, e5, e6, e7, e8, e9, _⟩ := ti_ok hte
  split at he
  rotate_left
  · cases he
  rename_i Γ2 ys hys
  split at he
  rotate_left
  · cases he
  rename_i hyl
  cases he
  obtain ⟨S2, F2, g1, g2, g3, g4, g5⟩ := frzL_ok h hys
  have hvl : (parts.toList.map fun z => a.eval z.2).length = n := by
    have := congrArg List.length hix; simpa using this
  have hcells : ∀ {xs : List V} {vs : List Value}, R S2 w xs vs [] → (∀ x ∈ xs, cellsB x = true) → (∀ x ∈ xs, x.cells.length = (ti P el2).size) →
      R S2 w (xs.flatMap V.cells) (vs.flatMap fun v => v.cells.toList) [] ∧ (∀ u ∈ (vs.flatMap fun v => v.cells.toList), u.oneCell' = true) ∧ ∀ v ∈ vs, v.cells.size = (ti P el2).size := by
    intro xs
    induction xs with
    | nil => intro vs hR _ _; cases hR; exact ⟨.nil, by simp, by simp⟩
    | cons x xs ih =>
      intro vs hR hc hl
      obtain ⟨v, us, f1, f2, rfl, hf, m1, m2⟩ := R.uncons hR
      have hff : f1 = [] ∧ f2 = [] := by simpa using hf.symm
      rw [hff.1] at m1; rw [hff.2] at m2
      obtain ⟨c1, c2⟩ := m1.toCells (hc x (by simp))
      obtain ⟨c3, c4, c5⟩ := ih m2 (fun y hy => hc y (by simp [hy])) (fun y hy => hl y (by simp [hy]))
      refine ⟨by simpa using R.append c1 c3, ?_, ?_⟩
      · intro u hu
        simp only [List.flatMap_cons, List.mem_append] at hu
        rcases hu with hu | hu
        · exact c2 u hu
        · exact c4 u hu
      · intro u hu
        rcases List.mem_cons.1 hu with rfl | hu
        · have := c1.length; rw [hl x (by simp)] at this; simpa using this.symm
        · exact c5 u hu
  obtain ⟨c1, c2, c3⟩ := hcells g3 (fun x hx => by obtain ⟨y, hy, rfl⟩ := List.mem_map.1 hx; exact g5 y hy) (fun x hx => by obtain ⟨y, hy, rfl⟩ := List.mem_map.1 hx; exact hyl y hy)
  have hlist : (parts.toList.map fun z => (z.1, a.eval z.2)) = ((parts.toList.map fun z => a.eval z.2).zipIdx 0).map fun z => (z.2, z.1) := by
    have hz : ∀ (l : List (Nat × Operand)) (k : Nat), l.map (·.1) = List.range' k l.length → (l.map fun z => (z.1, a.eval z.2)) = ((l.map fun z => a.eval z.2).zipIdx k).map fun z => (z.2, z.1) := by
      intro l
      induction l with
      | nil => intros; rfl
      | cons p l ih =>
        intro k hk
        simp only [List.map_cons, List.length_cons, List.range'_succ, List.cons.injEq] at hk
        simp only [List.map_cons, List.zipIdx_cons, List.cons.injEq]
        exact ⟨by rw [hk.1], ih (k + 1) hk.2⟩
    refine hz _ 0 ?_
    rw [hix, List.range_eq_range']
    have : parts.toList.length = n := by simpa using hvl
    rw [this]
  have hyn : (ys.map (·.2)).length = n := by
    have := g3.length; rw [this]; exact hvl
  obtain ⟨arr', k1, k2⟩ := fill_rows (size := (ti P el2).size) (parts.toList.map fun z => a.eval z.2) 0 ((Array.range (n * (ti P el2).size)).map ((if n * (ti P el2).size = 0 then #[] else ze.cells)[· % (if n * (ti P el2).size = 0 then #[] else ze.cells).size]!)) (by simp [hvl]) c3
  have hout : R S2 (w.alloc (.cells arr' el2)) [.uq (ys.map (·.2))] [.slice (some ⟨w.heap.size, 0, none⟩) n n] [w.heap.size] := by
    have hm := c1.mono (S' := S2) (w' := w.alloc (.cells arr' el2)) (fun _ _ h => h) (fun b o hs => cell_alloc_lt w _ b o (g1.mem.lt b o hs)) (by simp)
    have k2' : arr'.toList = (parts.toList.map fun z => a.eval z.2).flatMap fun v => v.cells.toList := by simpa using k2
    have hal : arr'.toList.length = n * (ti P el2).size := by
      rw [k2', ← c1.length, flat_len (es := (ti P el2).size) (fun x hx => by obtain ⟨y, hy, rfl⟩ := List.mem_map.1 hx; exact hyl y hy), hyn]
    have := R.uq (S := S2) (xs := []) (vs := []) (fp := []) w.heap.size n el2 (ti P el2).size arr' (by omega) (fun x hx => by obtain ⟨y, hy, rfl⟩ := List.mem_map.1 hx; exact hyl y hy) hm c2 (heap_alloc_new w _) (by omega)
      ⟨by simp only [maxLen]; have := Nat.le_mul_of_pos_right n (show 0 < (ti P el2).size by omega); omega, fun e => by rw [e] at hyn; simpa using hyn.symm⟩ (by simpa using hal) (by rw [hyn, ← hal, List.take_length, k2']) R.nil
    rw [hyn] at this
    simpa using this
  refine ⟨_, _, ?_, ⟨S2, F2, [w.heap.size], g1.alloc _, hout, by simp, ?_, ?_, ?_, trivial⟩, _, rfl⟩
  · simp only [Instr.buildSlice, Sem.run_bind, run_underlying h2, Result.andThen_ok, run_size hte]
    rw [if_neg (by omega)]
    have hze : (zeroValue el2).run P w = .ok ze w := by simp [zeroValue, typeInfo, e1, e3]
    by_cases h0 : n * (ti P el2).size = 0
    · simp only [if_pos h0] at k1 ⊢
      simp only [Sem.run_bind, Sem.run_pure, Result.andThen_ok]
      rw [Array.toList_map, hlist, k1]
      simp only [Sem.run_bind, newRow, run_newObj, Result.andThen_ok, Sem.run_pure]
      rfl
    · simp only [if_neg h0] at k1 ⊢
      simp only [Sem.run_bind, Sem.run_pure, Result.andThen_ok, hze]
      rw [Array.toList_map, hlist, k1]
      simp only [Sem.run_bind, newRow, run_newObj, Result.andThen_ok, Sem.run_pure]
      rfl
  · intro s b hb hb'
    have hb := List.mem_singleton.1 hb; subst hb
    have := (g1.mine s _ hb').1; omega
  · intro b o hb hs
    have hb := List.mem_singleton.1 hb; subst hb
    have := g1.mem.lt _ _ hs; omega
  · intro b hb
    have hb := List.mem_singleton.1 hb; subst hb
    exact ⟨by simp, .inr g1.mem.size⟩
end
end Go.Am
end
section
namespace Go.Am
open Go.RowKit
section
variable {S : Nat → Nat → Prop} {w : World} {P : Program}
theorem flat_cut {l : List V} {es : Nat} (h : ∀ y ∈ l, y.cells.length = es) (lo hi : Nat) : ((l.take hi).drop lo).flatMap V.cells = ((l.flatMap V.cells).take (hi * es)).drop (lo * es) := by
  have ht : ∀ (l : List V) (n : Nat), (∀ y ∈ l, y.cells.length = es) → (l.take n).flatMap V.cells = (l.flatMap V.cells).take (n * es) := by
    intro l
    induction l with
    | nil => intros; simp
    | cons y l ih =>
      intro n hl
      cases n with
      | zero => simp
      | succ n =>
        simp only [List.take_succ_cons, List.flatMap_cons]
        rw [ih n (fun z hz => hl z (by simp [hz])), Nat.add_mul, Nat.one_mul, List.take_append, hl y (by simp)]
        have hy := hl y (by simp)
        rw [List.take_of_length_le (l := y.cells) (by omega), show n * es + es - es = n * es by omega]
  have hd : ∀ (l : List V) (n : Nat), (∀ y ∈ l, y.cells.length = es) → (l.drop n).flatMap V.cells = (l.flatMap V.cells).drop (n * es) := by
    intro l
    induction l with
    | nil => intros; simp
    | cons y l ih =>
      intro n hl
      cases n with
      | zero => simp
      | succ n =>
        simp only [List.drop_succ_cons, List.flatMap_cons]
        rw [ih n (fun z hz => hl z (by simp [hz])), Nat.add_mul, Nat.one_mul, List.drop_append, hl y (by simp)]
        have hy := hl y (by simp)
        rw [List.drop_eq_nil_of_le (as := y.cells) (by omega), List.nil_append, show n * es + es - es = n * es by omega]
  rw [hd _ _ (fun y hy => h y (List.mem_of_mem_take hy)), ht _ _ h]
theorem R.cut {l : List V} {v : Value} (h : R S w [.sl l] [v] []) {size : Nat} (hs : 0 < size) (hl : ∀ y ∈ l, y.cells.length = size) {lo hi : Nat} (h1 : lo ≤ hi) (h2 : hi ≤ l.length) :
    ∃ base cap, v = .slice base l.length cap ∧ l.length ≤ cap ∧ R S w [.sl ((l.take hi).drop lo)] [.slice (if cap = lo then base else base.map (·.add (lo * size))) (hi - lo) (cap - lo)] [] := by
  have hcl : ((l.take hi).drop lo).length = hi - lo := by simp; omega
  by_cases he : hi - lo = 0
  · have hnil : (l.take hi).drop lo = [] := List.eq_nil_of_length_eq_zero (by omega)
    cases h with
    | sl0 hh => cases hh; exact ⟨_, _, rfl, Nat.zero_le _, by rw [hnil, he]; exact .sl0 .nil⟩
    | sl b o cap es g1 g2 g3 g4 g5 g6 g7 g8 hh => cases hh; exact ⟨_, _, rfl, g7, by rw [hnil, he]; exact .sl0 .nil⟩
  · cases h with
    | sl0 hh => simp at h2; omega
    | @sl _ cs _ _ _ b o cap es g1 g2 g3 g4 g5 g6 g7 g8 hh =>
      cases hh
      have hes : es = size := by
        cases l with
        | nil => exact absurd rfl g1
        | cons y l => rw [← g3 y (by simp)]; exact hl y (by simp)
      subst hes
      refine ⟨_, _, rfl, g7, ?_⟩
      rw [if_neg (by omega)]
      simp only [Option.map_some, Addr.add_lit]
      have hR : R S w (((l.take hi).drop lo).flatMap V.cells) ((cs.take (hi * es)).drop (lo * es)) [] := by
        rw [flat_cut hl]
        have := g4.sub 0 (hi * es)
        simp only [List.drop_zero] at this
        have h3 := this.sub (lo * es) (cs.length + (l.flatMap V.cells).length)
        have q1 : (((l.flatMap V.cells).take (hi * es)).drop (lo * es)).length ≤ cs.length + (l.flatMap V.cells).length := by simp only [List.length_drop, List.length_take]; omega
        have q2 : ((cs.take (hi * es)).drop (lo * es)).length ≤ cs.length + (l.flatMap V.cells).length := by simp only [List.length_drop, List.length_take]; omega
        rw [List.take_of_length_le q1, List.take_of_length_le q2] at h3
        exact h3
      have hcs : cs.length = l.length * es := by rw [← g4.length]; exact flat_len g3
      have hhe : hi * es ≤ l.length * es := Nat.mul_le_mul_right _ h2
      have := R.sl (S := S) (w := w) (xs := []) (vs := []) (fp := []) b (o + lo * es) (cap - lo) es (fun e => by rw [e] at hcl; simp at hcl; omega) g2 (fun y hy => hl y (List.mem_of_mem_take (List.mem_of_mem_drop hy))) hR
        (fun u hu => g5 u (List.mem_of_mem_take (List.mem_of_mem_drop hu))) (fun k hk => by
          simp only [List.length_drop, List.length_take] at hk
          have := g6 (lo * es + k) (by omega)
          rw [Nat.add_assoc]
          refine ⟨this.1, ?_⟩
          rw [this.2, List.getElem?_drop, List.getElem?_take_of_lt (by omega)]) (by rw [hcl]; omega) (by omega) R.nil
      rw [hcl] at this
      exact this
theorem run_bound (k : IntKind) (n : Int) (y : Nat) (c : BoundsCode) (w : World) (h0 : 0 ≤ n) (h1 : n ≤ y) : (Instr.sliceBound (.int k n) y c).run P w = .ok n.toNat w := by
  simp [Instr.sliceBound, asIntOf, h0, h1]
theorem run_cut {t e : TypeId} (ht : P.underlying t = some (.slice e)) (hte : (ti P e).ok = true) (base : Option Addr) (len cap : Nat) (lo hi : Option Value) (L H : Nat)
    (hlo : lo = none ∧ L = 0 ∨ ∃ k n, lo = some (.int k n) ∧ 0 ≤ n ∧ n.toNat = L) (hhi : hi = none ∧ H = len ∨ ∃ k n, hi = some (.int k n) ∧ 0 ≤ n ∧ n.toNat = H) (h1 : L ≤ H) (h2 : H ≤ cap) (w : World) :
    (Instr.sliceAt t (.slice base len cap) lo hi none).run P w = .ok (.slice (if cap = L then base else base.map (·.add (L * (ti P e).size))) (H - L) (cap - L)) w := by
  have hb : (Instr.sliceBounds true len cap lo hi none).run P w = .ok (L, H, cap) w := by
    rcases hlo with ⟨rfl, rfl⟩ | ⟨k, n, rfl, hn, rfl⟩ <;> rcases hhi with ⟨rfl, rfl⟩ | ⟨k', n', rfl, hn', rfl⟩
    · simp [Instr.sliceBounds]
    · simp [Instr.sliceBounds, run_bound k' n' cap _ w hn' (by omega)]
    · simp [Instr.sliceBounds, run_bound k n H _ w hn (by omega)]
    · simp [Instr.sliceBounds, run_bound k' n' cap _ w hn' (by omega), run_bound k n n'.toNat _ w hn (by omega)]
  simp only [Instr.sliceAt, Sem.run_bind, run_underlying ht, Result.andThen_ok, Instr.slice, hb, run_size hte, Sem.run_pure]
end
def evUn (Γ : Env) (op : UnOp) (x : Operand) : Option (Env × E) :=
  match op, look Γ (rd Γ x) with
  | .not, .c (.bool b) => some (Γ, .p (.c (.bool !b)))
  | .neg, .c (.int k n) => some (Γ, .p (.c (.int k (k.wrap (0 - n)))))
  | _, _ => none
def evConv (P : Program) (Γ : Env) (src dst : TypeId) (x : Operand) : Option (Env × E) :=
  if (ti P src).ok = true ∧ (ti P dst).ok = true then
    match (ti P dst).k, look Γ (rd Γ x) with
    | .int k, .c (.int _ n) => some (Γ, .p (.c (.int k (k.wrap n))))
    | .string, .c (.string s) => some (Γ, .p (.c (.string s)))
    | _, _ => none
  else none
def evNil (Γ : Env) (x : Operand) : Option (Env × E) :=
  match rd Γ x with
  | .p (.ip l o) => some (Γ, .p (.ip l o))
  | e => match adr Γ e with
    | some (r, q, i, _) => match (cont Γ r).getP q with
      | some D => match D.row i with
        | some _ => some (Γ, e)
        | none => none
      | none => none
    | none => none
def evIndex (P : Program) (Γ : Env) (t : TypeId) (x ix : Operand) : Option (Env × E) :=
  if (ti P t).ok = true ∧ (ti P t).k = .string then
    match look Γ (rd Γ x), look Γ (rd Γ ix) with
    | .c (.string s), .c (.int _ n) => if n < 0 then none else match s.data[n.toNat]? with
      | some b => some (Γ, .p (.c (.int .u8 b.toNat)))
      | none => none
    | _, _ => none
  else none
def evPick (Γ : Env) (c x y : Operand) : Option (Env × E) :=
  match look Γ (rd Γ c) with
  | .c (.bool b) => some (Γ, if b then rd Γ x else rd Γ y)
  | _ => none
def cOf : V → Option Value
  | .c v => some v
  | _ => none
def plain : V → Option Value
  | .c v => some v
  | .agg l => (l.mapM cOf).map fun (cs : List Value) => Value.agg cs.toArray
  | _ => none
def tmpOf : Operand → Option Nat
  | .tmp t => some t
  | _ => none
def evIface (P : Program) (Γ : Env) (t : TypeId) (x : Operand) : Option (Env × E) :=
  if (ti P t).ok = true ∧ (ti P t).k ≠ .iface then
    match plain (look Γ (rd Γ x)) with
    | some v => some (Γ, .p (.c (.iface t v)))
    | none => none
  else none
def evFunc (Γ : Env) (fn : Fn) (first cap : Array Operand) : Option (Env × E) :=
  match fn with
  | .func f =>
    if first.size = 0 then
      match cap.toList.mapM tmpOf with
      | some l => some (Γ, .cl f l)
      | none => none
    else none
  | _ => none
def fldT (P : Program) (t : TypeId) (f : Nat) : Option (TypeId × Nat) :=
  match P.underlying t with
  | some (.struct fs) => (fs[f]?).map fun x => (x.type, x.offset)
  | _ => none
def evField (P : Program) (Γ : Env) (t : TypeId) (x : Operand) (f : Nat) : Option (Env × E) :=
  match fldT P t f, look Γ (rd Γ x) with
  | some (ft, off), .agg l => if (ti P ft).ok = true ∧ (ti P ft).agg = false then
      match l[off]? with
      | some (.c v) => some (Γ, .p (.c v))
      | _ => none
    else none
  | _, _ => none
def ev (P : Program) (Γ : Env) (o : Op) : Option (Env × E) :=
  match o with
  | .move x => some (Γ, rd Γ x)
  | .assign x => match rd Γ x with
    | .al r q => match tak Γ (.al r q) with
      | some (Γ1, y) => some (Γ1, .p y)
      | none => none
    | e => some (Γ, e)
  | .pick c x y => evPick Γ c x y
  | .alloc t => if (ti P t).ok then some (Γ, .p (.own (zeroV (ti P t).zero))) else none
  | .box _ x => evBox Γ x
  | .build t parts => evBuild P Γ t parts
  | .buildSlice t n parts => evBuildSlice P Γ t n parts
  | .load t x => evLoad P Γ t x
  | .store t x y => evStore P Γ t x y
  | .nilCheck x => evNil Γ x
  | .binOp op t x y _ => evBin P Γ op t x y
  | .unOp op _ x => evUn Γ op x
  | .convert s d x => evConv P Γ s d x
  | .makeInterface t x => evIface P Γ t x
  | .makeFunc fn first cap => evFunc Γ fn first cap
  | .slice t x lo hi mx => evSlice P Γ t x lo hi mx
  | .fieldAddr t x f => evFieldAddr P Γ t x f
  | .indexAddr t x i => evIndexAddr P Γ t x i
  | .index t x i => evIndex P Γ t x i
  | .field t x f => evField P Γ t x f
  | .extract x i => evExtract Γ x i
  | .call { callee := .builtin .len, args := ⟨[x]⟩, argTypes := ⟨[t]⟩ } => evLen P Γ t x
  | .call { callee := .builtin .append, args := ⟨[s, x]⟩, argTypes := ⟨[t, u]⟩ } => if u = t then evAppend P Γ t s x else none
  | _ => none
section
variable {C : Ctx} {S S' : Nat → Nat → Prop} {F : Nat → List Nat} {Γ Γ1 : Env} {a : Act} {w w' : World} {P : Program}
theorem evSlice_ok (h : G C S F Γ a w) {t : TypeId} {x : Operand} {lo hi mx : Option Operand} {e : E} (he : evSlice P Γ t x lo hi mx = some (Γ1, e)) :
    ∃ v, (Instr.sliceAt t (a.eval x) (lo.map a.eval) (hi.map a.eval) (mx.map a.eval)).run P w = .ok v w ∧ Out C Γ1 e a w v := by
  unfold evSlice at he
  split at he
  · cases he
  split at he
  rotate_left
  · cases he
  rename_i el hk
  split at he
  rotate_left
  · cases he
  rename_i ht
  obtain ⟨ht, hte, hsz⟩ := ht
  obtain ⟨i, d, z, h1, h2, h3, h4, hrest⟩ := ti_ok ht
  clear hrest
  rw [h4] at hk
  cases d <;> simp [kOf] at hk
  rename_i el2
  subst hk
  split at he
  rotate_left
  · cases he
  rename_i Γ2 l hfz
  split at he
  rotate_left
  · cases he
  rename_i hl
  obtain ⟨ha, hc⟩ := h.rdAli x
  obtain ⟨S', F', g1, g2, g3⟩ := frz_ok h hfz ha hc
  simp only at he
  split at he
  rotate_left
  · cases he
  rename_i L H hL hH
  obtain ⟨hb, he⟩ := chk_some he
  cases he
  have kint : ∀ o : Operand, ∀ n, kInt (look Γ (rd Γ o)) = some n → ∃ k, a.eval o = .int k n := by
    intro o n hn
    cases hlk : look Γ (rd Γ o) with
    | c v =>
      rw [hlk] at hn
      cases v <;> simp [kInt] at hn
      subst hn
      exact ⟨_, lookInt h hlk⟩
    | _ => rw [hlk] at hn; simp [kInt] at hn
  obtain ⟨base, cap, hv, hcap, hR⟩ := R.cut g2 (by omega) hl (lo := L.toNat) (hi := H.toNat) (by omega) (by omega)
  rw [hv]
  have hlo : lo.map a.eval = none ∧ L.toNat = 0 ∨ ∃ k n, lo.map a.eval = some (.int k n) ∧ 0 ≤ n ∧ n.toNat = L.toNat := by
    cases lo with
    | none => cases hL; exact .inl ⟨rfl, rfl⟩
    | some o => obtain ⟨k, hk⟩ := kint o L hL; exact .inr ⟨k, L, by simp [hk], by omega, rfl⟩
  have hhi : hi.map a.eval = none ∧ H.toNat = l.length ∨ ∃ k n, hi.map a.eval = some (.int k n) ∧ 0 ≤ n ∧ n.toNat = H.toNat := by
    cases hi with
    | none => cases hH; exact .inl ⟨rfl, by omega⟩
    | some o => obtain ⟨k, hk⟩ := kint o H hH; exact .inr ⟨k, H, by simp [hk], by omega, rfl⟩
  exact ⟨_, run_cut h2 hte base l.length cap _ _ L.toNat H.toNat hlo hhi (by omega) (by omega) w, Out.pure g1 hR⟩
theorem evLen_ok (h : G C S F Γ a w) {t ty : TypeId} {x : Operand} {e : E} (he : evLen P Γ t x = some (Γ1, e)) :
    ∃ v, (Builtin.len_ #[t] ty #[a.eval x]).run P w = .ok v w ∧ Out C Γ1 e a w v := by
  unfold evLen at he
  split at he
  rotate_left
  · cases he
  rename_i ht
  obtain ⟨i, d, z, h1, h2, h3, h4, _⟩ := ti_ok ht
  have hlk := h.look x
  split at he
  · rename_i el l hk hlx
    cases he
    rw [h4] at hk
    cases d <;> simp [kOf] at hk
    rw [hlx] at hlk
    have : ∃ base cap, a.eval x = .slice base l.length cap := by
      generalize a.eval x = v at hlk
      cases hlk with
      | sl0 hh => cases hh; exact ⟨_, _, rfl⟩
      | sl b o cap es g1 g2 g3 g4 g5 g6 g7 g8 hh => cases hh; exact ⟨_, _, rfl⟩
    obtain ⟨base, cap, hv⟩ := this
    rw [hv]
    refine ⟨_, ?_, Out.pure h (.c .nil)⟩
    simp [Builtin.len_, run_underlying h2, goInt]
  · rename_i s hk hlx
    cases he
    rw [h4] at hk
    cases d <;> simp [kOf] at hk
    rw [lookInt h hlx]
    refine ⟨_, ?_, Out.pure h (.c .nil)⟩
    simp [Builtin.len_, run_underlying h2, goInt]
  · cases he
theorem plain_ok {S : Nat → Nat → Prop} {x : V} {v u : Value} (h : plain x = some v) (hR : R S w [x] [u] []) : u = v := by
  cases x with
  | c v' => simp [plain] at h; subst h; cases hR with | c hh => rfl
  | agg l =>
    simp only [plain, Option.map_eq_some_iff] at h
    obtain ⟨cs, hcs, rfl⟩ := h
    obtain ⟨f, hf, hR⟩ : ∃ f, f = [] ∧ R S w [.agg l] [u] f := ⟨_, rfl, hR⟩
    cases hR with
    | @agg _ cs' fq _ _ _ h1 h2 h3 =>
      cases h3
      congr 2
      clear h2 hf
      have : ∀ (l : List V) (cs cs' : List Value) (fq : List Nat), l.mapM cOf = some cs → R S w l cs' fq → cs' = cs := by
        intro l
        induction l with
        | nil => intro cs cs' fq h hR; simp at h; subst h; cases hR; rfl
        | cons x l ih =>
          intro cs cs' fq h hR
          simp only [List.mapM_cons, Option.bind_eq_bind, Option.pure_def, Option.bind_eq_some_iff, Option.some.injEq] at h
          obtain ⟨v, hv, cs0, hcs0, rfl⟩ := h
          cases x <;> simp [cOf] at hv
          subst hv
          cases hR with
          | c hh => rw [ih _ _ _ hcs0 hh]
      exact this l cs cs' fq hcs h1
  | _ => simp [plain] at h
theorem Far.alloc (w : World) (ob : Obj) : Far [] w (w.alloc ob) := ⟨rfl, rfl, rfl, by simp, fun k hk _ => heap_alloc_old w ob k hk⟩
def loud : Op → Bool
  | .store .. | .box .. | .call { callee := .builtin .append, .. } => true
  | _ => false
theorem evField_ok (h : G C S F Γ a w) {t : TypeId} {x : Operand} {f : Nat} {e : E} (he : evField P Γ t x f = some (Γ1, e)) : ∃ v, (Instr.field t (a.eval x) f).run P w = .ok v w ∧ Out C Γ1 e a w v := by
  unfold evField at he
  split at he
  rotate_left
  · cases he
  rename_i ft off l hfl hlk
  split at he
  rotate_left
  · cases he
  rename_i hok
  split at he
  rotate_left
  · cases he
  rename_i v hv
  cases he
  have hR := h.look x
  rw [hlk] at hR
  obtain ⟨fp, hfp, hR⟩ : ∃ fp, fp = [] ∧ R (T S F) w [.agg l] [a.eval x] fp := ⟨_, rfl, hR⟩
  generalize a.eval x = u at hR
  cases hR with
  | @agg _ us fq _ _ _ g1 g2 g3 =>
    obtain ⟨u, f0, f1, f2, k1, k2, k3, _⟩ := g1.at off _ hv
    cases k3
    unfold fldT at hfl
    split at hfl
    rotate_left
    · cases hfl
    rename_i fs hu
    rw [Option.map_eq_some_iff] at hfl
    obtain ⟨fd, hfd, hfe⟩ := hfl
    cases hfe
    refine ⟨v, ?_, Out.pure h (.c .nil)⟩
    have hag := run_agg hok.1 w
    rw [hok.2] at hag
    simp only [Instr.field, Sem.run_bind, run_underlying hu, Result.andThen_ok, hfd, asAgg, Sem.run_pure, part, hag]
    simp [k1]
theorem ev_ok (h : G C S F Γ a w) {o : Oper} {e : E} (he : ev P Γ o.op = some (Γ1, e)) :
    ∃ w', ((∃ v, (execOp a.eval o).run P w = .ok (.value v) w' ∧ Out C Γ1 e a w' v) ∨ ((execOp a.eval o).run P w = .ok .skip w' ∧ e = dead ∧ ∃ S' F', G C S' F' Γ1 a w')) ∧ (loud o.op = false → Far [] w w') := by
  generalize hlo : (loud o.op = false) = Lp
  have val : ∀ {s : Sem Value} {w'}, (∃ v, s.run P w = .ok v w' ∧ Out C Γ1 e a w' v) → (Lp → Far [] w w') → execOp a.eval o = (do pure (.value (← s))) →
      ∃ w', ((∃ v, (execOp a.eval o).run P w = .ok (.value v) w' ∧ Out C Γ1 e a w' v) ∨ ((execOp a.eval o).run P w = .ok .skip w' ∧ e = dead ∧ ∃ S' F', G C S' F' Γ1 a w')) ∧ (Lp → Far [] w w') := by
    intro s w' ⟨v, hr, hO⟩ hF hx
    refine ⟨w', .inl ⟨v, ?_, hO⟩, hF⟩
    rw [hx]; simp only [Sem.run_bind, hr, Result.andThen_ok, Sem.run_pure]
  cases hop : o.op with
  | move x =>
    rw [hop] at he; simp only [ev] at he; cases he
    exact ⟨w, .inl ⟨a.eval x, by simp [execOp, hop], Out.ofRd h x⟩, fun _ => Far.refl _ _⟩
  | assign x =>
    rw [hop] at he; simp only [ev] at he
    obtain ⟨ha, hc⟩ := h.rdAli x
    split at he
    · rename_i r q hrd
      split at he
      · rename_i Γ2 y hy
        cases he
        rw [hrd] at ha hc
        exact ⟨w, .inl ⟨a.eval x, by simp [execOp, hop], Out.taken h hy ha hc⟩, fun _ => Far.refl _ _⟩
      · cases he
    · cases he
      exact ⟨w, .inl ⟨a.eval x, by simp [execOp, hop], Out.ofRd h x⟩, fun _ => Far.refl _ _⟩
  | pick c x y =>
    rw [hop] at he; simp only [ev, evPick] at he
    split at he
    · rename_i b hb
      cases he
      have hb' := lookInt h hb
      refine ⟨w, .inl ⟨if b then a.eval x else a.eval y, ?_, ?_⟩, fun _ => Far.refl _ _⟩
      · simp [execOp, hop, hb', asBool]
      · cases b
        · exact Out.ofRd h y
        · exact Out.ofRd h x
    · cases he
  | alloc t =>
    rw [hop] at he; simp only [ev] at he
    split at he
    · rename_i ht
      cases he
      obtain ⟨v, w', hr, hO, ob, rfl⟩ := evAlloc_ok h ht
      exact val (s := Instr.alloc t true (.tuple #[])) (w' := w.alloc ob) ⟨v, hr, hO⟩ (fun _ => Far.alloc _ _) (by simp only [execOp, hop])
    · cases he
  | box t x =>
    rw [hop] at he; simp only [ev] at he
    obtain ⟨v, w', hr, hO⟩ := evBox_ok (P := P) (t := t) h he
    exact val (w' := w') ⟨v, hr, hO⟩ (fun hl => by rw [← hlo, hop] at hl; simp [loud] at hl) (by simp only [execOp, hop])
  | build t parts =>
    rw [hop] at he; simp only [ev] at he
    exact val (w' := w) (evBuild_ok h he) (fun _ => Far.refl _ _) (by simp only [execOp, hop])
  | buildSlice t n parts =>
    rw [hop] at he; simp only [ev] at he
    obtain ⟨v, w', hr, hO, ob, rfl⟩ := evBuildSlice_ok h he
    exact val (w' := w.alloc ob) ⟨v, hr, hO⟩ (fun _ => Far.alloc _ _) (by simp only [execOp, hop])
  | load t x =>
    rw [hop] at he; simp only [ev] at he
    exact val (w' := w) (evLoad_ok h he) (fun _ => Far.refl _ _) (by simp only [execOp, hop])
  | store t x y =>
    rw [hop] at he; simp only [ev] at he
    obtain ⟨w', hr, hd, hG⟩ := evStore_ok h he
    refine ⟨w', .inr ⟨?_, hd, hG⟩, fun hl => by rw [← hlo, hop] at hl; simp [loud] at hl⟩
    simp only [execOp, hop, Sem.run_bind, hr, Result.andThen_ok, Sem.run_pure]
  | nilCheck x =>
    rw [hop] at he; simp only [ev, evNil] at he
    obtain ⟨ha, hc⟩ := h.rdAli x
    have hptr : ∀ y, a.eval x = .pointer (some y) → (execOp a.eval o).run P w = .ok (.value (a.eval x)) w := by
      intro y hy; simp only [execOp, hop, hy, Sem.run_pure]
    split at he
    · rename_i l k hrd
      cases he
      rw [hrd] at hc
      obtain ⟨b, o0, cs, hv, _⟩ := R.ipCells (by simpa [E.cont] using hc)
      have := Out.ofRd h x
      rw [hrd] at this
      exact ⟨w, .inl ⟨a.eval x, hptr _ hv, this⟩, fun _ => Far.refl _ _⟩
    · split at he
      rotate_left
      · cases he
      rename_i r q i j hadr
      split at he
      rotate_left
      · cases he
      rename_i D hD
      split at he
      rotate_left
      · cases he
      rename_i cs hcs
      cases he
      obtain ⟨u, x', hu, hx', hv⟩ := adr_ok h hadr ha hD hcs
      exact ⟨w, .inl ⟨a.eval x, hptr _ hv, Out.ofRd h x⟩, fun _ => Far.refl _ _⟩
  | binOp op t x y yt =>
    rw [hop] at he; simp only [ev] at he
    exact val (w' := w) (evBin_ok h he) (fun _ => Far.refl _ _) (by simp only [execOp, hop])
  | unOp op t x =>
    rw [hop] at he; simp only [ev, evUn] at he
    split at he
    · rename_i b hb
      cases he
      have hb' := lookInt h hb
      exact val (s := Op.unary .not (a.eval x)) (w' := w) ⟨.bool !b, by rw [hb']; rfl, Out.pure h (.c .nil)⟩ (fun _ => Far.refl _ _) (by simp only [execOp, hop])
    · rename_i k n hb
      cases he
      have hb' := lookInt h hb
      exact val (s := Op.unary .neg (a.eval x)) (w' := w) ⟨.int k (k.wrap (0 - n)), by rw [hb']; rfl, Out.pure h (.c .nil)⟩ (fun _ => Far.refl _ _) (by simp only [execOp, hop])
    · cases he
  | convert s d x =>
    rw [hop] at he; simp only [ev, evConv] at he
    split at he
    rotate_left
    · cases he
    rename_i ht
    obtain ⟨i, ds, z, h1, h2, h3, h4, _⟩ := ti_ok ht.1
    obtain ⟨i', dd, z', g1, g2, g3, g4, _⟩ := ti_ok ht.2
    split at he
    · rename_i k k' n hk hb
      cases he
      have hb' := lookInt h hb
      rw [g4] at hk
      cases dd <;> simp [kOf] at hk
      subst hk
      refine val (s := convert s d (a.eval x)) (w' := w) ⟨_, ?_, Out.pure h (.c .nil)⟩ (fun _ => Far.refl _ _) (by simp only [execOp, hop])
      rw [hb']
      simp only [convert, Sem.run_bind, run_underlying h2, run_underlying g2, Result.andThen_ok]
      rfl
    · rename_i s' hk hb
      cases he
      have hb' := lookInt h hb
      rw [g4] at hk
      cases dd <;> simp [kOf] at hk
      refine val (s := convert s d (a.eval x)) (w' := w) ⟨.string s', ?_, Out.pure h (.c .nil)⟩ (fun _ => Far.refl _ _) (by simp only [execOp, hop])
      rw [hb']
      simp only [convert, Sem.run_bind, run_underlying h2, run_underlying g2, Result.andThen_ok]
      cases ds <;> rfl
    · cases he
  | makeInterface t x =>
    rw [hop] at he; simp only [ev, evIface] at he
    split at he
    rotate_left
    · cases he
    rename_i ht
    obtain ⟨i, d, z, h1, h2, h3, h4, _⟩ := ti_ok ht.1
    split at he
    rotate_left
    · cases he
    rename_i v hv
    cases he
    have hx := plain_ok hv (h.look x)
    refine val (s := Instr.makeInterface t (a.eval x)) (w' := w) ⟨.iface t v, ?_, Out.pure h (.c .nil)⟩ (fun _ => Far.refl _ _) (by simp only [execOp, hop])
    rw [hx]
    simp only [Instr.makeInterface, Sem.run_bind, run_underlying h2, Result.andThen_ok]
    have hne := ht.2
    rw [h4] at hne
    cases d <;> first | rfl | (simp [kOf] at hne)
  | makeFunc fn first cap =>
    rw [hop] at he; simp only [ev, evFunc] at he
    split at he
    rotate_left
    · cases he
    rename_i f
    split at he
    rotate_left
    · cases he
    rename_i h0
    split at he
    rotate_left
    · cases he
    rename_i l hl
    cases he
    have hcap : cap.map a.eval = (l.map (tm a)).toArray := by
      have : ∀ (c : List Operand) (l : List Nat), (c.mapM tmpOf) = some l → c.map a.eval = l.map (tm a) := by
        intro c
        induction c with
        | nil => intro l h; simp at h; subst h; rfl
        | cons x c ih =>
          intro l h
          simp only [List.mapM_cons, Option.bind_eq_bind, Option.pure_def, Option.bind_eq_some_iff, Option.some.injEq] at h
          obtain ⟨t, ht, l0, hl0, rfl⟩ := h
          cases x <;> simp [tmpOf] at ht
          subst ht
          simp only [List.map_cons, ih l0 hl0]
          rfl
      have := this cap.toList l hl
      rw [← this, ← Array.toList_map]
    have hfirst : first.map a.eval = #[] := by
      have : first = #[] := by simpa using h0
      rw [this]; simp
    refine val (s := Instr.makeFunc (.func f) (first.map a.eval) (cap.map a.eval)) (w' := w) ⟨.func (.func f) #[] (l.map (tm a)).toArray, ?_, Out.ali h rfl rfl⟩ (fun _ => Far.refl _ _) (by simp only [execOp, hop])
    rw [hcap, hfirst]; rfl
  | slice t x lo hi mx =>
    rw [hop] at he; simp only [ev] at he
    exact val (w' := w) (evSlice_ok h he) (fun _ => Far.refl _ _) (by simp only [execOp, hop])
  | fieldAddr t x f =>
    rw [hop] at he; simp only [ev] at he
    exact val (w' := w) (evFieldAddr_ok h he) (fun _ => Far.refl _ _) (by simp only [execOp, hop])
  | indexAddr t x i =>
    rw [hop] at he; simp only [ev] at he
    exact val (w' := w) (evIndexAddr_ok h he) (fun _ => Far.refl _ _) (by simp only [execOp, hop])
  | field t x f =>
    rw [hop] at he; simp only [ev] at he
    exact val (w' := w) (evField_ok h he) (fun _ => Far.refl _ _) (by simp only [execOp, hop])
  | index t x ix =>
    rw [hop] at he; simp only [ev, evIndex] at he
    split at he
    rotate_left
    · cases he
    rename_i ht
    obtain ⟨i, d, z, h1, h2, h3, h4, _⟩ := ti_ok ht.1
    have hk := ht.2
    rw [h4] at hk
    cases d <;> simp [kOf] at hk
    split at he
    rotate_left
    · cases he
    rename_i s k n hs hn
    split at he
    · cases he
    rename_i hn0
    split at he
    rotate_left
    · cases he
    rename_i b hb
    cases he
    refine val (s := Instr.index t (a.eval x) (a.eval ix)) (w' := w) ⟨.int .u8 b.toNat, ?_, Out.pure h (.c .nil)⟩ (fun _ => Far.refl _ _) (by simp only [execOp, hop])
    rw [lookInt h hs, lookInt h hn]
    have hsb : s[n.toNat]? = some b := by
      have hlt : n.toNat < s.data.size := by
        rcases Nat.lt_or_ge n.toNat s.data.size with h' | h'
        · exact h'
        · simp [Array.getElem?_eq_none h'] at hb
      have : s.data[n.toNat] = b := by simpa [Array.getElem?_eq_getElem hlt] using hb
      rw [getElem?_pos s n.toNat hlt]
      congr 1
    have h0 : 0 ≤ n := by omega
    simp only [Instr.index, asIntOf, Sem.run_bind, Sem.run_pure, Result.andThen_ok, run_underlying h2, if_pos h0, hsb]
  | extract x i =>
    rw [hop] at he; simp only [ev] at he
    exact val (w' := w) (evExtract_ok h he) (fun _ => Far.refl _ _) (by simp only [execOp, hop])
  | call c =>
    rw [hop] at he
    simp only [ev] at he
    split at he <;> (try (rename_i heq; cases heq))
    · rename_i x t
      exact val (w' := w) (evLen_ok (ty := o.type) h he) (fun _ => Far.refl _ _) (by simp [execOp, hop, resolve, invoke, builtin])
    · rename_i s x t u
      split at he
      · rename_i hu
        subst hu
        obtain ⟨v, w', hr, hO⟩ := evAppend_ok (ty := o.type) h he
        exact val (w' := w') ⟨v, hr, hO⟩ (fun hl => by rw [← hlo, hop] at hl; simp [loud] at hl) (by simp [execOp, hop, resolve, invoke, builtin])
      · cases he
    · cases he
  | _ => rw [hop] at he; simp [ev] at he
end
end Go.Am
end
section
namespace Go.Am
open Go.RowKit
mutual
def okV : V → Prop
  | .sl l => l.length ≤ maxLen ∧ okL l
  | .uq l => l.length ≤ maxLen ∧ okL l
  | .agg l | .tup l | .ip l _ | .clo _ l | .own l => okL l
  | .c _ | .any => True
def okL : List V → Prop
  | [] => True
  | x :: l => okV x ∧ okL l
end
theorem okL_iff {l : List V} : okL l ↔ ∀ x ∈ l, okV x := by induction l <;> simp [okL, *]
theorem okL_flat {l : List V} (h : okL (l.flatMap V.cells)) : okL l := by
  rw [okL_iff] at h ⊢
  intro x hx
  cases x with
  | agg cs => simp only [okV]; rw [okL_iff]; intro y hy; exact h y (List.mem_flatMap.2 ⟨_, hx, hy⟩)
  | _ => exact h _ (List.mem_flatMap.2 ⟨_, hx, by simp [V.cells]⟩)
theorem R.ok {S : Nat → Nat → Prop} {w : World} {xs vs fp} (h : R S w xs vs fp) : okL xs := by
  induction h with
  | nil => trivial
  | c _ ih | any _ ih => exact ⟨trivial, ih⟩
  | agg _ _ _ i1 i2 | tup _ _ i1 i2 | clo _ _ i1 i2 => exact ⟨i1, i2⟩
  | sl0 _ ih => exact ⟨⟨by simp [maxLen], trivial⟩, ih⟩
  | sl b o cap es h1 h2 h3 _ h5 h6 h7 h8 _ i1 i2 => exact ⟨⟨by omega, okL_flat i1⟩, i2⟩
  | ip b o k _ h5 h6 _ i1 i2 => exact ⟨i1, i2⟩
  | uq0 _ ih => exact ⟨⟨by simp [maxLen], trivial⟩, ih⟩
  | uq b cap e es cur h1 h2 h3 h4 h5 h6 h7 h8 h9 _ i1 i2 => exact ⟨⟨by omega, okL_flat i1⟩, i2⟩
  | own b e h1 h2 h3 _ i1 i2 => exact ⟨i1, i2⟩
def entr (P : Program) (f : FuncId) : Bool :=
  match P.funcs[f]? with
  | some fn => fn.name != "runtime.NumGoroutine" && fn.body.isSome
  | none => false
def ACall (P : Program) (f : FuncId) (xs : List V) (r : V) : Prop :=
  entr P f = true ∧ ∀ (S : Nat → Nat → Prop) (w : World) (vs : List Value), R S w xs vs [] → (∀ b o, S b o → b < w.heap.size) →
    Calls P f vs.toArray w fun e w' => ∃ v S' fp, e = .returned v ∧ R S' w' [r] [v] fp ∧ fp.Nodup ∧ (∀ b, b ∈ fp → w.heap.size ≤ b ∧ b < w'.heap.size) ∧ (∀ b o, b ∈ fp → ¬ S' b o) ∧
      (∀ b o, S b o → S' b o) ∧ (∀ b o, S' b o → S b o ∨ w.heap.size ≤ b) ∧ (∀ b o, S' b o → b < w'.heap.size) ∧ Far [] w w'
def ACallM (P : Program) (f : FuncId) (os xs : List V) (r : V) (os' : List V) : Prop :=
  entr P f = true ∧ ∀ (S : Nat → Nat → Prop) (w : World) (vo vs : List Value) (fo : List Nat), R S w os vo fo → fo.Nodup → (∀ b o, b ∈ fo → ¬ S b o) → (∀ b, b ∈ fo → b < w.heap.size) → R S w xs vs [] → (∀ b o, S b o → b < w.heap.size) →
    Calls P f (vo ++ vs).toArray w fun e w' => ∃ v S' fp fo', e = .returned v ∧ R S' w' [r] [v] fp ∧ R S' w' os' vo fo' ∧ (fp ++ fo').Nodup ∧ (∀ b, b ∈ fp ++ fo' → b < w'.heap.size ∧ (b ∈ fo ∨ w.heap.size ≤ b)) ∧ (∀ b o, b ∈ fp ++ fo' → ¬ S' b o) ∧
      (∀ b o, S b o → S' b o) ∧ (∀ b o, S' b o → S b o ∨ b ∈ fo ∨ w.heap.size ≤ b) ∧ (∀ b o, S' b o → b < w'.heap.size) ∧ Far fo w w'
theorem ACallM.acall {P : Program} {f : FuncId} {xs : List V} {r : V} (h : ACallM P f [] xs r []) : ACall P f xs r := by
  refine ⟨h.1, fun S w vs hR hS => ?_⟩
  refine (h.2 S w [] vs [] .nil List.nodup_nil (by simp) (by simp) hR hS).mono ?_
  rintro e w' ⟨v, S', fp, fo', rfl, g1, g2, g3, g4, g5, g6, g7, g8, g9⟩
  rw [List.nodup_append] at g3
  refine ⟨v, S', fp, rfl, g1, g3.1, fun b hb => ?_, fun b o hb => g5 b o (by simp [hb]), g6, fun b o hb => ?_, g8, g9⟩
  · have := g4 b (by simp [hb]); simpa [and_comm] using this
  · simpa using g7 b o hb
mutual
def scalB : V → Bool
  | .c _ => true
  | .agg l | .tup l => scalL l
  | _ => false
def scalL : List V → Bool
  | [] => true
  | x :: l => scalB x && scalL l
end
theorem R.scal {S S' : Nat → Nat → Prop} {w w' : World} {xs vs fp} (h : R S w xs vs fp) : scalL xs = true → fp = [] ∧ R S' w' xs vs [] := by
  induction h with
  | nil => intro _; exact ⟨rfl, .nil⟩
  | c _ ih => intro hs; simp [scalL, scalB] at hs; obtain ⟨h1, h2⟩ := ih hs; exact ⟨h1, .c h2⟩
  | agg _ h5 _ i1 i2 =>
    intro hs; simp [scalL, scalB] at hs
    obtain ⟨a1, a2⟩ := i1 hs.1; obtain ⟨b1, b2⟩ := i2 hs.2
    rw [a1, b1]; exact ⟨rfl, .agg a2 h5 b2⟩
  | tup _ _ i1 i2 =>
    intro hs; simp [scalL, scalB] at hs
    obtain ⟨a1, a2⟩ := i1 hs.1; obtain ⟨b1, b2⟩ := i2 hs.2
    rw [a1, b1]; exact ⟨rfl, .tup a2 b2⟩
  | _ => intro hs; simp [scalL, scalB] at hs
def anyB : V → Bool
  | .any => true
  | _ => false
def frzE (Γ : Env) (e : E) : Option (Env × V) :=
  match e with
  | .pa r q i j => match (cont Γ r).getP q with
    | some y => match y.row i with
      | some cs => some (upd Γ r q (pv y), .ip (pvL cs) j)
      | none => none
    | none => none
  | .cl f l => if ∀ s ∈ l, anyB (cont Γ s) = false then
      some (l.foldl (fun Γ s => if pureB (cont Γ s) then Γ else upd Γ s [] (pv (cont Γ s))) Γ, .clo f (l.map fun s => pv (cont Γ s))) else none
  | e => frz Γ e
def frzA (Γ : Env) : List Operand → Option (Env × List V)
  | [] => some (Γ, [])
  | x :: l => match frzE Γ (rd Γ x) with
    | some (Γ1, y) => match frzA Γ1 l with
      | some (Γ2, ys) => some (Γ2, y :: ys)
      | none => none
    | none => none
mutual
theorem pv_pure (x : V) (h : pureB x = true) : pv x = x := by
  cases x with
  | c v | any | sl l | ip l o => rfl
  | agg l | tup l | clo f l => simp only [pv]; rw [pvL_pure l (by simpa [pureB] using h)]
  | uq l | own l => simp [pureB] at h
theorem pvL_pure (l : List V) (h : pureL l = true) : pvL l = l := by
  cases l with
  | nil => rfl
  | cons x l => simp only [pureL, Bool.and_eq_true] at h; simp only [pvL]; rw [pv_pure x h.1, pvL_pure l h.2]
end
section
variable {C : Ctx} {S S' : Nat → Nat → Prop} {F : Nat → List Nat} {Γ Γ1 : Env} {a : Act} {w w' : World} {P : Program}
theorem upd_self (Γ : Env) (s : Nat) (y : V) : cont (upd Γ s [] y) s = y := by rw [cont_upd, if_pos rfl]; rfl
theorem frz_slots (h : G C S F Γ a w) (l : List Nat) (hne : ∀ s ∈ l, cont Γ s ≠ .any) :
    ∃ S' F', G C S' F' (l.foldl (fun Γ s => if pureB (cont Γ s) then Γ else upd Γ s [] (pv (cont Γ s))) Γ) a w ∧ R S' w (l.map fun s => pv (cont Γ s)) (l.map (tm a)) [] ∧ ∀ b o, S b o → S' b o := by
  induction l generalizing Γ S F with
  | nil => exact ⟨S, F, h, .nil, fun _ _ h => h⟩
  | cons s l ih =>
    simp only [List.foldl_cons, List.map_cons]
    have key : ∃ Γ2 S2 F2, (if pureB (cont Γ s) then Γ else upd Γ s [] (pv (cont Γ s))) = Γ2 ∧ G C S2 F2 Γ2 a w ∧ R S2 w [pv (cont Γ s)] [tm a s] [] ∧ (∀ b o, S b o → S2 b o) ∧ ∀ t, pv (cont Γ2 t) = pv (cont Γ t) ∧ (cont Γ t ≠ .any → cont Γ2 t ≠ .any) := by
      by_cases hp : pureB (cont Γ s) = true
      · refine ⟨Γ, S, F, by simp [hp], h, ?_, fun _ _ h => h, fun t => ⟨rfl, fun h => h⟩⟩
        have := h.slots s
        rw [this.pure1 hp] at this
        rw [pv_pure _ hp]; exact this
      · have hD : (cont Γ s).getP [] = some (cont Γ s) := rfl
        obtain ⟨u, S2, F2, h1, h2, h3, h4, h5⟩ := h.freeze hD (hne s (by simp))
        simp only [fol, Option.some.injEq] at h1
        subst h1
        refine ⟨upd Γ s [] (pv (cont Γ s)), S2, F2, by simp [hp], h4, h2, h5, fun t => ?_⟩
        rw [cont_upd]
        split
        · rename_i e; subst e
          simp only [V.setP]
          refine ⟨pv_pure _ (pure_pv _), fun hh e => ?_⟩
          cases hc : cont Γ t <;> simp_all [pv]
        · exact ⟨rfl, fun h => h⟩
    obtain ⟨Γ2, S2, F2, e1, h1, h2, h3, h4⟩ := key
    rw [e1]
    obtain ⟨S3, F3, g1, g2, g3⟩ := ih h1 (fun t ht => (h4 t).2 (hne t (by simp [ht])))
    refine ⟨S3, F3, g1, ?_, fun b o hs => g3 b o (h3 b o hs)⟩
    have e2 : (l.map fun s => pv (cont Γ2 s)) = l.map fun s => pv (cont Γ s) := List.map_congr_left fun t _ => (h4 t).1
    rw [e2] at g2
    simpa using R.cons (h2.mono g3 (fun _ _ _ => rfl) (by simp)) g2
theorem frzE_ok (h : G C S F Γ a w) {e : E} {v : Value} {y : V} (hf : frzE Γ e = some (Γ1, y)) (ha : Ali Γ a w e v) (hc : R S w [e.cont] [v] []) :
    ∃ S' F', G C S' F' Γ1 a w ∧ R S' w [y] [v] [] ∧ ∀ b o, S b o → S' b o := by
  cases e with
  | p x => exact frz_ok (e := .p x) h hf ha hc
  | al r q => exact frz_ok (e := .al r q) h hf ha hc
  | ag r q i j n => exact frz_ok (e := .ag r q i j n) h hf ha hc
  | pa r q i j =>
    simp only [frzE] at hf
    split at hf
    rotate_left
    · cases hf
    rename_i D hD
    split at hf
    rotate_left
    · cases hf
    rename_i cs hcs
    cases hf
    have hne : D ≠ .any := fun e => by rw [e] at hcs; simp [V.row] at hcs
    obtain ⟨u, fc, fr, h1, h2, h3, h4, h5⟩ := h.upd (D' := pv D) hD (h.rlt hD hne)
    have hn := List.nodup_append.1 (h3.nodup_iff.1 (h.nodup r))
    have hin : ∀ b, b ∈ fr → b ∈ F r := fun b hb => h3.mem_iff.2 (List.mem_append_right _ hb)
    have hin' : ∀ b, b ∈ fc → b ∈ F r := fun b hb => h3.mem_iff.2 (List.mem_append_left _ hb)
    obtain ⟨fp', hp', hG⟩ := h5 (fun b o => S b o ∨ b ∈ fc) w [] ⟨fun b o hb => .inl (h.mem.sub b o hb), fun b o hb => hb.elim (h.mem.lt b o) fun hb => (h.mine r b (hin' b hb)).1,
        fun b o hb => hb.elim (h.mem.new b o) fun hb => .inr (h.mine r b (hin' b hb)).2, h.mem.os, h.mem.tape, h.mem.output, h.mem.size, h.mem.block⟩
      (fun _ _ h => .inl h) (fun _ _ _ => rfl) (fun _ _ => rfl) (fun _ _ _ _ => rfl) (Nat.le_refl _) h2.view1 List.nodup_nil (by simp) (by simp) (by simp)
      (fun b o hb hs => hs.elim (h.apart r b o (hin b hb)) fun hs => hn.2.2 b hs b hb rfl) (fun s b o hs hb hs' => hs'.elim (h.apart s b o hb) fun hs' => h.disj r s b (fun e => hs e.symm) (hin' b hs') hb) (by simp) (by simp [pv_row])
    obtain ⟨u', x, g1, g2, g3⟩ := ha D cs hD hcs
    rw [h1] at g1; cases g1
    obtain ⟨b, o, us, f0, f1, f2, k1, k2, k3, k4, k5⟩ := h2.rowAt hcs
    rw [k1 j] at g2; cases g2
    subst g3
    have hv : R (fun b o => S b o ∨ b ∈ fc) w (pvL cs) us [] := k2.view.mono (fun b' o' h' => h'.elim .inl fun h' => .inr (by rw [k3]; simp [h'])) (fun _ _ _ => rfl) (by simp)
    exact ⟨_, _, hG, R.ip b o j hv k4 (fun k hk => ⟨.inr (by rw [k3]; simp), k5 k hk⟩) .nil, fun _ _ h => .inl h⟩
  | cl f l =>
    simp only [frzE] at hf
    split at hf
    rotate_left
    · cases hf
    rename_i hne
    cases hf
    obtain ⟨S', F', g1, g2, g3⟩ := frz_slots h l (fun s hs e => by have := hne s hs; rw [e] at this; simp [anyB] at this)
    refine ⟨S', F', g1, ?_, g3⟩
    rw [show v = .func (.func f) #[] (l.map (tm a)).toArray from ha]
    simpa using R.clo (f := f) g2 (R.nil (S := S') (w := w))
theorem frzA_ok : ∀ {l : List Operand} {S F Γ Γ1 ys}, G C S F Γ a w → frzA Γ l = some (Γ1, ys) →
    ∃ S' F', G C S' F' Γ1 a w ∧ (∀ b o, S b o → S' b o) ∧ R S' w ys (l.map a.eval) [] := by
  intro l
  induction l with
  | nil => intro S F Γ Γ1 ys h hf; simp only [frzA] at hf; cases hf; exact ⟨S, F, h, fun _ _ h => h, .nil⟩
  | cons x l ih =>
    intro S F Γ Γ1 ys h hf
    simp only [frzA] at hf
    split at hf
    rotate_left
    · cases hf
    rename_i Γ2 y hy
    split at hf
    rotate_left
    · cases hf
    rename_i Γ3 ys' hys
    cases hf
    obtain ⟨ha, hc⟩ := h.rdAli x
    obtain ⟨S1, F1, h1, h2, h3⟩ := frzE_ok h hy ha hc
    obtain ⟨S2, F2, g1, g2, g3⟩ := ih h1 hys
    exact ⟨S2, F2, g1, fun b o hs => g2 b o (h3 b o hs), by simpa using R.cons (h2.mono g2 (fun _ _ _ => rfl) (by simp)) g3⟩
end
def target (Γ : Env) (f : Operand) : Option (FuncId × List V) :=
  match f with
  | .func f => some (f, [])
  | x => match look Γ (rd Γ x) with
    | .clo f l => some (f, l)
    | _ => none
def callS (P : Program) (Γ : Env) (f : Operand) (args : List Operand) (dst : Option Nat) (K : Env → Prop) : Prop :=
  match target Γ f with
  | some (fid, caps) => ∃ r, ACall P fid (args.map (fun x => look Γ (rd Γ x)) ++ caps) r ∧ scalB r = true ∧ (okV r → K (putX Γ dst (.p r)))
  | none => False
def callF (P : Program) (Γ : Env) (f : Operand) (args : List Operand) (dst : Option Nat) (K : Env → Prop) : Prop :=
  match f with
  | .func fid => match frzA Γ args with
    | some (Γ1, ys) => ∃ r, ACall P fid ys r ∧ (okV r → K (putX Γ1 dst (.p r)))
    | none => False
  | f => match rd Γ f with
    | .p (.clo fid caps) => match frzA Γ args with
      | some (Γ1, ys) => ∃ r, ACall P fid (ys ++ caps) r ∧ (okV r → K (putX Γ1 dst (.p r)))
      | none => False
    | _ => False
def lendOk : V → V → Bool
  | .own _, .own _ => true
  | .any, _ => false
  | _, .any => true
  | _, _ => false
def callM (P : Program) (Γ : Env) (f : Operand) (args : List Operand) (dst : Option Nat) (K : Env → Prop) : Prop :=
  match f, args with
  | .func fid, x :: rest => match frzA Γ rest with
    | some (Γ1, ys) => match rd Γ1 x with
      | .al r q => match (cont Γ1 r).getP q with
        | some D => ∃ rr D', ACallM P fid [D] ys rr [D'] ∧ lendOk D D' = true ∧ (okV rr → okV D' → K (putX (upd Γ1 r q D') dst (.p rr)))
        | none => False
      | _ => False
    | none => False
  | _, _ => False
def callT (P : Program) (Γ : Env) (f : Operand) (args : List Operand) (dst : Option Nat) (K : Env → Prop) : Prop :=
  match f, args with
  | .func fid, x :: rest => match frzA Γ rest with
    | some (Γ1, ys) => match tak Γ1 (rd Γ1 x) with
      | some (Γ2, D) => ∃ rr D', ACallM P fid [D] ys rr [D'] ∧ (okV rr → K (putX Γ2 dst (.p rr)))
      | none => False
    | none => False
  | _, _ => False
def awCall (P : Program) (Γ : Env) (f : Operand) (args : List Operand) (dst : Option Nat) (K : Env → Prop) : Prop :=
  callS P Γ f args dst K ∨ callF P Γ f args dst K ∨ callM P Γ f args dst K ∨ callT P Γ f args dst K
def awOp (P : Program) (Γ : Env) (o : Oper) (K : Env → Prop) : Prop :=
  match o.op with
  | .call { callee := .value f, args, .. } => awCall P Γ f args.toList o.dst K
  | op => match ev P Γ op with
    | some (Γ1, e) => K (putX Γ1 o.dst e)
    | none => False
def skp : E := .p (.c undef)
def gOf (ops : Array Oper) (Γ : Env) (o : Oper) : Option Bool :=
  match o.guard with
  | none => some true
  | some (j, want) => match (ops[j]?).bind (·.dst) with
    | some d => match look Γ (rd Γ (.tmp d)) with
      | .c (.bool b) => some (b == want)
      | .c (.tuple ⟨[]⟩) => some false
      | _ => none
    | none => some false
def awOps (P : Program) (ops : Array Oper) : List Nat → Env → (Env → Prop) → Prop
  | [], Γ, K => K Γ
  | i :: is, Γ, K => match ops[i]? with
    | none => awOps P ops is Γ K
    | some o => match gOf ops Γ o with
      | some g => (g = true → awOp P Γ o fun Γ' => awOps P ops is Γ' K) ∧ (g = false → awOps P ops is (putX Γ o.dst skp) K)
      | none => False
section
variable {C : Ctx} {S S' : Nat → Nat → Prop} {F : Nat → List Nat} {Γ Γ1 : Env} {a : Act} {w w' : World} {P : Program} {n : Nat}
theorem entr_run {f : FuncId} (h : entr P f = true) (args : Array Value) (w : World) : (callFunc f args).run P w = .ok (.enter f args) w := by
  unfold entr at h
  cases hf : P.funcs[f]? with
  | none => simp [hf] at h
  | some fn =>
    simp only [hf, Bool.and_eq_true, bne_iff_ne, ne_eq] at h
    have h1 : (fn.name == "runtime.NumGoroutine") = false := by simpa using h.1
    have h2 : fn.body.isNone = false := by cases hb : fn.body <;> simp_all
    simp only [callFunc, Sem.run_bind, run_program, Result.andThen_ok, hf, h1, h2]
    rfl
theorem G.called (h : G C S F Γ a w) {r : V} {v : Value} {S1 S' : Nat → Nat → Prop} {fp : List Nat} (hS : ∀ b o, S b o → S' b o) (hR : R S' w' [r] [v] fp) (hn : fp.Nodup) (hf : ∀ b, b ∈ fp → w.heap.size ≤ b ∧ b < w'.heap.size)
    (hap : ∀ b o, b ∈ fp → ¬ S' b o) (hnew : ∀ b o, S' b o → S b o ∨ w.heap.size ≤ b) (hlt : ∀ b o, S' b o → b < w'.heap.size) (hF : Far [] w w') : Out C Γ (.p r) a w' v := by
  have hm : Mem C S' w' := ⟨fun b o hb => hS b o (h.mem.sub b o hb), hlt, fun b o hb => (hnew b o hb).elim (h.mem.new b o) fun hb => .inr (.inr (by have := h.mem.size; omega)),
    hF.os.trans h.mem.os, hF.tape.trans h.mem.tape, hF.output.trans h.mem.output, by have := h.mem.size; have := hF.size; omega, fun k hk hk' => by
      have := h.mem.size
      rw [hF.block k (by omega) (by simp)]; exact h.mem.block k hk hk'⟩
  refine ⟨S', F, fp, h.world hm hS (fun b o hs => World.cell?_of_block (w := w) (a := ⟨b, o, none⟩) (hF.block b (h.mem.lt b o hs) (by simp))) (fun s b hb => hF.block b (h.mine s b hb).1 (by simp)) hF.size ?_, hR, hn, ?_, hap, ?_, trivial⟩
  · intro s b o hb hs
    rcases hnew b o hs with hs | hs
    · exact h.apart s b o hb hs
    · have := (h.mine s b hb).1; omega
  · intro s b hb hb'
    have := (h.mine s b hb').1
    have := (hf b hb).1
    omega
  · intro b hb
    have := h.mem.size
    exact ⟨(hf b hb).2, .inr (by have := (hf b hb).1; omega)⟩
theorem G.calledT (h : G C S F Γ a w) {fy : List Nat} (hfd : ∀ s b, b ∈ fy → b ∉ F s) (hfm : ∀ b, b ∈ fy → b < w.heap.size ∧ (b ∈ C.fp0 ∨ C.w0.heap.size ≤ b)) (hfS : ∀ b o, b ∈ fy → ¬ S b o)
    {r : V} {v : Value} {S' : Nat → Nat → Prop} {fp : List Nat} (hS : ∀ b o, S b o → S' b o) (hR : R S' w' [r] [v] fp) (hn : fp.Nodup) (hf : ∀ b, b ∈ fp → b < w'.heap.size ∧ (b ∈ fy ∨ w.heap.size ≤ b))
    (hap : ∀ b o, b ∈ fp → ¬ S' b o) (hnew : ∀ b o, S' b o → S b o ∨ b ∈ fy ∨ w.heap.size ≤ b) (hlt : ∀ b o, S' b o → b < w'.heap.size) (hF : Far fy w w') : Out C Γ (.p r) a w' v := by
  have hsz := h.mem.size
  have hm : Mem C S' w' := ⟨fun b o hb => hS b o (h.mem.sub b o hb), hlt, fun b o hb => by
      rcases hnew b o hb with hb | hb | hb
      · exact h.mem.new b o hb
      · exact .inr (hfm b hb).2
      · exact .inr (.inr (by omega)),
    hF.os.trans h.mem.os, hF.tape.trans h.mem.tape, hF.output.trans h.mem.output, by have := hF.size; omega, fun k hk hk' => by
      rw [hF.block k (by omega) (fun hb => by rcases (hfm k hb).2 with h | h; exact hk' h; omega)]; exact h.mem.block k hk hk'⟩
  refine ⟨S', F, fp, h.world hm hS (fun b o hs => World.cell?_of_block (w := w) (a := ⟨b, o, none⟩) (hF.block b (h.mem.lt b o hs) (fun hb => hfS b o hb hs))) (fun s b hb => hF.block b (h.mine s b hb).1 (fun hb' => hfd s b hb' hb)) hF.size ?_, hR, hn, ?_, hap, ?_, trivial⟩
  · intro s b o hb hs
    rcases hnew b o hs with hs | hs | hs
    · exact h.apart s b o hb hs
    · exact hfd s b hs hb
    · have := (h.mine s b hb).1; omega
  · intro s b hb hb'
    rcases (hf b hb).2 with h' | h'
    · exact hfd s b h' hb'
    · have := (h.mine s b hb').1; omega
  · intro b hb
    refine ⟨(hf b hb).1, ?_⟩
    rcases (hf b hb).2 with h' | h'
    · exact (hfm b h').2
    · exact .inr (by omega)
theorem target_ok (h : G C S F Γ a w) {f : Operand} {fid : FuncId} {caps : List V} (ht : target Γ f = some (fid, caps)) :
    ∃ cs, a.eval f = .func (.func fid) #[] cs.toArray ∧ R (T S F) w caps cs [] := by
  have key : ∀ x : Operand, look Γ (rd Γ x) = .clo fid caps → ∃ cs, a.eval x = .func (.func fid) #[] cs.toArray ∧ R (T S F) w caps cs [] := by
    intro x hx
    have := h.look x
    rw [hx] at this
    obtain ⟨fp, hfp, this⟩ : ∃ fp, fp = [] ∧ R (T S F) w [.clo fid caps] [a.eval x] fp := ⟨_, rfl, this⟩
    generalize a.eval x = v at this
    cases this with
    | clo h1 h2 =>
      cases h2
      simp only [List.append_nil] at hfp
      rw [hfp] at h1
      exact ⟨_, rfl, h1⟩
  cases f with
  | func f => simp only [target, Option.some.injEq, Prod.mk.injEq] at ht; obtain ⟨rfl, rfl⟩ := ht; exact ⟨[], rfl, .nil⟩
  | tmp t =>
    simp only [target] at ht
    split at ht
    · rename_i hx; cases ht; exact key _ hx
    · cases ht
  | const v =>
    simp only [target] at ht
    split at ht
    · rename_i hx; cases ht; exact key _ hx
    · cases ht
  | global g =>
    simp only [target] at ht
    split at ht
    · rename_i hx; cases ht; exact key _ hx
    · cases ht
theorem addrOf_own (A B : List V) (v : Value) (i j : Nat) : addrOf (.own A) v i j = addrOf (.own B) v i j := by
  cases v with
  | pointer p =>
    cases p with
    | none => rfl
    | some x => obtain ⟨b, o, f⟩ := x; cases f <;> rfl
  | _ => rfl
theorem T_lt (h : G C S F Γ a w) : ∀ b o, T S F b o → b < w.heap.size := fun b o hb => hb.elim (h.mem.lt b o) fun ⟨s, hs⟩ => (h.mine s b hs).1
theorem run_call {o : Oper} {f : Operand} {args : Array Operand} {tys : Array TypeId} (ho : o.op = .call { callee := .value f, args := args, argTypes := tys }) {fid : FuncId} {cs : List Value} (hf : a.eval f = .func (.func fid) #[] cs.toArray) (he : entr P fid = true) :
    (execOp a.eval o).run P w = .ok (.enter fid ((args.toList.map a.eval ++ cs).toArray)) w := by
  simp only [execOp, ho, resolve, hf, Deferred.ofValue, Sem.run_bind, Sem.run_pure, Result.andThen_ok, invoke]
  rw [entr_run he]
  simp
theorem awCall_sound {Q : Exit → Act → World → Prop} {o : Oper} {f : Operand} {args : Array Operand} {tys : Array TypeId} (ho : o.op = .call { callee := .value f, args := args, argTypes := tys }) (hd : ∀ d, o.dst = some d → C.lo ≤ d ∧ d < n)
    {K : Env → Prop} {next : Act → World → Prop} (hG : Gd C n Γ a w) (h : awCall P Γ f args.toList o.dst K) (hK : ∀ Γ' a' w', K Γ' → Gd C n Γ' a' w' → next a' w') : o.wp P a w next Q := by
  obtain ⟨hsz, S, F, hG⟩ := hG
  unfold Oper.wp
  rcases h with h | h | h | h
  · unfold callS at h
    split at h
    rotate_left
    · exact h.elim
    rename_i fid caps ht
    obtain ⟨r, hA, hs, hk⟩ := h
    obtain ⟨cs, hcs, hRc⟩ := target_ok hG ht
    have hRa : R (T S F) w (args.toList.map fun x => look Γ (rd Γ x)) (args.toList.map a.eval) [] := by
      generalize args.toList = l
      induction l with
      | nil => exact .nil
      | cons x l ih => exact R.cons (hG.look x) ih
    have hR := R.append hRa hRc
    rw [run_call ho hcs hA.1, Oper.upon_enter]
    refine (hA.2 (T S F) w _ hR (T_lt hG)).mono ?_
    rintro e w' ⟨v, S', fp, rfl, g1, g2, g3, g4, g5, g6, g7, g8⟩
    have hsc : scalL [r] = true := by simp [scalL, hs]
    obtain ⟨_, hR'⟩ := g1.scal (S' := S) (w' := w') hsc
    have hout : Out C Γ (.p r) a w' v := hG.called (S1 := S) (fun _ _ h => h) hR' List.nodup_nil (by simp) (by simp) (fun _ _ h => .inl h) (fun b o hb => Nat.lt_of_lt_of_le (hG.mem.lt b o hb) g8.size) g8
    exact hK _ _ _ (hk (by have := g1.ok; exact this.1)) (hout.put hsz hd)
  · have key : ∀ (fid : FuncId) (caps : List V) (cs : List Value), a.eval f = .func (.func fid) #[] cs.toArray → R S w caps cs [] → (∃ Γ1 ys, frzA Γ args.toList = some (Γ1, ys) ∧ ∃ r, ACall P fid (ys ++ caps) r ∧ (okV r → K (putX Γ1 o.dst (.p r)))) →
        o.upon P a next Q ((execOp a.eval o).run P w) := by
      intro fid caps cs hcs hRc ⟨Γ1, ys, hys, r, hA, hk⟩
      obtain ⟨S1, F1, k1, k2, k3⟩ := frzA_ok hG hys
      have hR := R.append k3 (hRc.mono k2 (fun _ _ _ => rfl) (by simp))
      rw [run_call ho hcs hA.1, Oper.upon_enter]
      refine (hA.2 S1 w _ hR k1.mem.lt).mono ?_
      rintro e w' ⟨v, S', fp, rfl, g1, g2, g3, g4, g5, g6, g7, g8⟩
      have hout : Out C Γ1 (.p r) a w' v := k1.called (S1 := S1) g5 g1 g2 g3 g4 g6 g7 g8
      exact hK _ _ _ (hk (by have := g1.ok; exact this.1)) (hout.put hsz hd)
    unfold callF at h
    split at h
    · rename_i fid
      split at h
      · rename_i Γ1 ys hys
        obtain ⟨r, hA, hk⟩ := h
        exact key fid [] [] rfl .nil ⟨Γ1, ys, hys, r, by simpa using hA, hk⟩
      · exact h.elim
    · split at h
      · rename_i fid caps hrd
        split at h
        · rename_i Γ1 ys hys
          obtain ⟨r, hA, hk⟩ := h
          have hc := (hG.rdAli f).2
          rw [hrd] at hc
          simp only [E.cont] at hc
          obtain ⟨fp, hfp, hc⟩ : ∃ fp, fp = [] ∧ R S w [.clo fid caps] [a.eval f] fp := ⟨_, rfl, hc⟩
          generalize hev : a.eval f = v at hc
          cases hc with
          | @clo _ _ cs fq _ _ _ h1 h2 =>
            cases h2
            simp only [List.append_nil] at hfp
            rw [hfp] at h1
            exact key fid caps cs hev h1 ⟨Γ1, ys, hys, r, hA, hk⟩
        · exact h.elim
      · exact h.elim
  · unfold callM at h
    split at h
    rotate_left
    · exact h.elim
    rename_i fid x rest hargs
    split at h
    rotate_left
    · exact h.elim
    rename_i Γ1 ys hys
    split at h
    rotate_left
    · exact h.elim
    rename_i r q hrd
    split at h
    rotate_left
    · exact h.elim
    rename_i D hD
    obtain ⟨rr, D', hA, hlend, hk⟩ := h
    obtain ⟨S1, F1, k1, k2, k3⟩ := frzA_ok hG hys
    obtain ⟨hal, _⟩ := k1.rdAli x
    rw [hrd] at hal
    have hDne : D ≠ .any := by intro e; subst e; simp [lendOk] at hlend
    obtain ⟨u, fc, fr, h1, h2, h3, _, h5⟩ := k1.upd (D' := D') hD (k1.rlt hD hDne)
    have hu : u = a.eval x := by have := hal _ hD; rw [h1] at this; exact Option.some.inj this
    subst hu
    have hn := List.nodup_append.1 (h3.nodup_iff.1 (k1.nodup r))
    have hin : ∀ b, b ∈ fr → b ∈ F1 r := fun b hb => h3.mem_iff.2 (List.mem_append_right _ hb)
    have hin' : ∀ b, b ∈ fc → b ∈ F1 r := fun b hb => h3.mem_iff.2 (List.mem_append_left _ hb)
    have hrun : (execOp a.eval o).run P w = .ok (.enter fid (([a.eval x] ++ rest.map a.eval).toArray)) w := by
      have := run_call (a := a) (w := w) (P := P) (cs := []) ho rfl hA.1
      rw [hargs] at this
      simpa using this
    rw [hrun, Oper.upon_enter]
    refine (hA.2 S1 w _ _ fc h2 hn.1 (fun b o' hb => k1.apart r b o' (hin' b hb)) (fun b hb => (k1.mine r b (hin' b hb)).1) k3 k1.mem.lt).mono ?_
    rintro e w' ⟨v, S', fp, fo', rfl, g1, g2, g3, g4, g5, g6, g7, g8, g9⟩
    have hn2 := List.nodup_append.1 g3
    have hfree : ∀ b, b < w.heap.size → b ∉ fc → b ∉ fp ∧ b ∉ fo' := fun b hb hb' => by
      have : ∀ b', b' ∈ fp ++ fo' → b' ≠ b := fun b' hb'' e => by subst e; rcases (g4 _ hb'').2 with h | h; exact hb' h; omega
      exact ⟨fun h => this b (by simp [h]) rfl, fun h => this b (by simp [h]) rfl⟩
    have hS' : ∀ b o, b < w.heap.size → b ∉ fc → ¬ S1 b o → ¬ S' b o := fun b o hb hb' hs hs' => by
      rcases g7 b o hs' with h | h | h
      · exact hs h
      · exact hb' h
      · omega
    have hown : ∀ b, b ∈ fc ∨ w.heap.size ≤ b → b ∈ C.fp0 ∨ C.w0.heap.size ≤ b := by
      rintro b (hb | hb)
      · exact (k1.mine r b (hin' b hb)).2
      · have := k1.mem.size; exact .inr (by omega)
    have hfr : ∀ b, b ∈ fr → b < w.heap.size ∧ b ∉ fc := fun b hb => ⟨(k1.mine r b (hin b hb)).1, fun hb' => hn.2.2 b hb' b hb rfl⟩
    have hFs : ∀ s b, s ≠ r → b ∈ F1 s → b < w.heap.size ∧ b ∉ fc := fun s b hs hb => ⟨(k1.mine s b hb).1, fun hb' => k1.disj r s b (fun e => hs e.symm) (hin' b hb') hb⟩
    have hm : Mem C S' w' := ⟨fun b o hb => g6 b o (k1.mem.sub b o hb), g8, fun b o hb => (g7 b o hb).elim (k1.mem.new b o) fun hb => .inr (hown b hb),
      g9.os.trans k1.mem.os, g9.tape.trans k1.mem.tape, g9.output.trans k1.mem.output, by have := k1.mem.size; have := g9.size; omega, fun k hk hk' => by
        have := k1.mem.size
        rw [g9.block k (by omega) (fun hb => by rcases hown k (.inl hb) with h | h; exact hk' h; omega)]; exact k1.mem.block k hk hk'⟩
    obtain ⟨fp', hp', hG2⟩ := h5 S' w' fo' hm g6 (fun b o hs => World.cell?_of_block (w := w) (a := ⟨b, o, none⟩) (g9.block b (k1.mem.lt b o hs) (fun hb => k1.apart r b o (hin' b hb) hs)))
      (fun k hk => g9.block k (hfr k hk).1 (hfr k hk).2) (fun s k hs hk => g9.block k (hFs s k hs hk).1 (hFs s k hs hk).2) g9.size g2 hn2.2.1
      (fun b hb hb' => (hfree b (hfr b hb').1 (hfr b hb').2).2 hb) (fun s b hs hb hb' => (hfree b (hFs s b hs hb').1 (hFs s b hs hb').2).2 hb) (fun b o hb => g5 b o (by simp [hb]))
      (fun b o hb => hS' b o (hfr b hb).1 (hfr b hb).2 (k1.apart r b o (hin b hb))) (fun s b o hs hb => hS' b o (hFs s b hs hb).1 (hFs s b hs hb).2 (k1.apart s b o hb))
      (fun b hb => ⟨(g4 b (by simp [hb])).1, hown b (g4 b (by simp [hb])).2⟩)
      (by
        intro i cs hcs
        cases D' with
        | own o' =>
          cases D with
          | own ol =>
            simp only [V.row] at hcs ⊢
            split at hcs
            · rename_i hi; exact ⟨⟨ol, by simp [hi]⟩, fun j => addrOf_own _ _ _ _ _⟩
            · cases hcs
          | _ => simp [lendOk] at hlend
        | any => simp [V.row] at hcs
        | _ => cases D <;> simp [lendOk] at hlend)
    have hout : Out C (Am.upd Γ1 r q D') (.p rr) a w' v := by
      refine ⟨S', _, fp, hG2, g1, hn2.1, ?_, fun b o hb => g5 b o (by simp [hb]), fun b hb => ⟨(g4 b (by simp [hb])).1, hown b (g4 b (by simp [hb])).2⟩, trivial⟩
      intro s b hb
      split
      · intro hb'
        rw [hp'.mem_iff, List.mem_append] at hb'
        rcases hb' with hb' | hb'
        · exact hn2.2.2 b hb b hb' rfl
        · exact (hfree b (hfr b hb').1 (hfr b hb').2).1 hb
      · rename_i hs
        intro hb'
        exact (hfree b (hFs s b hs hb').1 (hFs s b hs hb').2).1 hb
    refine hK _ _ _ (hk (by have := g1.ok; exact this.1) (by have := g2.ok; exact this.1)) (hout.put hsz hd)
  · unfold callT at h
    split at h
    rotate_left
    · exact h.elim
    rename_i fid x rest hargs
    split at h
    rotate_left
    · exact h.elim
    rename_i Γ1 ys hys
    split at h
    rotate_left
    · exact h.elim
    rename_i Γ2 D htk
    obtain ⟨rr, D', hA, hk⟩ := h
    obtain ⟨S1, F1, k1, k2, k3⟩ := frzA_ok hG hys
    obtain ⟨hal, hcc⟩ := k1.rdAli x
    obtain ⟨F2, fy, t1, t2, t3, t4, t5, t6⟩ := tak_ok k1 htk hal hcc
    have hfS : ∀ b o, b ∈ fy → ¬ S1 b o := fun b o hb => by obtain ⟨s, hs⟩ := t5 b hb; exact k1.apart s b o hs
    have hfm : ∀ b, b ∈ fy → b < w.heap.size ∧ (b ∈ C.fp0 ∨ C.w0.heap.size ≤ b) := fun b hb => by obtain ⟨s, hs⟩ := t5 b hb; exact k1.mine s b hs
    have hrun : (execOp a.eval o).run P w = .ok (.enter fid (([a.eval x] ++ rest.map a.eval).toArray)) w := by
      have := run_call (a := a) (w := w) (P := P) (cs := []) ho rfl hA.1
      rw [hargs] at this
      simpa using this
    rw [hrun, Oper.upon_enter]
    refine (hA.2 S1 w _ _ fy t2 t3 hfS (fun b hb => (hfm b hb).1) k3 k1.mem.lt).mono ?_
    rintro e w' ⟨v, S', fp, fo', rfl, g1, g2, g3, g4, g5, g6, g7, g8, g9⟩
    have hn2 := List.nodup_append.1 g3
    have hout : Out C Γ2 (.p rr) a w' v := t1.calledT t4 hfm hfS g6 g1 hn2.1 (fun b hb => g4 b (by simp [hb])) (fun b o hb => g5 b o (by simp [hb])) g7 g8 g9
    exact hK _ _ _ (hk (by have := g1.ok; exact this.1)) (hout.put hsz hd)
theorem awOp_sound {Q : Exit → Act → World → Prop} {o : Oper} (hd : ∀ d, o.dst = some d → C.lo ≤ d ∧ d < n) {K : Env → Prop} {next : Act → World → Prop} (hG : Gd C n Γ a w) (h : awOp P Γ o K)
    (hK : ∀ Γ' a' w', K Γ' → Gd C n Γ' a' w' → next a' w') : o.wp P a w next Q := by
  unfold awOp at h
  split at h
  · rename_i f args tys ho
    exact awCall_sound ho hd hG h hK
  · split at h
    · rename_i Γ1 e he
      obtain ⟨hsz, S, F, hG'⟩ := hG
      obtain ⟨w', hcc⟩ := ev_ok hG' he
      obtain ⟨hc, _⟩ := hcc
      rcases hc with ⟨v, hr, hO⟩ | ⟨hr, rfl, S', F', hG2⟩
      · unfold Oper.wp; rw [hr, Oper.upon_value]
        exact hK _ _ _ h (hO.put hsz hd)
      · unfold Oper.wp; rw [hr, Oper.upon_skip]
        exact hK _ _ _ h ((Out.ali hG2 rfl trivial : Out C Γ1 dead a w' undef).put hsz hd)
    · exact h.elim
theorem gOf_ok {ops : Array Oper} {o : Oper} {g : Bool} (hG : Gd C n Γ a w) (h : gOf ops Γ o = some g) : Region.wanted o (yielded ops a.tmps) = g := by
  obtain ⟨hsz, S, F, hG⟩ := hG
  unfold gOf at h
  unfold Region.wanted
  split at h
  · rename_i hg; cases h; simp [hg]
  · rename_i j want hg
    simp only [hg]
    split at h
    · rename_i d hd
      split at h
      · rename_i b hb
        cases h
        have hv := lookInt hG hb
        simp only [Act.eval] at hv
        have hlt : d < a.tmps.size := by
          rcases Nat.lt_or_ge d a.tmps.size with h' | h'
          · exact h'
          · simp [Array.getD_eq_getD_getElem?, Array.getElem?_eq_none h', undef] at hv
        have : a.tmps[d]? = some (.bool b) := by
          rw [Array.getD_eq_getD_getElem?, Array.getElem?_eq_getElem hlt] at hv
          rw [Array.getElem?_eq_getElem hlt]; simpa using hv
        simp only [yielded, hd, Option.bind_some, this]
        cases b <;> cases want <;> rfl
      · rename_i hb
        cases h
        have hv := lookInt hG hb
        simp only [Act.eval] at hv
        simp only [yielded, hd, Option.bind_some]
        rw [Array.getD_eq_getD_getElem?] at hv
        cases hq : a.tmps[d]? with
        | none => rfl
        | some q => rw [hq] at hv; simp at hv; subst hv; rfl
      · cases h
    · rename_i hd
      cases h
      simp only [yielded, hd, Option.bind_none]
      rfl
theorem Gd.skp (hG : Gd C n Γ a w) {dst : Option Nat} (hd : ∀ d, dst = some d → C.lo ≤ d ∧ d < n) : Gd C n (putX Γ dst Am.skp) (a.put dst undef) w := by
  obtain ⟨hsz, S, F, hG⟩ := hG
  exact (Out.pure hG (.c .nil) : Out C Γ Am.skp a w undef).put hsz hd
theorem awOps_sound {Q : Exit → Act → World → Prop} {ops : Array Oper} (hd : ∀ (i : Nat) (o : Oper) (d : Nat), ops[i]? = some o → o.dst = some d → C.lo ≤ d ∧ d < n) {K : Env → Prop} (hK : ∀ Γ' a' w', K Γ' → Gd C n Γ' a' w' → Q .normal a' w') :
    ∀ (is : List Nat) (Γ : Env) (a : Act) (w : World), Gd C n Γ a w → awOps P ops is Γ K → wpOps P ops Q is a w := by
  intro is
  induction is with
  | nil => intro Γ a w hG h; exact hK _ _ _ h hG
  | cons i is ih =>
    intro Γ a w hG h
    rw [wpOps_cons]
    simp only [awOps] at h
    unfold wpOp
    split at h
    · rename_i ho; simp only [ho]; exact ih Γ a w hG h
    · rename_i o ho
      simp only [ho]
      split at h
      · rename_i g hg
        rw [gOf_ok hG hg]
        cases g with
        | true =>
          rw [if_pos rfl]
          exact .inl (awOp_sound (fun d => hd i o d ho) hG (h.1 rfl) (fun Γ' a' w' hk hG' => ih Γ' a' w' hG' hk))
        | false =>
          rw [if_neg (by simp)]
          exact ih _ _ _ (hG.skp (fun d => hd i o d ho)) (h.2 rfl)
      · exact h.elim
end
end Go.Am
end
section
namespace Go.Am
open Go.RowKit
def killL (U : List Nat) : E → E
  | .p x => .p x
  | .al r q => if r ∈ U then dead else .al r q
  | .pa r q i j => if r ∈ U then dead else .pa r q i j
  | .ag r q i j n => if r ∈ U then dead else .ag r q i j n
  | .cl f l => if ∃ s ∈ l, s ∈ U then dead else .cl f l
def hid (U : List Nat) (Γ : Env) : Env := fun t => if t ∈ U then dead else killL U (Γ t)
theorem cont_killL (U : List Nat) (x : E) : (killL U x).cont = x.cont := by
  cases x <;> simp only [killL] <;> (try split) <;> rfl
theorem cont_hid (U : List Nat) (Γ : Env) (t : Nat) : cont (hid U Γ) t = if t ∈ U then .any else cont Γ t := by
  simp only [cont, hid]; split
  · rfl
  · exact cont_killL _ _
theorem killL_kill {U : List Nat} {d : Nat} (hd : d ∈ U) (e : E) : killL U (kill d e) = killL U e := by
  cases e with
  | p x => rfl
  | al r q => simp only [kill]; split <;> rename_i h <;> simp_all [killL, dead]
  | pa r q i j => simp only [kill]; split <;> rename_i h <;> simp_all [killL, dead]
  | ag r q i j n => simp only [kill]; split <;> rename_i h <;> simp_all [killL, dead]
  | cl f l =>
    simp only [kill]; split
    · rename_i h
      have : ∃ s ∈ l, s ∈ U := ⟨d, h, hd⟩
      simp [killL, dead, this]
    · rfl
theorem hid_put {U : List Nat} {Γ : Env} {d : Nat} {e : E} (hd : d ∈ U) : hid U (put Γ d e) = hid U Γ := by
  funext t
  simp only [hid, put]
  by_cases ht : t ∈ U
  · simp [ht]
  · have : t ≠ d := fun h => ht (h ▸ hd)
    simp only [ht, if_false, if_neg this]
    exact killL_kill hd _
theorem kill_killL {U : List Nat} {d : Nat} (hd : d ∈ U) (e : E) : kill d (killL U e) = killL U e := by
  cases e with
  | p x => rfl
  | al r q => simp only [killL]; split <;> rename_i h <;> simp [kill, dead]; intro h2; exact absurd hd (h2 ▸ h)
  | pa r q i j => simp only [killL]; split <;> rename_i h <;> simp [kill, dead]; intro h2; exact absurd hd (h2 ▸ h)
  | ag r q i j n => simp only [killL]; split <;> rename_i h <;> simp [kill, dead]; intro h2; exact absurd hd (h2 ▸ h)
  | cl f l =>
    simp only [killL]; split <;> rename_i h
    · simp [kill, dead]
    · simp only [kill]
      split
      · rename_i h2; exact absurd ⟨d, h2, hd⟩ h
      · rfl
theorem kill_comm (d d' : Nat) (e : E) : kill d (kill d' e) = kill d' (kill d e) := by
  cases e with
  | p x => rfl
  | al r q => by_cases h1 : r = d <;> by_cases h2 : r = d' <;> simp [kill, dead, h1, h2] <;> (try split) <;> simp_all [kill, dead]
  | pa r q i j => by_cases h1 : r = d <;> by_cases h2 : r = d' <;> simp [kill, dead, h1, h2] <;> (try split) <;> simp_all [kill, dead]
  | ag r q i j n => by_cases h1 : r = d <;> by_cases h2 : r = d' <;> simp [kill, dead, h1, h2] <;> (try split) <;> simp_all [kill, dead]
  | cl f l => by_cases h1 : d ∈ l <;> by_cases h2 : d' ∈ l <;> simp [kill, dead, h1, h2]
theorem put_comm {Γ : Env} {d d' : Nat} {x y : E} (hne : d ≠ d') (hx : kill d' x = x) (hy : kill d y = y) : put (put Γ d x) d' y = put (put Γ d' y) d x := by
  funext t
  simp only [put]
  by_cases h1 : t = d'
  · subst h1
    have : t ≠ d := fun h => hne h.symm
    simp [this, hy]
  · by_cases h2 : t = d
    · subst h2; simp [h1, hx]
    · simp only [if_neg h1, if_neg h2]; exact kill_comm _ _ _
structure SOp where
  dst : Option Nat
  op : Op
  g : Option (Nat × Bool)
  u : List Nat
  deriving Inhabited
def wr (dst : Option Nat) (op : Op) : Option Nat :=
  match dst with
  | some d => some d
  | none => match op with
    | .store _ (.tmp s) _ => some s
    | _ => none
def gS (Γ : Env) (g : Option (Nat × Bool)) : Option Bool :=
  match g with
  | none => some true
  | some (d, want) => match look Γ (rd Γ (.tmp d)) with
    | .c (.bool b) => some (b == want)
    | .c (.tuple ⟨[]⟩) => some false
    | _ => none
def evFresh (P : Program) (Γ : Env) (t : TypeId) (s : Nat) (y : Operand) : Option V :=
  if (ti P t).ok then
    match Γ s, rd Γ y with
    | .p (.own l), .p z =>
      if pureB z then
        if (ti P t).agg then (match z with | .agg zs => if zs.length = (ti P t).size ∧ 0 + (ti P t).size ≤ l.length then some (setCells (.own l) 0 0 zs) else none | _ => none)
        else if (ti P t).size = 1 then (if leafB z = true ∧ 0 < l.length then some ((V.own l).setCell 0 0 z) else none) else none
      else none
    | _, _ => none
  else none
inductive Oc (P : Program) (Γ : Env) (o : SOp) : Option (Nat × E) → Prop
  | off (h : gS Γ o.g = some false) : Oc P Γ o (o.dst.map fun d => (d, skp))
  | op {e : E} (d : Nat) (h : gS Γ o.g = some true) (hd : o.dst = some d) (hl : loud o.op = false) (he : ev P Γ o.op = some (Γ, e)) : Oc P Γ o (some (d, e))
  | store {D : V} {t : TypeId} {s : Nat} {y : Operand} (h : gS Γ o.g = some true) (hd : o.dst = none) (ho : o.op = .store t (.tmp s) y) (he : evFresh P Γ t s y = some D) : Oc P Γ o (some (s, .p D))
  | callS {f : Operand} {args : Array Operand} {tys : Array TypeId} {fid : FuncId} {caps : List V} {r : V} (d : Nat) (h : gS Γ o.g = some true) (hd : o.dst = some d) (ho : o.op = .call { callee := .value f, args := args, argTypes := tys })
      (ht : target Γ f = some (fid, caps)) (hA : ACall P fid (args.toList.map (fun x => look Γ (rd Γ x)) ++ caps) r) (hs : scalB r = true) : Oc P Γ o (some (d, .p r))
  | callP {fid : FuncId} {args : Array Operand} {tys : Array TypeId} {ys : List V} {r : V} (d : Nat) (h : gS Γ o.g = some true) (hd : o.dst = some d) (ho : o.op = .call { callee := .value (.func fid), args := args, argTypes := tys })
      (hf : frzA Γ args.toList = some (Γ, ys)) (hA : ACall P fid ys r) : Oc P Γ o (some (d, .p r))
def appU (Γ : Env) (U : List Nat) : Option (Nat × E) → Env
  | none => Γ
  | some (d, e) => put Γ d (kill d (killL U e))
def awS (P : Program) (o : SOp) (Γ : Env) (K : Env → Prop) : Prop :=
  match o.u with
  | [] => match gS Γ o.g with
    | some g => (g = true → awOp P Γ { dst := o.dst, op := o.op, type := 0, pos := "", after := #[], guard := none } K) ∧ (g = false → K (putX Γ o.dst skp))
    | none => False
  | _ :: _ => ∃ r, Oc P (hid o.u Γ) o r ∧ K (appU Γ o.u r)
def awL (P : Program) : List SOp → Env → (Env → Prop) → Prop
  | [], Γ, K => K Γ
  | o :: l, Γ, K => awS P o Γ fun Γ' => awL P l Γ' K
theorem Oc.wr {P : Program} {Γ : Env} {o : SOp} {d : Nat} {e : E} {r} (h : Oc P Γ o r) (hr : r = some (d, e)) : Am.wr o.dst o.op = some d := by
  cases h with
  | off h =>
    cases hd : o.dst with
    | none => simp [hd] at hr
    | some d' => simp [hd] at hr; simp [Am.wr, hr.1]
  | op d' h hd hl he => cases hr; simp [Am.wr, hd]
  | store h hd ho he => cases hr; simp [Am.wr, hd, ho]
  | callS d' h hd ho ht hA hs => cases hr; simp [Am.wr, hd]
  | callP d' h hd ho hf hA => cases hr; simp [Am.wr, hd]
theorem killL_dead (U : List Nat) : killL U dead = dead := rfl
theorem appU_hid {U U' : List Nat} {Γ : Env} {o : SOp} {P : Program} {H : Env} {r} (h : Oc P H o r) {d : Nat} (hw : wr o.dst o.op = some d) (hd : d ∈ U') : hid U' (appU Γ U r) = hid U' Γ := by
  cases r with
  | none => rfl
  | some de =>
    obtain ⟨d', e⟩ := de
    have := h.wr rfl
    rw [hw] at this; cases this
    exact hid_put hd
theorem awS_swap {P : Program} {o o' : SOp} {Γ : Env} {K : Env → Prop} {d d' : Nat} (hw : wr o.dst o.op = some d) (hw' : wr o'.dst o'.op = some d') (hd : d ∈ o'.u) (hd' : d' ∈ o.u) (hne : d ≠ d')
    (h : awS P o Γ fun Γ' => awS P o' Γ' K) : awS P o' Γ fun Γ' => awS P o Γ' K := by
  have hu : ∃ x l, o.u = x :: l := by cases hh : o.u with | nil => simp [hh] at hd' | cons x l => exact ⟨x, l, rfl⟩
  have hu' : ∃ x l, o'.u = x :: l := by cases hh : o'.u with | nil => simp [hh] at hd | cons x l => exact ⟨x, l, rfl⟩
  obtain ⟨x, l, hu⟩ := hu
  obtain ⟨x', l', hu'⟩ := hu'
  have e1 : ∀ Γ K, awS P o Γ K = ∃ r, Oc P (hid o.u Γ) o r ∧ K (appU Γ o.u r) := fun Γ K => by simp [awS, hu]
  have e2 : ∀ Γ K, awS P o' Γ K = ∃ r, Oc P (hid o'.u Γ) o' r ∧ K (appU Γ o'.u r) := fun Γ K => by simp [awS, hu']
  rw [e1] at h
  obtain ⟨r, hr, h⟩ := h
  rw [e2] at h
  obtain ⟨r', hr', h⟩ := h
  rw [appU_hid hr hw hd] at hr'
  rw [e2]
  refine ⟨r', hr', ?_⟩
  rw [e1]
  refine ⟨r, by rw [appU_hid hr' hw' hd']; exact hr, ?_⟩
  have : appU (appU Γ o'.u r') o.u r = appU (appU Γ o.u r) o'.u r' := by
    cases r with
    | none => rfl
    | some de =>
      cases r' with
      | none => rfl
      | some de' =>
        obtain ⟨d1, e⟩ := de
        obtain ⟨d2, e'⟩ := de'
        have h1 := hr.wr rfl
        have h2 := hr'.wr rfl
        rw [hw] at h1; cases h1
        rw [hw'] at h2; cases h2
        simp only [appU]
        refine put_comm (fun e => hne e.symm) ?_ ?_
        · rw [kill_comm, kill_killL hd]
        · rw [kill_comm, kill_killL hd']
  rw [this]; exact h
theorem awOp_mono {P : Program} {Γ : Env} {o : Oper} {K K' : Env → Prop} (hK : ∀ Γ, K Γ → K' Γ) (h : awOp P Γ o K) : awOp P Γ o K' := by
  unfold awOp at h ⊢
  split at h
  · rcases h with h | h | h | h
    · refine .inl ?_
      unfold callS at h ⊢
      split at h
      · obtain ⟨r, h1, h2, h3⟩ := h; exact ⟨r, h1, h2, fun hh => hK _ (h3 hh)⟩
      · exact h
    rotate_left
    · refine .inr (.inr (.inl ?_))
      unfold callM at h ⊢
      split at h
      · split at h
        · split at h
          · split at h
            · obtain ⟨rr, o', h1, h0, h2⟩ := h; exact ⟨rr, o', h1, h0, fun ha hb => hK _ (h2 ha hb)⟩
            · exact h
          · exact h
        · exact h
      · exact h
    · refine .inr (.inr (.inr ?_))
      unfold callT at h ⊢
      split at h
      · split at h
        · split at h
          · obtain ⟨rr, o', h1, h2⟩ := h; exact ⟨rr, o', h1, fun ha => hK _ (h2 ha)⟩
          · exact h
        · exact h
      · exact h
    · refine .inr (.inl ?_)
      unfold callF at h ⊢
      split at h
      · split at h
        · obtain ⟨r, h1, h2⟩ := h; exact ⟨r, h1, fun hh => hK _ (h2 hh)⟩
        · exact h
      · split at h
        · split at h
          · obtain ⟨r, h1, h2⟩ := h; exact ⟨r, h1, fun hh => hK _ (h2 hh)⟩
          · exact h
        · exact h
  · split at h
    · exact hK _ h
    · exact h
theorem awS_mono {P : Program} {o : SOp} {Γ : Env} {K K' : Env → Prop} (hK : ∀ Γ, K Γ → K' Γ) (h : awS P o Γ K) : awS P o Γ K' := by
  unfold awS at h ⊢
  split at h
  · split at h
    · exact ⟨fun hg => awOp_mono hK (h.1 hg), fun hg => hK _ (h.2 hg)⟩
    · exact h
  · obtain ⟨r, h1, h2⟩ := h; exact ⟨r, h1, hK _ h2⟩
theorem awL_first {P : Program} {o : SOp} {post : List SOp} {K : Env → Prop} : ∀ {pre : List SOp} {Γ : Env},
    (∀ x ∈ pre, ∃ d d', wr x.dst x.op = some d ∧ wr o.dst o.op = some d' ∧ d ∈ o.u ∧ d' ∈ x.u ∧ d ≠ d') → awL P (pre ++ o :: post) Γ K → awL P (o :: (pre ++ post)) Γ K := by
  intro pre
  induction pre with
  | nil => intro Γ _ h; exact h
  | cons x pre ih =>
    intro Γ hx h
    obtain ⟨d, d', h1, h2, h3, h4, h5⟩ := hx x (by simp)
    have : awS P x Γ fun Γ' => awS P o Γ' fun Γ'' => awL P (pre ++ post) Γ'' K :=
      awS_mono (fun Γ' h' => ih (fun y hy => hx y (by simp [hy])) h') h
    exact awS_swap h1 h2 h3 h4 h5 this
section
variable {C : Ctx} {S S' : Nat → Nat → Prop} {F : Nat → List Nat} {Γ Γ1 : Env} {a : Act} {w w' : World} {P : Program} {n : Nat}
theorem G.hidden (h : G C S F Γ a w) (U : List Nat) : ∃ C', G C' S (fun t => if t ∈ U then [] else F t) (hid U Γ) a w ∧ C'.lo = C.lo ∧ C'.w0 = w ∧ C'.S0 = S ∧
    (∀ b, b ∈ C'.fp0 ↔ ∃ t, t ∉ U ∧ b ∈ F t) := by
  have hbig : ∀ t, a.tmps.size ≤ t → F t = [] := by
    intro t ht
    have := h.slots t
    have e : cont Γ t = .any := by simp [cont, h.big t ht, dead, E.cont]
    rw [e] at this
    exact this.pure1 rfl
  refine ⟨⟨w, S, (List.range a.tmps.size).flatMap fun t => if t ∈ U then [] else F t, C.lo, C.pin⟩, ?_, rfl, rfl, rfl, ?_⟩
  rotate_left
  · intro b
    simp only [List.mem_flatMap, List.mem_range]
    constructor
    · rintro ⟨t, _, hb⟩
      split at hb
      · simp at hb
      · exact ⟨t, by assumption, hb⟩
    · rintro ⟨t, ht, hb⟩
      refine ⟨t, ?_, by simp [ht, hb]⟩
      rcases Nat.lt_or_ge t a.tmps.size with h' | h'
      · exact h'
      · rw [hbig t h'] at hb; simp at hb
  have hfp : ∀ t b, t ∉ U → b ∈ F t → b ∈ (List.range a.tmps.size).flatMap fun t => if t ∈ U then [] else F t := by
    intro t b ht hb
    rw [List.mem_flatMap]
    refine ⟨t, ?_, by simp [ht, hb]⟩
    rw [List.mem_range]
    rcases Nat.lt_or_ge t a.tmps.size with h' | h'
    · exact h'
    · rw [hbig t h'] at hb; simp at hb
  refine ⟨⟨fun _ _ h => h, h.mem.lt, fun _ _ h => .inl h, rfl, rfl, rfl, Nat.le_refl _, fun _ _ _ => rfl⟩, ?_, ?_, ?_, ?_, ?_, ?_, ?_, h.defers, h.pins⟩
  · intro s
    rw [cont_hid]
    by_cases hs : s ∈ U
    · simp only [if_pos hs]; exact .any .nil
    · simp only [if_neg hs]; exact h.slots s
  · intro s; (try dsimp only); split
    · exact List.nodup_nil
    · exact h.nodup s
  · intro s t b hst hb
    (try dsimp only at hb ⊢)
    split at hb
    · simp at hb
    · split
      · simp
      · exact h.disj s t b hst hb
  · intro s b o hb
    (try dsimp only at hb)
    split at hb
    · simp at hb
    · exact h.apart s b o hb
  · intro s b hb
    (try dsimp only at hb)
    split at hb
    · simp at hb
    · rename_i hs; exact ⟨(h.mine s b hb).1, .inl (hfp s b hs hb)⟩
  · intro s
    have hA := h.ali s
    have hc : ∀ r, r ∉ U → cont (hid U Γ) r = cont Γ r := fun r hr => by rw [cont_hid, if_neg hr]
    simp only [hid]
    split
    · trivial
    · cases hg : Γ s with
      | p y => trivial
      | al r q =>
        rw [hg] at hA; simp only [killL]; split
        · trivial
        · rename_i hr; intro D hD; rw [hc r hr] at hD ⊢; exact hA D hD
      | pa r q i j =>
        rw [hg] at hA; simp only [killL]; split
        · trivial
        · rename_i hr; intro D cs hD; rw [hc r hr] at hD ⊢; exact hA D cs hD
      | ag r q i j m =>
        rw [hg] at hA; simp only [killL]; split
        · trivial
        · rename_i hr; intro D cs hD; rw [hc r hr] at hD ⊢; exact hA D cs hD
      | cl f l =>
        rw [hg] at hA; simp only [killL]; split
        · trivial
        · exact hA
  · intro s hs
    simp only [hid, h.big s hs]
    split
    · rfl
    · rfl
theorem Out.unhide (h : G C S F Γ a w) {U : List Nat} {C' : Ctx} (hw0 : C'.w0 = w) (hS0 : C'.S0 = S) (hfp : ∀ b, b ∈ C'.fp0 ↔ ∃ t, t ∉ U ∧ b ∈ F t) (hFar : Far [] w w') {e : E} {v : Value} (hO : Out C' (hid U Γ) e a w' v) :
    Out C Γ (killL U e) a w' v := by
  obtain ⟨S', F', fe, h', hR, o1, o2, o3, o4, o5⟩ := hO
  have hS : ∀ b o, S b o → S' b o := fun b o hs => h'.mem.sub b o (by rw [hS0]; exact hs)
  have hsz : w.heap.size ≤ w'.heap.size := hFar.size
  have hblk : ∀ k, k < w.heap.size → w'.heap[k]? = w.heap[k]? := fun k hk => hFar.block k hk (by simp)
  have hcell : ∀ b o, S b o → w'.cell? ⟨b, o, none⟩ = w.cell? ⟨b, o, none⟩ := fun b o hs => World.cell?_of_block (w := w) (a := ⟨b, o, none⟩) (hblk b (h.mem.lt b o hs))
  have hhid : ∀ t b, b ∈ F t → w'.heap[b]? = w.heap[b]? := fun t b hb => hblk b (h.mine t b hb).1
  have hc0 : ∀ b, (b ∈ C'.fp0 ∨ C'.w0.heap.size ≤ b) → (∃ t', t' ∉ U ∧ b ∈ F t') ∨ w.heap.size ≤ b := by
    intro b hb
    rcases hb with hh | hh
    · exact .inl ((hfp b).1 hh)
    · rw [hw0] at hh; exact .inr hh
  have hF' : ∀ t b, b ∈ F' t → (∃ t', t' ∉ U ∧ b ∈ F t') ∨ w.heap.size ≤ b := fun t b hb => hc0 b (h'.mine t b hb).2
  have hSn : ∀ b o, S' b o → S b o ∨ (∃ t', t' ∉ U ∧ b ∈ F t') ∨ w.heap.size ≤ b := by
    intro b o hb
    rcases h'.mem.new b o hb with hh | hh
    · rw [hS0] at hh; exact .inl hh
    · exact .inr (hc0 b hh)
  have hc : ∀ r, r ∉ U → cont (hid U Γ) r = cont Γ r := fun r hr => by rw [cont_hid, if_neg hr]
  have hown : ∀ b, (∃ t', t' ∉ U ∧ b ∈ F t') ∨ w.heap.size ≤ b → b ∈ C.fp0 ∨ C.w0.heap.size ≤ b := by
    rintro b (⟨t', _, hh⟩ | hh)
    · exact (h.mine t' b hh).2
    · have := h.mem.size; exact .inr (by omega)
  have hno : ∀ s b, s ∈ U → b ∈ F s → ¬ ((∃ t', t' ∉ U ∧ b ∈ F t') ∨ w.heap.size ≤ b) := by
    rintro s b hs hb (⟨t', ht', hh⟩ | hh)
    · exact h.disj s t' b (fun e => ht' (e ▸ hs)) hb hh
    · have := (h.mine s b hb).1; omega
  have hG : G C S' (fun t => if t ∈ U then F t else F' t) Γ a w' := by
    refine ⟨⟨fun b o hb => hS b o (h.mem.sub b o hb), h'.mem.lt, ?_, hFar.os.trans h.mem.os, hFar.tape.trans h.mem.tape, hFar.output.trans h.mem.output, ?_, ?_⟩, ?_, ?_, ?_, ?_, ?_, ?_, h.big, h.defers, h.pins⟩
    · intro b o hb
      rcases hSn b o hb with hh | hh
      · exact h.mem.new b o hh
      · exact .inr (hown b hh)
    · have := h.mem.size; omega
    · intro k hk hk'
      have := h.mem.size
      rw [hblk k (by omega)]
      exact h.mem.block k hk hk'
    · intro s
      by_cases hs : s ∈ U
      · simp only [if_pos hs]; exact (h.slots s).mono hS hcell (hhid s)
      · simp only [if_neg hs]; rw [← hc s hs]; exact h'.slots s
    · intro s; (try dsimp only); split
      · exact h.nodup s
      · exact h'.nodup s
    · intro s t b hst hb
      (try dsimp only at hb ⊢)
      split at hb <;> split
      · exact h.disj s t b hst hb
      · rename_i hs ht
        exact fun hb' => hno s b hs hb (hF' t b hb')
      · rename_i hs ht
        exact fun hb' => hno t b ht hb' (hF' s b hb)
      · exact h'.disj s t b hst hb
    · intro s b o hb hs'
      (try dsimp only at hb)
      split at hb
      · rename_i hs
        rcases hSn b o hs' with hh | hh
        · exact h.apart s b o hb hh
        · exact hno s b hs hb hh
      · exact h'.apart s b o hb hs'
    · intro s b hb
      (try dsimp only at hb)
      split at hb
      · have := h.mine s b hb; exact ⟨by omega, this.2⟩
      · exact ⟨(h'.mine s b hb).1, hown b (hF' s b hb)⟩
    · exact fun s => Ali.world h hhid (h.ali s)
  refine ⟨S', _, fe, hG, by rw [cont_killL]; exact hR, o1, ?_, o3, fun b hb => ⟨(o4 b hb).1, hown b (hc0 b (o4 b hb).2)⟩, ?_⟩
  · intro s b hb
    (try dsimp only)
    split
    · rename_i hs
      exact fun hb' => hno s b hs hb' (hc0 b (o4 b hb).2)
    · exact o2 s b hb
  · cases e with
    | p y => trivial
    | al r q =>
      simp only [killL]; split
      · trivial
      · rename_i hr; intro D hD; have := o5 D (by rw [hc r hr]; exact hD); rw [hc r hr] at this; exact this
    | pa r q i j =>
      simp only [killL]; split
      · trivial
      · rename_i hr; intro D cs hD hcs; have := o5 D cs (by rw [hc r hr]; exact hD) hcs; rw [hc r hr] at this; exact this
    | ag r q i j m =>
      simp only [killL]; split
      · trivial
      · rename_i hr; intro D cs hD hcs; have := o5 D cs (by rw [hc r hr]; exact hD) hcs; rw [hc r hr] at this; exact this
    | cl f l =>
      simp only [killL]; split
      · trivial
      · exact o5
theorem G.weak (h : G C S F Γ a w) {Γ' : Env} (hc : ∀ t, cont Γ' t = cont Γ t) (ht : ∀ t, Γ' t = Γ t ∨ Γ' t = dead) : G C S F Γ' a w := by
  refine ⟨h.mem, fun s => by rw [hc]; exact h.slots s, h.nodup, h.disj, h.apart, h.mine, ?_, ?_, h.defers, h.pins⟩
  · intro s
    have hA := h.ali s
    rcases ht s with e | e
    · rw [e]
      cases hg : Γ s with
      | p y => trivial
      | al r q => rw [hg] at hA; intro D hD; rw [hc] at hD ⊢; exact hA D hD
      | pa r q i j => rw [hg] at hA; intro D cs hD hcs; rw [hc] at hD ⊢; exact hA D cs hD hcs
      | ag r q i j m => rw [hg] at hA; intro D cs hD hcs; rw [hc] at hD ⊢; exact hA D cs hD hcs
      | cl f l => rw [hg] at hA; exact hA
    · rw [e]; trivial
  · intro s hs
    rcases ht s with e | e
    · rw [e]; exact h.big s hs
    · exact e
theorem rd_hid {U : List Nat} {y : Operand} {z : V} (h : rd (hid U Γ) y = .p z) (hz : z ≠ .any) : rd Γ y = .p z := by
  cases y with
  | tmp t =>
    simp only [rd, hid] at h ⊢
    by_cases ht : t ∈ U
    · simp [ht, dead, pureB] at h; exact absurd h.symm hz
    · simp only [if_neg ht] at h
      cases hg : Γ t with
      | p x => rw [hg] at h; simpa [killL] using h
      | al r q =>
        rw [hg] at h
        by_cases hr : r ∈ U
        · simp only [killL, if_pos hr, dead, pureB, if_true] at h; exact absurd (E.p.inj h).symm hz
        · simp only [killL, if_neg hr] at h; cases h
      | pa r q i j =>
        rw [hg] at h
        by_cases hr : r ∈ U
        · simp only [killL, if_pos hr, dead, pureB, if_true] at h; exact absurd (E.p.inj h).symm hz
        · simp only [killL, if_neg hr] at h; cases h
      | ag r q i j m =>
        rw [hg] at h
        by_cases hr : r ∈ U
        · simp only [killL, if_pos hr, dead, pureB, if_true] at h; exact absurd (E.p.inj h).symm hz
        · simp only [killL, if_neg hr] at h; cases h
      | cl f l =>
        rw [hg] at h
        by_cases hr : ∃ s ∈ l, s ∈ U
        · simp only [killL, if_pos hr, dead, pureB, if_true] at h; exact absurd (E.p.inj h).symm hz
        · simp only [killL, if_neg hr] at h; cases h
  | _ => exact h
theorem evFresh_store {U : List Nat} {t : TypeId} {s : Nat} {y : Operand} {D : V} (he : evFresh P (hid U Γ) t s y = some D) :
    evStore P Γ t (.tmp s) y = some (upd Γ s [] D, dead) ∧ s ∉ U := by
  unfold evFresh at he
  split at he
  rotate_left
  · cases he
  rename_i hok
  split at he
  rotate_left
  · cases he
  rename_i l z hs hy
  have hsU : s ∉ U := by intro hh; simp [hid, hh, dead] at hs
  have hs' : Γ s = .p (.own l) := by
    simp only [hid, if_neg hsU] at hs
    cases hg : Γ s <;> rw [hg] at hs <;> simp only [killL] at hs <;> (try split at hs) <;> first | exact hs | cases hs
  split at he
  rotate_left
  · cases he
  rename_i hp
  have hrs : rd Γ (.tmp s) = .al s [] := by simp [rd, hs', pureB]
  have hcs : cont Γ s = .own l := by simp [cont, hs', E.cont]
  refine ⟨?_, hsU⟩
  have hadr : adr Γ (.al s []) = some (s, [], 0, 0) := by simp [adr, hcs, V.getP]
  unfold evStore
  simp only [hok, if_true, hrs, hadr]
  split at he
  · rename_i hagg
    split at he
    rotate_left
    · cases he
    rename_i zs
    split at he
    rotate_left
    · cases he
    rename_i hl
    cases he
    rw [rd_hid hy (by simp)]
    simp [rootOf, hcs, V.getP, V.row, hagg, tkf, tak, hp, hl]
    have := hl.2; omega
  · rename_i hagg
    split at he
    rotate_left
    · cases he
    rename_i h1
    split at he
    rotate_left
    · cases he
    rename_i hl
    cases he
    rw [rd_hid hy (by intro e; rw [e] at hl; simp [leafB] at hl)]
    simp [rootOf, hcs, V.getP, V.row, hagg, h1, tak, hp, hl]
end
end Go.Am
end
