/- Part of the proof of a law of the image. -/
import Derived.Test.YtfgfjgbggkdobaaGreatQPA
import Derived.Laws.StructEq
import Derived.ChangeKeysEq
import Derived.Laws.OwnMore
import Derived.Laws.Slices
set_option linter.all false
section
namespace Go.Am
open Go.RowKit
def prim (op : BinOp) (x y : Value) : Option Value :=
  match op, x, y with
  | .add, .int k a, .int k' b => if k = k' then some (.int k (k.wrap (a + b))) else none
  | .sub, .int k a, .int k' b => if k = k' then some (.int k (k.wrap (a - b))) else none
  | .mul, .int k a, .int k' b => if k = k' then some (.int k (k.wrap (a * b))) else none
  | .quo, .int k a, .int k' b => if k = k' ∧ b ≠ 0 then some (.int k (k.wrap (a.tdiv b))) else none
  | .rem, .int k a, .int k' b => if k = k' ∧ b ≠ 0 then some (.int k (a.tmod b)) else none
  | .and, .int k a, .int k' b => if k = k' then some (.int k (k.wrap (BitVec.ofInt k.bits a &&& BitVec.ofInt k.bits b).toNat)) else none
  | .or, .int k a, .int k' b => if k = k' then some (.int k (k.wrap (BitVec.ofInt k.bits a ||| BitVec.ofInt k.bits b).toNat)) else none
  | .shr, .int k a, .int k' b => if 0 ≤ b then some (.int k (a.fdiv (2 ^ min b.toNat k.bits))) else none
  | .shl, .int k a, .int k' b => if 0 ≤ b then some (.int k (k.wrap (a * 2 ^ min b.toNat k.bits))) else none
  | .eql, .int k a, .int k' b => if k = k' then some (.bool (a == b)) else none
  | .neq, .int k a, .int k' b => if k = k' then some (.bool (a != b)) else none
  | .lss, .int k a, .int k' b => if k = k' then some (.bool (decide (a < b))) else none
  | .leq, .int k a, .int k' b => if k = k' then some (.bool (decide (a ≤ b))) else none
  | .gtr, .int k a, .int k' b => if k = k' then some (.bool (decide (b < a))) else none
  | .geq, .int k a, .int k' b => if k = k' then some (.bool (decide (b ≤ a))) else none
  | .eql, .string a, .string b => some (.bool (a.toList == b.toList))
  | .neq, .string a, .string b => some (.bool (!(a.toList == b.toList)))
  | .lss, .string a, .string b => some (.bool (Op.bytesLess a.toList b.toList))
  | .gtr, .string a, .string b => some (.bool (!(Op.bytesLess a.toList b.toList || a.toList == b.toList)))
  | .leq, .string a, .string b => some (.bool (Op.bytesLess a.toList b.toList || a.toList == b.toList))
  | .geq, .string a, .string b => some (.bool (!Op.bytesLess a.toList b.toList))
  | _, _, _ => none
theorem prim_ok {op : BinOp} {x y z : Value} (h : prim op x y = some z) (P : Program) (t : TypeId) (xo yo : Operand) (w : World) :
    ((do eqGuard op t xo yo x y; binOp op t x y : Sem Value)).run P w = .ok z w := by
  have hi : ∀ (op : BinOp) (k : IntKind) (a b : Int) (z : Value), (binOp op t (.int k a) (.int k b)).run P w = .ok z w →
      ((do eqGuard op t xo yo (.int k a) (.int k b); binOp op t (.int k a) (.int k b) : Sem Value)).run P w = .ok z w := by
    intro op k a b z h
    rw [eqGuard_at_int]; exact h
  have hs : ∀ (op : BinOp) (a b : ByteArray) (z : Value), (binOp op t (.string a) (.string b)).run P w = .ok z w →
      ((do eqGuard op t xo yo (.string a) (.string b); binOp op t (.string a) (.string b) : Sem Value)).run P w = .ok z w := by
    intro op a b z h
    rw [eqGuard_at_string]; exact h
  unfold prim at h
  split at h
  case h_1 => split at h <;> cases h; rename_i hk; subst hk; refine hi _ _ _ _ _ ?_; rw [binOp_add]; rfl
  case h_2 => split at h <;> cases h; rename_i hk; subst hk; refine hi _ _ _ _ _ ?_; rw [binOp_sub]; rfl
  case h_3 => split at h <;> cases h; rename_i hk; subst hk; refine hi _ _ _ _ _ ?_; rw [binOp_mul]; rfl
  case h_4 => split at h <;> cases h; rename_i hk; obtain ⟨rfl, hb⟩ := hk; refine hi _ _ _ _ _ ?_; rw [binOp_quo, Op.intDiv, if_neg hb]; rfl
  case h_5 => split at h <;> cases h; rename_i hk; obtain ⟨rfl, hb⟩ := hk; refine hi _ _ _ _ _ ?_; rw [binOp_rem, Op.intDiv, if_neg hb]; rfl
  case h_6 => split at h <;> cases h; rename_i hk; subst hk; refine hi _ _ _ _ _ ?_; rw [binOp_and]; rfl
  case h_7 => split at h <;> cases h; rename_i hk; subst hk; refine hi _ _ _ _ _ ?_; rw [binOp_or]; rfl
  case h_8 =>
    split at h <;> cases h; rename_i k a k' b hb
    have e : (do eqGuard .shr t xo yo (.int k a) (.int k' b); binOp .shr t (.int k a) (.int k' b) : Sem Value) = binOp .shr t (.int k a) (.int k' b) := rfl
    rw [e, binOp_shr, Op.shift, if_neg (by omega)]; rfl
  case h_9 =>
    split at h <;> cases h; rename_i k a k' b hb
    have e : (do eqGuard .shl t xo yo (.int k a) (.int k' b); binOp .shl t (.int k a) (.int k' b) : Sem Value) = binOp .shl t (.int k a) (.int k' b) := rfl
    rw [e, binOp_shl, Op.shift, if_neg (by omega)]; rfl
  case h_10 => split at h <;> cases h; rename_i hk; subst hk; refine hi _ _ _ _ _ ?_; rw [binOp_eql]; rfl
  case h_11 => split at h <;> cases h; rename_i hk; subst hk; refine hi _ _ _ _ _ ?_; rw [binOp_neq]; rfl
  case h_12 => split at h <;> cases h; rename_i hk; subst hk; refine hi _ _ _ _ _ ?_; rw [binOp_lss]; rfl
  case h_13 => split at h <;> cases h; rename_i hk; subst hk; refine hi _ _ _ _ _ ?_; rw [binOp_leq]; rfl
  case h_14 => split at h <;> cases h; rename_i hk; subst hk; refine hi _ _ _ _ _ ?_; rw [binOp_gtr]; rfl
  case h_15 => split at h <;> cases h; rename_i hk; subst hk; refine hi _ _ _ _ _ ?_; rw [binOp_geq]; rfl
  case h_16 => cases h; exact hs _ _ _ _ rfl
  case h_17 => cases h; exact hs _ _ _ _ rfl
  case h_18 => cases h; exact hs _ _ _ _ rfl
  case h_19 => cases h; exact hs _ _ _ _ rfl
  case h_20 => cases h; exact hs _ _ _ _ rfl
  case h_21 => cases h; exact hs _ _ _ _ rfl
  case h_22 => cases h
def primB (op : BinOp) (x y : Value) : Option Value :=
  match op, x, y with
  | .eql, .bool a, .bool b => some (.bool (a == b))
  | .neq, .bool a, .bool b => some (.bool (!(a == b)))
  | _, _, _ => none
theorem equalIn_bool {P : Program} {t : TypeId} (ht : P.underlying t = some .bool) (d : Nat) (a b : Bool) (w : World) : (Op.equalIn (d + 1) t (.bool a) (.bool b)).run P w = .ok (a == b) w := by
  simp [Op.equalIn, run_underlying ht]
theorem primB_ok {op : BinOp} {x y z : Value} (h : primB op x y = some z) {P : Program} {t : TypeId} (ht : P.underlying t = some .bool) (xo yo : Operand) (w : World) :
    ((do eqGuard op t xo yo x y; binOp op t x y : Sem Value)).run P w = .ok z w := by
  have he : ∀ a b : Bool, (Op.equal t (.bool a) (.bool b)).run P w = .ok (a == b) w := fun a b => equalIn_bool ht 9999 a b w
  unfold primB at h
  split at h <;> cases h
  · rw [eqGuard_at_bool]
    show (do pure (Value.bool (← Op.equal t _ _)) : Sem Value).run P w = _
    simp only [Sem.run_bind, he, Result.andThen_ok, Sem.run_pure]
  · rw [eqGuard_at_bool]
    show (do pure (Value.bool (!(← Op.equal t _ _))) : Sem Value).run P w = _
    simp only [Sem.run_bind, he, Result.andThen_ok, Sem.run_pure]
def kInt : V → Option Int
  | .c (.int _ n) => some n
  | _ => none
def evFieldAddr (P : Program) (Γ : Env) (t : TypeId) (x : Operand) (f : Nat) : Option (Env × E) :=
  if (ti P t).ok = true ∧ (ti P t).k = .struct then
    match (ti P t).flds[f]? with
    | some (off, fs) =>
      if fs = 0 then none else
      match rd Γ x with
      | .p (.ip l o) => some (Γ, .p (.ip l (o + off)))
      | e => match adr Γ e with
        | some (r, q, i, j) => match (cont Γ r).getP q with
          | some D => match D.row i with
            | some _ => some (Γ, .pa r q i (j + off))
            | none => none
          | none => none
        | none => none
    | none => none
  else none
def evIndexAddr (P : Program) (Γ : Env) (t : TypeId) (x ix : Operand) : Option (Env × E) :=
  match (ti P t).k with
  | .slice e =>
    if (ti P t).ok = true ∧ (ti P e).ok = true then
      match look Γ (rd Γ ix) with
      | .c (.int _ n) =>
        if n < 0 then none else
        match rd Γ x with
        | .p (.sl l) => match l[n.toNat]? with
          | some y => if y.cells.length = (ti P e).size then some (Γ, .p (.ip y.cells 0)) else none
          | none => none
        | .al r q => match (cont Γ r).getP q with
          | some (.uq l) => match l[n.toNat]? with
            | some y => if y.cells.length = (ti P e).size then some (Γ, .pa r q n.toNat 0) else none
            | none => none
          | _ => none
        | _ => none
      | _ => none
    else none
  | _ => none
section
variable {C : Ctx} {S S' : Nat → Nat → Prop} {F : Nat → List Nat} {Γ Γ1 : Env} {a : Act} {w w' : World} {P : Program}
theorem evFieldAddr_ok (h : G C S F Γ a w) {t : TypeId} {x : Operand} {f : Nat} {e : E} (he : evFieldAddr P Γ t x f = some (Γ1, e)) :
    ∃ v, (Instr.fieldAt t (a.eval x) f).run P w = .ok v w ∧ Out C Γ1 e a w v := by
  obtain ⟨ha, hc⟩ := h.rdAli x
  simp only [evFieldAddr] at he
  split at he
  rotate_left
  · cases he
  rename_i ht
  obtain ⟨ht, hk⟩ := ht
  obtain ⟨i, d, z, h1, h2, h3, h4, h5, h6, h7, h8, h9, h10⟩ := ti_ok ht
  rw [h4] at hk
  cases d <;> simp [kOf] at hk
  rename_i fs0
  have hfl := (h10 fs0 rfl).1
  split at he
  rotate_left
  · cases he
  rename_i off fs hf
  split at he
  · cases he
  rename_i hfs
  rw [hfl] at hf
  simp only [List.getElem?_map, Option.map_eq_some_iff, Array.getElem?_toList, Prod.mk.injEq] at hf
  obtain ⟨fd, hfd, rfl, rfl⟩ := hf
  have hplace : ∀ b o : Nat, (fieldPlace ⟨b, o, none⟩ fd).run P w = .ok ⟨b, o + fd.offset, none⟩ w := by
    intro b o
    have hs : (sizeOf fd.type).run P w = .ok (P.cellsOf fd.type) w := by
      unfold Program.cellsOf at hfs ⊢
      cases hi : P.info? fd.type with
      | none => simp [hi] at hfs
      | some i => simp [sizeOf, typeInfo, hi]
    simp only [fieldPlace, Sem.run_bind, hs, Result.andThen_ok, if_neg hfs, Sem.run_ite, Sem.run_pure, Addr.add_lit]
  have hrun : ∀ b o : Nat, (Instr.fieldAt t (.pointer (some ⟨b, o, none⟩)) f).run P w = .ok (.pointer (some ⟨b, o + fd.offset, none⟩)) w := by
    intro b o
    simp only [Instr.fieldAt, Sem.run_bind, run_underlying h2, Result.andThen_ok, hfd, sureAddr_run, hplace, Sem.run_pure]
  split at he
  · rename_i l o hrd
    cases he
    rw [hrd] at hc
    obtain ⟨b, o0, cs, hv, hR, h1', hS⟩ := R.ipCells (by simpa [E.cont] using hc)
    rw [hv]
    refine ⟨_, hrun b (o0 + o), Out.pure h ?_⟩
    rw [Nat.add_assoc]
    exact R.ip b o0 (o + fd.offset) hR h1' hS .nil
  · split at he
    rotate_left
    · cases he
    rename_i r q i j hadr
    split at he
    rotate_left
    · cases he
    rename_i D hD
    split at he
    rotate_left
    · cases he
    rename_i cs hcs
    cases he
    obtain ⟨u, x', hu, hx', hv⟩ := adr_ok h hadr ha hD hcs
    obtain ⟨u0, fc, fr, k1, k2, k3⟩ := h.at hD
    rw [k1] at hu; cases hu
    obtain ⟨b, o, us, f0, f1, f2, g1, g2, g3, g4, g5⟩ := k2.rowAt hcs
    rw [g1] at hx'; cases hx'
    rw [hv]
    refine ⟨_, hrun b (o + j), Out.ali h rfl ?_⟩
    intro D' cs' hD' hcs'
    rw [hD] at hD'; cases hD'
    exact ⟨_, _, k1, g1 (j + fd.offset), by rw [Nat.add_assoc]⟩
theorem R.slRow {l : List V} {v : Value} (h : R S w [.sl l] [v] []) {n : Nat} {y : V} (hy : l[n]? = some y) :
    ∃ b o cap, v = .slice (some ⟨b, o, none⟩) l.length cap ∧ R S w [.ip y.cells 0] [.pointer (some ⟨b, o + n * y.cells.length, none⟩)] [] := by
  have hn : n < l.length := by
    rcases Nat.lt_or_ge n l.length with h' | h'
    · exact h'
    · simp [List.getElem?_eq_none h'] at hy
  cases h with
  | sl0 hh => simp at hn
  | @sl _ cs _ _ _ b o cap es h1 h2 h3 h4 h5 h6 h7 h8 hh =>
    cases hh
    obtain ⟨f0, f1, f2, hf, hR⟩ := R.oneRow h3 h4 hy
    have hff : f1 = [] := by
      have : f0 = [] ∧ f1 = [] ∧ f2 = [] := by simpa [and_assoc] using hf.symm
      exact this.2.1
    rw [hff] at hR
    have hyl := h3 y (List.mem_of_getElem? hy)
    refine ⟨b, o, cap, rfl, ?_⟩
    rw [hyl]
    have hlen := flat_len h3
    have hcl := h4.length
    have hie : (n + 1) * es ≤ l.length * es := Nat.mul_le_mul_right es hn
    rw [Nat.add_mul] at hie
    have hRl := hR.length
    simpa using R.ip (S := S) (w := w) b (o + n * es) 0 hR (fun u hu => h5 u (List.mem_of_mem_drop (List.mem_of_mem_take hu))) (fun i hi => by
      have hi' : i < es := by simp at hi; omega
      have := h6 (n * es + i) (by omega)
      rw [Nat.add_assoc]
      refine ⟨this.1, ?_⟩
      rw [this.2, List.getElem?_take_of_lt hi', List.getElem?_drop]) .nil
theorem lookInt (h : G C S F Γ a w) {x : Operand} {u : Value} (hx : look Γ (rd Γ x) = .c u) : a.eval x = u := by
  have := h.look x
  rw [hx] at this
  cases this; rfl
theorem run_indexAt {t e : TypeId} (ht : P.underlying t = some (.slice e)) (he : (ti P e).ok = true) (b o len cap : Nat) (k : IntKind) (n : Int) (h0 : 0 ≤ n) (h1 : n.toNat < len) (w : World) :
    (Instr.indexAt t (.slice (some ⟨b, o, none⟩) len cap) (.int k n)).run P w = .ok (.pointer (some ⟨b, o + n.toNat * (ti P e).size, none⟩)) w := by
  simp only [Instr.indexAt, asIntOf, Sem.run_bind, Sem.run_pure, Result.andThen_ok, run_underlying ht]
  have hc : 0 ≤ n ∧ n < (len : Int) := by omega
  simp only [hc, and_self, if_true, Sem.run_bind, run_size he, Result.andThen_ok, Sem.run_pure, Addr.add_lit, Sem.run_ite]
theorem evIndexAddr_ok (h : G C S F Γ a w) {t : TypeId} {x ix : Operand} {e : E} (he : evIndexAddr P Γ t x ix = some (Γ1, e)) :
    ∃ v, (Instr.indexAt t (a.eval x) (a.eval ix)).run P w = .ok v w ∧ Out C Γ1 e a w v := by
  obtain ⟨ha, hc⟩ := h.rdAli x
  simp only [evIndexAddr] at he
  split at he
  rotate_left
  · cases he
  rename_i el hk
  split at he
  rotate_left
  · cases he
  rename_i ht
  obtain ⟨ht, hte⟩ := ht
  obtain ⟨i, d, z, h1, h2, h3, h4, _⟩ := ti_ok ht
  rw [h4] at hk
  cases d <;> simp [kOf] at hk
  subst hk
  split at he
  rotate_left
  · cases he
  rename_i kk n hix
  rw [lookInt h hix]
  split at he
  · cases he
  rename_i hn
  split at he
  · rename_i l hrd
    split at he
    rotate_left
    · cases he
    rename_i y hy
    split at he
    rotate_left
    · cases he
    rename_i hyl
    cases he
    rw [hrd] at hc
    obtain ⟨b, o, cap, hv, hR⟩ := R.slRow (by simpa [E.cont] using hc) hy
    have hnl : n.toNat < l.length := by
      rcases Nat.lt_or_ge n.toNat l.length with h' | h'
      · exact h'
      · simp [List.getElem?_eq_none h'] at hy
    rw [hv]
    refine ⟨_, run_indexAt h2 hte b o l.length cap kk n (by omega) hnl w, Out.pure h ?_⟩
    rw [← hyl]; exact hR
  · rename_i r q hrd
    split at he
    rotate_left
    · cases he
    rename_i l hD
    split at he
    rotate_left
    · cases he
    rename_i y hy
    split at he
    rotate_left
    · cases he
    rename_i hyl
    cases he
    rw [hrd] at ha
    have hv := ha _ hD
    obtain ⟨u, fc, fr, k1, k2, k3⟩ := h.at hD
    rw [k1] at hv; cases hv
    have hnl : n.toNat < l.length := by
      rcases Nat.lt_or_ge n.toNat l.length with h' | h'
      · exact h'
      · simp [List.getElem?_eq_none h'] at hy
    have hrow : (V.uq l).row n.toNat = some y.cells := by simp [V.row, hy]
    generalize hev : a.eval x = xv at k1 k2
    cases k2 with
    | uq0 hh => simp at hnl
    | @uq _ cs fq _ _ _ b cap e es cur g1 g2 g3 g4 g5 g6 g7 g8 g9 hh =>
      cases hh
      refine ⟨_, run_indexAt h2 hte b 0 l.length cap kk n (by omega) hnl w, Out.ali h rfl ?_⟩
      intro D' cs' hD' hcs'
      rw [hD] at hD'; cases hD'
      refine ⟨_, _, k1, ?_, rfl⟩
      have hyes := g2 y (List.mem_of_getElem? hy)
      cases l with
      | nil => simp at hnl
      | cons y0 l => simp [addrOf, g2 y0 (by simp), ← hyl, hyes]
  · cases he
end
end Go.Am
end
section
namespace Go.Am
open Go.RowKit
def isConst : Operand → Bool
  | .const _ => true
  | _ => false
def primNil (P : Program) (t : TypeId) (x y : Operand) (X Y : V) : Option Bool :=
  match (ti P t).k with
  | .iface => match X, Y with
    | .c .nilIface, .c .nilIface => if isConst x || isConst y then some true else none
    | .c (.iface _ _), .c .nilIface => some false
    | .c .nilIface, .c (.iface _ _) => some false
    | _, _ => none
  | .pointer => match X, Y with
    | .c (.pointer none), .c (.pointer none) => some true
    | .ip _ _, .c (.pointer none) => some false
    | .c (.pointer none), .ip _ _ => some false
    | _, _ => none
  | .slice _ => match X, y with
    | .sl (_ :: _), .const (.slice none 0 0) => some false
    | .c (.slice a _ _), .const (.slice none 0 0) => some a.isNone
    | _, _ => none
  | _ => none
def neqF (op : BinOp) (b : Bool) : Bool := match op with | .neq => !b | _ => b
def eqFld (P : Program) (i : Nat) (f : Field) : Option K :=
  if f.offset = i ∧ f.name ≠ "_" then
    match P.underlying f.type with
    | some (.int k) => some (.int k)
    | some .bool => some .bool
    | some .string => some .string
    | _ => none
  else none
def eqFlds (P : Program) : Nat → List Field → Option (List K)
  | _, [] => some []
  | i, f :: fs => match eqFld P i f, eqFlds P (i + 1) fs with
    | some k, some ks => some (k :: ks)
    | _, _ => none
def eqT (P : Program) (t : TypeId) : Option (List K) :=
  match P.underlying t with
  | some (.struct fs) => if P.stoodInHeld t = false ∧ P.eqGuardType P.depth t = false then eqFlds P 0 fs.toList else none
  | _ => none
def eqC : K → V → V → Option Bool
  | .int _, .c (.int k a), .c (.int k' b) => if k = k' then some (a == b) else none
  | .bool, .c (.bool a), .c (.bool b) => some (a == b)
  | .string, .c (.string a), .c (.string b) => some (a.toList == b.toList)
  | _, _, _ => none
def eqCs : List K → List V → List V → Option Bool
  | [], [], [] => some true
  | k :: ks, x :: xs, y :: ys => match eqC k x y, eqCs ks xs ys with
    | some a, some b => some (a && b)
    | _, _ => none
  | _, _, _ => none
def primEq (P : Program) (t : TypeId) : V → V → Option Bool
  | .agg l, .agg r => match eqT P t with
    | some ks => eqCs ks l r
    | none => none
  | _, _ => none
def evBin (P : Program) (Γ : Env) (op : BinOp) (t : TypeId) (x y : Operand) : Option (Env × E) :=
  match look Γ (rd Γ x), look Γ (rd Γ y) with
  | .c u, .c v => match prim op u v with
    | some z => some (Γ, .p (.c z))
    | none =>
      if (ti P t).ok = true ∧ (ti P t).k = .bool then (match primB op u v with | some z => some (Γ, .p (.c z)) | none => none)
      else if (ti P t).ok = true then
        match op, primNil P t x y (.c u) (.c v) with
        | .eql, some b => some (Γ, .p (.c (.bool b)))
        | .neq, some b => some (Γ, .p (.c (.bool !b)))
        | _, _ => none
      else none
  | X, Y => if (ti P t).ok = true then
      match op, primNil P t x y X Y with
      | .eql, some b => some (Γ, .p (.c (.bool b)))
      | .neq, some b => some (Γ, .p (.c (.bool !b)))
      | .eql, none => match primEq P t X Y with | some b => some (Γ, .p (.c (.bool b))) | none => none
      | .neq, none => match primEq P t X Y with | some b => some (Γ, .p (.c (.bool !b))) | none => none
      | _, _ => none
    else none
theorem equalIn_nilnil {P : Program} {t : TypeId} {ms} (ht : P.underlying t = some (.interface ms)) (d : Nat) (w : World) : (Op.equalIn (d + 1) t .nilIface .nilIface).run P w = .ok true w := by
  simp [Op.equalIn, run_underlying ht]
theorem equalIn_heldnil {P : Program} {t : TypeId} {ms} (ht : P.underlying t = some (.interface ms)) (d : Nat) (u : TypeId) (v : Value) (w : World) : (Op.equalIn (d + 1) t (.iface u v) .nilIface).run P w = .ok false w := by
  simp [Op.equalIn, run_underlying ht]
theorem equalIn_nilheld {P : Program} {t : TypeId} {ms} (ht : P.underlying t = some (.interface ms)) (d : Nat) (u : TypeId) (v : Value) (w : World) : (Op.equalIn (d + 1) t .nilIface (.iface u v)).run P w = .ok false w := by
  simp [Op.equalIn, run_underlying ht]
theorem equalIn_pnil {P : Program} {t e : TypeId} (ht : P.underlying t = some (.pointer e)) (d : Nat) (w : World) : (Op.equalIn (d + 1) t (.pointer none) (.pointer none)).run P w = .ok true w := by
  simp [Op.equalIn, run_underlying ht]
theorem equalIn_psome {P : Program} {t e : TypeId} (ht : P.underlying t = some (.pointer e)) (d : Nat) (x : Addr) (w : World) : (Op.equalIn (d + 1) t (.pointer (some x)) (.pointer none)).run P w = .ok false w := by
  simp [Op.equalIn, run_underlying ht]
theorem equalIn_somep {P : Program} {t e : TypeId} (ht : P.underlying t = some (.pointer e)) (d : Nat) (x : Addr) (w : World) : (Op.equalIn (d + 1) t (.pointer none) (.pointer (some x))).run P w = .ok false w := by
  simp [Op.equalIn, run_underlying ht]
theorem equalIn_slnil {P : Program} {t e : TypeId} (ht : P.underlying t = some (.slice e)) (d : Nat) (x : Addr) (n c m k : Nat) (w : World) : (Op.equalIn (d + 1) t (.slice (some x) n c) (.slice none m k)).run P w = .ok false w := by
  simp [Op.equalIn, run_underlying ht]
theorem equalIn_slnn {P : Program} {t e : TypeId} (ht : P.underlying t = some (.slice e)) (d : Nat) (n c m k : Nat) (w : World) : (Op.equalIn (d + 1) t (.slice none n c) (.slice none m k)).run P w = .ok true w := by
  simp [Op.equalIn, run_underlying ht]
section
variable {C : Ctx} {S S' : Nat → Nat → Prop} {F : Nat → List Nat} {Γ Γ1 : Env} {a : Act} {w w' : World} {P : Program}
theorem run_eq_of {op : BinOp} {t : TypeId} {xo yo : Operand} {u v : Value} {b : Bool} (hg : eqGuard op t xo yo u v = pure ()) (hE : (Op.equal t u v).run P w = .ok b w)
    (hop : op = .eql ∨ op = .neq) (hb : binOp .eql t u v = (do pure (.bool (← Op.equal t u v))) ∧ binOp .neq t u v = (do pure (.bool (!(← Op.equal t u v))))) :
    ((do eqGuard op t xo yo u v; binOp op t u v : Sem Value)).run P w = .ok (.bool (neqF op b)) w := by
  rw [hg]
  rcases hop with rfl | rfl
  · simp only [pure_bind, hb.1, Sem.run_bind, hE, Result.andThen_ok, Sem.run_pure, neqF]
  · simp only [pure_bind, hb.2, Sem.run_bind, hE, Result.andThen_ok, Sem.run_pure, neqF]
theorem primNil_ok {t : TypeId} (ht : (ti P t).ok = true) {x y : Operand} {X Y : V} {b : Bool} (h : primNil P t x y X Y = some b) {T : Nat → Nat → Prop} {u v : Value} (hX : R T w [X] [u] []) (hY : R T w [Y] [v] [])
    (hxe : ∀ z, x = .const z → u = z) (hye : ∀ z, y = .const z → v = z) {op : BinOp} (hop : op = .eql ∨ op = .neq) :
    ((do eqGuard op t x y u v; binOp op t u v : Sem Value)).run P w = .ok (.bool (neqF op b)) w := by
  obtain ⟨i, d, z, h1, h2, h3, h4, _⟩ := ti_ok ht
  unfold primNil at h
  split at h
  · rename_i hk
    rw [h4] at hk
    cases d <;> simp [kOf] at hk
    rename_i ms
    split at h
    · cases hX with
      | c hx => cases hx; cases hY with
        | c hy =>
          cases hy
          split at h
          · rename_i hc
            cases h
            refine run_eq_of ?_ (equalIn_nilnil h2 9999 w) hop ⟨rfl, rfl⟩
            rcases Bool.or_eq_true_iff.1 hc with hc | hc
            · cases x <;> simp [isConst] at hc; exact eqGuard_nil_constL op t _ _
            · cases y <;> simp [isConst] at hc; exact eqGuard_nil_constR op t _ _
          · cases h
    · cases hX with
      | c hx => cases hx; cases hY with
        | c hy => cases hy; cases h; exact run_eq_of (eqGuard_at_iface _ _ _ _ _ _ _) (equalIn_heldnil h2 9999 _ _ w) hop ⟨rfl, rfl⟩
    · cases hX with
      | c hx => cases hx; cases hY with
        | c hy => cases hy; cases h; exact run_eq_of (eqGuard_nil_iface _ _ _ _ _ _) (equalIn_nilheld h2 9999 _ _ w) hop ⟨rfl, rfl⟩
    · cases h
  · rename_i hk
    rw [h4] at hk
    cases d <;> simp [kOf] at hk
    split at h
    · cases hX with
      | c hx => cases hx; cases hY with
        | c hy => cases hy; cases h; exact run_eq_of (eqGuard_at_pointer _ _ _ _ _ _) (equalIn_pnil h2 9999 w) hop ⟨rfl, rfl⟩
    · obtain ⟨b', o0, cs, hv, _⟩ := R.ipCells hX
      subst hv
      cases hY with
      | c hy => cases hy; cases h; exact run_eq_of (eqGuard_at_pointer _ _ _ _ _ _) (equalIn_psome h2 9999 _ w) hop ⟨rfl, rfl⟩
    · obtain ⟨b', o0, cs, hv, _⟩ := R.ipCells hY
      subst hv
      cases hX with
      | c hy => cases hy; cases h; exact run_eq_of (eqGuard_at_pointer _ _ _ _ _ _) (equalIn_somep h2 9999 _ w) hop ⟨rfl, rfl⟩
    · cases h
  · rename_i hk
    rw [h4] at hk
    cases d <;> simp [kOf] at hk
    split at h
    · cases h
      have := hye _ rfl
      subst this
      cases hX with
      | sl b o cap es _ _ _ _ _ _ _ _ hh =>
        cases hh
        exact run_eq_of (eqGuard_at_slice _ _ _ _ _ _ _ _) (equalIn_slnil h2 9999 _ _ _ _ _ w) hop ⟨rfl, rfl⟩
    · cases h
      have := hye _ rfl
      subst this
      cases hX with
      | c hh =>
        cases hh
        rename_i ad _ _
        cases ad with
        | none => exact run_eq_of (eqGuard_at_slice _ _ _ _ _ _ _ _) (equalIn_slnn h2 9999 _ _ _ _ w) hop ⟨rfl, rfl⟩
        | some x => exact run_eq_of (eqGuard_at_slice _ _ _ _ _ _ _ _) (equalIn_slnil h2 9999 _ _ _ _ _ w) hop ⟨rfl, rfl⟩
    · cases h
  · cases h
theorem R.cinv {T : Nat → Nat → Prop} {u v : Value} (h : R T w [.c u] [v] []) : v = u := by
  cases h with
  | c h => rfl
theorem eqC_ok {T : Nat → Nat → Prop} {f : Field} {i : Nat} {k : K} (hf : eqFld P i f = some k) {X Y : V} {u v : Value} {b : Bool} (h : eqC k X Y = some b) (hX : R T w [X] [u] []) (hY : R T w [Y] [v] []) (d : Nat) :
    f.offset = i ∧ f.name ≠ "_" ∧ (isAgg f.type).run P w = .ok false w ∧ (Op.equalIn (d + 1) f.type u v).run P w = .ok b w := by
  unfold eqFld at hf
  split at hf
  rotate_left
  · cases hf
  rename_i h0
  refine ⟨h0.1, h0.2, ?_⟩
  split at hf
  · rename_i k' hk
    cases hf
    refine ⟨by simp [isAgg, run_underlying hk], ?_⟩
    unfold eqC at h
    split at h
    · rename_i heq; cases heq
      obtain rfl := hX.cinv; obtain rfl := hY.cinv
      split at h
      · rename_i he; subst he; cases h; exact run_equalIn_int w d f.type _ _ _ _ hk
      · cases h
    · rename_i heq; cases heq
    · rename_i heq; cases heq
    · cases h
  · rename_i hk
    cases hf
    refine ⟨by simp [isAgg, run_underlying hk], ?_⟩
    unfold eqC at h
    split at h
    · rename_i heq; cases heq
    · obtain rfl := hX.cinv; obtain rfl := hY.cinv
      cases h
      exact equalIn_bool hk d _ _ w
    · rename_i heq; cases heq
    · cases h
  · rename_i hk
    cases hf
    refine ⟨by simp [isAgg, run_underlying hk], ?_⟩
    unfold eqC at h
    split at h
    · rename_i heq; cases heq
    · rename_i heq; cases heq
    · obtain rfl := hX.cinv; obtain rfl := hY.cinv
      cases h
      exact run_equalIn_string w d f.type _ _ hk
    · cases h
  · cases hf
theorem eqCs_ok {T : Nat → Nat → Prop} {us vs : Array Value} (d : Nat) : ∀ {fs : List Field} {i : Nat} {ks : List K} {xs ys : List V} {b : Bool}, eqFlds P i fs = some ks → eqCs ks xs ys = some b →
    R T w xs (us.toList.drop i) [] → R T w ys (vs.toList.drop i) [] → (Op.eqFields (d + 1) us vs fs).run P w = .ok b w := by
  intro fs
  induction fs with
  | nil =>
    intro i ks xs ys b hf h hX hY
    simp only [eqFlds] at hf; cases hf
    unfold eqCs at h
    split at h
    · cases h; simp [Op.eqFields]
    · rename_i heq; cases heq
    · cases h
  | cons f fs ih =>
    intro i ks xs ys b hf h hX hY
    simp only [eqFlds] at hf
    split at hf
    rotate_left
    · cases hf
    rename_i k ks' hk hks
    cases hf
    unfold eqCs at h
    split at h
    · simp_all
    · rename_i k0 ks0 x xs y ys heq
      cases heq
      split at h
      rotate_left
      · cases h
      rename_i a b' ha hb
      cases h
      obtain ⟨u, us', f1, f2, e1, e2, m1, m2⟩ := R.uncons hX
      obtain ⟨v, vs', g1, g2, e3, e4, n1, n2⟩ := R.uncons hY
      simp at e2 e4
      obtain ⟨rfl, rfl⟩ := e2
      obtain ⟨rfl, rfl⟩ := e4
      obtain ⟨q1, q2, q3, q4⟩ := eqC_ok hk ha m1 n1 d
      have hu : us[i]? = some u := by
        rw [← Array.getElem?_toList]
        have := congrArg (·[0]?) e1
        simpa [List.getElem?_drop] using this
      have hv : vs[i]? = some v := by
        rw [← Array.getElem?_toList]
        have := congrArg (·[0]?) e3
        simpa [List.getElem?_drop] using this
      have d1 : us.toList.drop (i + 1) = us' := by rw [← List.drop_drop, e1]; simp
      have d2 : vs.toList.drop (i + 1) = vs' := by rw [← List.drop_drop, e3]; simp
      have hp : ∀ (cs : Array Value) (z : Value), cs[i]? = some z → (part f.type cs f.offset).run P w = .ok z w := by
        intro cs z hz
        simp [part, q3, q1, hz]
      simp only [Op.eqFields, if_pos q2, Sem.run_bind, hp us u hu, hp vs v hv, Result.andThen_ok, q4]
      have := ih hks hb (by rw [d1]; exact m2) (by rw [d2]; exact n2)
      cases a
      · simp
      · simp [this]
    · cases h
theorem primEq_ok {T : Nat → Nat → Prop} {t : TypeId} {x y : Operand} {X Y : V} {b : Bool} (h : primEq P t X Y = some b) {u v : Value} (hX : R T w [X] [u] []) (hY : R T w [Y] [v] []) {op : BinOp} (hop : op = .eql ∨ op = .neq) :
    ((do eqGuard op t x y u v; binOp op t u v : Sem Value)).run P w = .ok (.bool (neqF op b)) w := by
  unfold primEq at h
  split at h
  rotate_left
  · cases h
  split at h
  rotate_left
  · cases h
  rename_i l r _ ks hks
  unfold eqT at hks
  split at hks
  rotate_left
  · cases hks
  rename_i fs ht
  split at hks
  rotate_left
  · cases hks
  rename_i hc
  have hA : ∀ {l : List V} {u : Value}, R T w [.agg l] [u] [] → ∃ us : Array Value, u = .agg us ∧ R T w l us.toList [] := by
    intro l u hu
    obtain ⟨f, hf, hu⟩ : ∃ f, f = [] ∧ R T w [.agg l] [u] f := ⟨_, rfl, hu⟩
    cases hu with
    | agg g1 g2 g3 =>
      cases g3
      simp only [List.append_nil] at hf
      rw [hf] at g1
      exact ⟨_, rfl, by simpa using g1⟩
  obtain ⟨us, rfl, hx⟩ := hA hX
  obtain ⟨vs, rfl, hy⟩ := hA hY
  have hfo : P.fieldsOf t = fs := by simp [Program.fieldsOf, ht]
  have hE : (Op.equalIn 10000 t (.agg us) (.agg vs)).run P w = .ok b w := by
    rw [run_equalIn_struct w 9999 t us vs (by rw [hfo]; exact ht) hc.1, hfo]
    exact eqCs_ok 9998 hks h (by simpa using hx) (by simpa using hy)
  have hG := run_eqGuard_agg w op t x y us vs hc.2
  rcases hop with rfl | rfl
  · simp only [Sem.run_bind, hG, Result.andThen_ok, run_eql_struct, hE, neqF]
  · simp only [Sem.run_bind, hG, Result.andThen_ok, run_neq_struct, hE, neqF]
theorem evBin_ok (h : G C S F Γ a w) {op : BinOp} {t : TypeId} {x y : Operand} {e : E} (he : evBin P Γ op t x y = some (Γ1, e)) :
    ∃ v, ((do eqGuard op t x y (a.eval x) (a.eval y); binOp op t (a.eval x) (a.eval y) : Sem Value)).run P w = .ok v w ∧ Out C Γ1 e a w v := by
  have hX := h.look x
  have hY := h.look y
  have hxe : ∀ z, x = .const z → a.eval x = z := fun z e => by subst e; rfl
  have hye : ∀ z, y = .const z → a.eval y = z := fun z e => by subst e; rfl
  simp only [evBin] at he
  split at he
  · rename_i u v hu hv
    have eu := lookInt h hu
    have ev := lookInt h hv
    rw [hu] at hX; rw [hv] at hY
    split at he
    · rename_i z hz
      cases he
      rw [eu, ev]
      exact ⟨z, prim_ok hz P t x y w, Out.pure h (.c .nil)⟩
    · split at he
      · rename_i ht
        split at he
        · rename_i z hz
          cases he
          obtain ⟨i, d, z', h1, h2, h3, h4, _⟩ := ti_ok ht.1
          rw [h4] at ht
          have hd : d = .bool := by cases d <;> simp [kOf] at ht; rfl
          subst hd
          rw [eu, ev]
          exact ⟨z, primB_ok hz h2 x y w, Out.pure h (.c .nil)⟩
        · cases he
      · split at he
        · rename_i ht
          split at he
          · cases he
            exact ⟨_, primNil_ok (op := .eql) ht (by assumption) hX hY hxe hye (.inl rfl), Out.pure h (.c .nil)⟩
          · cases he
            exact ⟨_, primNil_ok (op := .neq) ht (by assumption) hX hY hxe hye (.inr rfl), Out.pure h (.c .nil)⟩
          · cases he
        · cases he
  · split at he
    · rename_i ht
      split at he
      · rename_i b hb
        cases he
        exact ⟨_, primNil_ok (op := .eql) ht hb hX hY hxe hye (.inl rfl), Out.pure h (.c .nil)⟩
      · rename_i b hb
        cases he
        exact ⟨_, primNil_ok (op := .neq) ht hb hX hY hxe hye (.inr rfl), Out.pure h (.c .nil)⟩
      · split at he
        · rename_i hb
          cases he
          exact ⟨_, primEq_ok (op := .eql) hb hX hY (.inl rfl), Out.pure h (.c .nil)⟩
        · cases he
      · split at he
        · rename_i hb
          cases he
          exact ⟨_, primEq_ok (op := .neq) hb hX hY (.inr rfl), Out.pure h (.c .nil)⟩
        · cases he
      · cases he
    · cases he
def zeroV (l : List Value) : List V := l.map constV
theorem R.zero (l : List Value) : R S w (zeroV l) l [] := by
  induction l with
  | nil => exact .nil
  | cons v l ih =>
    refine R.cons (f1 := []) ?_ ih
    simp only [constV]
    split
    · exact .uq0 .nil
    · exact .c .nil
theorem evAlloc_ok (h : G C S F Γ a w) {t : TypeId} (ht : (ti P t).ok = true) : ∃ v w', (Instr.alloc t true (.tuple #[])).run P w = .ok v w' ∧ Out C Γ (.p (.own (zeroV (ti P t).zero))) a w' v ∧ ∃ ob, w' = w.alloc ob := by
  obtain ⟨i, d, z, h1, h2, h3, h4, h5, h6, h7, h8, _⟩ := ti_ok ht
  have hz : (zeroValue t).run P w = .ok z w := by simp [zeroValue, typeInfo, h1, h3]
  rw [h7]
  refine ⟨_, _, ?_, Out.new h (R.zero z.cells.toList) h8 t, _, rfl⟩
  simp only [Instr.alloc, Sem.run_bind, hz, Result.andThen_ok, newVar, newRow, run_newObj, Sem.run_pure]
  rfl
def cellsB : V → Bool
  | .agg _ => true
  | x => leafB x
theorem R.toCells {y : V} {v : Value} (h : R S w [y] [v] []) (hy : cellsB y = true) : R S w y.cells v.cells.toList [] ∧ ∀ u ∈ v.cells.toList, u.oneCell' = true := by
  by_cases hl : leafB y = true
  · have h1 := h.leafV hl
    have e1 : v.cells = #[v] := by cases v <;> simp_all [Value.cells, Value.oneCell']
    rw [e1, h.leaf h1]
    refine ⟨h, ?_⟩
    intro u hu; simp at hu; subst hu; exact h1
  · cases y <;> simp_all [cellsB, leafB]
    obtain ⟨f, hf, h⟩ : ∃ f, f = [] ∧ R S w [_] [v] f := ⟨_, rfl, h⟩
    cases h with
    | agg g1 g2 g3 =>
      cases g3
      simp only [List.append_nil] at hf
      rw [hf] at g1
      exact ⟨by simpa [V.cells, Value.cells] using g1, by simpa [Value.cells] using g2⟩
theorem R.toCellsO {y : V} {v : Value} {fp : List Nat} (h : R S w [y] [v] fp) (hy : cellsB y = true) : R S w y.cells v.cells.toList fp ∧ ∀ u ∈ v.cells.toList, u.oneCell' = true := by
  by_cases hl : leafB y = true
  · have h1 := h.leafV hl
    have e1 : v.cells = #[v] := by cases v <;> simp_all [Value.cells, Value.oneCell']
    rw [e1, h.leaf h1]
    refine ⟨h, ?_⟩
    intro u hu; simp at hu; subst hu; exact h1
  · cases y <;> simp_all [cellsB, leafB]
    cases h with
    | agg g1 g2 g3 =>
      cases g3
      exact ⟨by simpa [V.cells, Value.cells] using g1, by simpa [Value.cells] using g2⟩
theorem Out.newO (h : G C S F Γ a w) {l : List V} {cs : List Value} {fy : List Nat} (hR : R S w l cs fy) (hn : fy.Nodup) (hd : ∀ s b, b ∈ fy → b ∉ F s) (hS : ∀ b o, b ∈ fy → ¬ S b o) (hm : ∀ b, b ∈ fy → b < w.heap.size ∧ (b ∈ C.fp0 ∨ C.w0.heap.size ≤ b)) (h1 : ∀ u ∈ cs, u.oneCell' = true) (e : TypeId) :
    Out C Γ (.p (.own l)) a (w.alloc (.cells cs.toArray e)) (.pointer (some ⟨w.heap.size, 0, none⟩)) := by
  have hG := h.alloc (.cells cs.toArray e)
  refine ⟨S, F, w.heap.size :: fy, hG, ?_, ?_, ?_, ?_, ?_, trivial⟩
  · have hR' := hR.mono (S' := S) (w' := w.alloc (.cells cs.toArray e)) (fun _ _ h => h) (fun b k hb => cell_alloc_lt w _ b k (h.mem.lt b k hb)) (fun b hb => heap_alloc_old w _ b (hm b hb).1)
    simpa [E.cont] using R.own (xs := []) (vs := []) (fp := []) w.heap.size e hR' h1 (by show (w.heap.push _)[w.heap.size]? = _; simp) .nil
  · rw [List.nodup_cons]; exact ⟨fun hb => by have := (hm _ hb).1; omega, hn⟩
  · intro s b hb hb'
    rcases List.mem_cons.1 hb with rfl | hb
    · have := (h.mine s _ hb').1; omega
    · exact hd s b hb hb'
  · intro b o hb hs
    rcases List.mem_cons.1 hb with rfl | hb
    · have := h.mem.lt _ _ hs; omega
    · exact hS b o hb hs
  · intro b hb
    rcases List.mem_cons.1 hb with rfl | hb
    · exact ⟨by simp, .inr h.mem.size⟩
    · have := hm b hb; exact ⟨by simp; omega, this.2⟩
def evBox (Γ : Env) (x : Operand) : Option (Env × E) :=
  match tkf Γ (rd Γ x) with
  | some (Γ1, y) => if cellsB y then some (Γ1, .p (.own y.cells)) else none
  | none => none
theorem evBox_ok (h : G C S F Γ a w) {t : TypeId} {x : Operand} {e : E} (he : evBox Γ x = some (Γ1, e)) : ∃ v w', (Instr.box t (a.eval x)).run P w = .ok v w' ∧ Out C Γ1 e a w' v := by
  obtain ⟨ha, hc⟩ := h.rdAli x
  simp only [evBox] at he
  split at he
  · rename_i Γ2 y hf
    split at he
    · rename_i hy
      cases he
      obtain ⟨S', F', fy, g1, g2, g3, g4, g5, g6⟩ := tkf_ok h hf ha hc
      obtain ⟨h1, h2⟩ := g2.toCellsO hy
      refine ⟨_, _, ?_, Out.newO g1 h1 g3 g4 g5 g6 h2 t⟩
      simp only [Instr.box, newVar, newRow, Sem.run_bind, run_newObj, Result.andThen_ok, Sem.run_pure]
      rfl
    · cases he
  · cases he
def evExtract (Γ : Env) (x : Operand) (i : Nat) : Option (Env × E) :=
  match rd Γ x with
  | .p (.tup l) => match l[i]? with
    | some y => some (Γ, .p y)
    | none => none
  | .al r [] => match cont Γ r with
    | .tup l => match l[i]? with
      | some y => if pureB y then some (Γ, .p y) else some (upd Γ r [] (.tup (l.set i .any)), .p y)
      | none => none
    | _ => none
  | _ => none
theorem run_extract (vs : Array Value) (i : Nat) (v : Value) (h : vs[i]? = some v) (w : World) : (Instr.extract (.tuple vs) i).run P w = .ok v w := by
  simp [Instr.extract, h]
theorem evExtract_ok (h : G C S F Γ a w) {x : Operand} {i : Nat} {e : E} (he : evExtract Γ x i = some (Γ1, e)) : ∃ v, (Instr.extract (a.eval x) i).run P w = .ok v w ∧ Out C Γ1 e a w v := by
  obtain ⟨ha, hc⟩ := h.rdAli x
  simp only [evExtract] at he
  split at he
  · rename_i l hrd
    split at he
    · rename_i y hy
      cases he
      rw [hrd] at hc
      simp only [E.cont] at hc
      obtain ⟨f, hf, hc⟩ : ∃ f, f = [] ∧ R S w [.tup l] [a.eval x] f := ⟨_, rfl, hc⟩
      generalize hev : a.eval x = xv at hc ha
      cases hc with
      | tup g1 g3 =>
        cases g3
        simp only [List.append_nil] at hf
        rw [hf] at g1
        obtain ⟨v, hv, hR⟩ := g1.one hy
        exact ⟨v, run_extract _ i v (by simpa using hv) w, Out.pure h hR⟩
    · cases he
  · rename_i r hrd
    split at he
    · rename_i l hl
      split at he
      · rename_i y hy
        have hD : (cont Γ r).getP [] = some (.tup l) := by simp [V.getP, hl]
        rw [hrd] at ha
        have hv := ha _ hD
        obtain ⟨u, fc, fr, k1, k2, k3, k4, k5⟩ := h.upd (D' := .tup (l.set i .any)) hD (h.rlt hD (by simp))
        rw [k1] at hv; cases hv
        generalize hev : a.eval x = xv at k1 k2 k5
        cases k2 with
        | @tup _ cs fq _ _ _ g1 g3 =>
          cases g3
          obtain ⟨v, f0, f1, f2, hvi, hfe, hR1, hA, hB⟩ := g1.at i y hy
          have hrun := run_extract (P := P) cs.toArray i v (by simpa using hvi) w
          split at he
          · rename_i hp
            cases he
            rw [hR1.pure1 hp] at hR1
            exact ⟨v, hrun, Out.pure h hR1⟩
          · cases he
            have hnd := List.nodup_append.1 (k3.nodup_iff.1 (h.nodup r))
            have hnq : fq.Nodup := by simpa using hnd.1
            have hin : ∀ b, b ∈ fr → b ∈ F r := fun b hb => k3.mem_iff.2 (List.mem_append_right _ hb)
            have hin' : ∀ b, b ∈ fq → b ∈ F r := fun b hb => k3.mem_iff.2 (List.mem_append_left _ (by simpa using hb))
            rw [hfe, List.append_assoc] at hnq
            have n1 := List.nodup_append.1 hnq
            have n2 := List.nodup_append.1 n1.2.1
            have hil : i < l.length := by
              rcases Nat.lt_or_ge i l.length with h' | h'
              · exact h'
              · simp [List.getElem?_eq_none h'] at hy
            have hlc := g1.length
            have e1 : l.take i ++ .any :: l.drop (i + 1) = l.set i .any := (List.set_eq_take_append_cons_drop.trans (if_pos hil)).symm
            have e2 : cs.take i ++ v :: cs.drop (i + 1) = cs := by
              have : cs[i]? = some v := hvi
              have hic : i < cs.length := by omega
              have e3 : cs[i] = v := by simpa [List.getElem?_eq_getElem hic] using this
              rw [← e3, ← List.drop_eq_getElem_cons hic, List.take_append_drop]
            have hnew := R.append hA (R.cons (R.any (S := S) (w := w) (v := v) .nil) hB)
            rw [e1, e2] at hnew
            have hRt : R S w [.tup (l.set i .any)] [.tuple cs.toArray] (f0 ++ f2) := by simpa using R.tup hnew .nil
            have hmem : ∀ b, b ∈ f0 ++ f2 → b ∈ fq := by
              intro b hb; rw [hfe]; rcases List.mem_append.1 hb with hb | hb <;> simp [hb]
            obtain ⟨fp', hp', hG⟩ := k5 S w (f0 ++ f2) h.mem (fun _ _ h => h) (fun _ _ _ => rfl) (fun _ _ => rfl) (fun _ _ _ _ => rfl) (Nat.le_refl _) hRt
              (by rw [List.nodup_append]; exact ⟨n1.1, n2.2.1, fun x hx y hy => n1.2.2 x hx y (List.mem_append_right _ hy)⟩)
              (fun b hb hb' => hnd.2.2 b (by simpa using hmem b hb) b hb' rfl) (fun s b hs hb => h.disj r s b (fun e => hs e.symm) (hin' b (hmem b hb)))
              (fun b o hb => h.apart r b o (hin' b (hmem b hb))) (fun b o hb => h.apart r b o (hin b hb)) (fun s b o _ hb => h.apart s b o hb) (fun b hb => h.mine r b (hin' b (hmem b hb)))
              (by simp [V.row])
            have hf1 : ∀ b, b ∈ f1 → b ∈ fq := by intro b hb; rw [hfe]; simp [hb]
            refine ⟨v, hrun, S, _, f1, hG, hR1, n2.1, ?_, fun b o hb => h.apart r b o (hin' b (hf1 b hb)), fun b hb => h.mine r b (hin' b (hf1 b hb)), trivial⟩
            intro s b hb hb'
            split at hb'
            · rcases List.mem_append.1 (hp'.mem_iff.1 hb') with hb' | hb'
              · rcases List.mem_append.1 hb' with hb' | hb'
                · exact n1.2.2 b hb' b (List.mem_append_left _ hb) rfl
                · exact n2.2.2 b hb b hb' rfl
              · exact hnd.2.2 b (by simpa using hf1 b hb) b hb' rfl
            · rename_i hs
              exact h.disj r s b (fun e => hs e.symm) (hin' b (hf1 b hb)) hb'
      · cases he
    · cases he
  · cases he
end
end Go.Am
end
section
namespace Go.Am
open Go.RowKit
mutual
theorem pv_pure (x : V) (h : pureB x = true) : pv x = x := by
  cases x with
  | c v | any | sl l | ip l o | ti l => rfl
  | agg l | tup l | clo f l => simp only [pv]; rw [pvL_pure l (by simpa [pureB] using h)]
  | uq l | own l | mp es => simp [pureB] at h
theorem pvL_pure (l : List V) (h : pureL l = true) : pvL l = l := by
  cases l with
  | nil => rfl
  | cons x l => simp only [pureL, Bool.and_eq_true] at h; simp only [pvL]; rw [pv_pure x h.1, pvL_pure l h.2]
end
structure Far (fy : List Nat) (w w' : World) : Prop where
  os : w'.os = w.os
  tape : w'.tape = w.tape
  output : w'.output = w.output
  size : w.heap.size ≤ w'.heap.size
  block : ∀ k, k < w.heap.size → k ∉ fy → w'.heap[k]? = w.heap[k]?
theorem Far.refl (fy : List Nat) (w : World) : Far fy w w := ⟨rfl, rfl, rfl, Nat.le_refl _, fun _ _ _ => rfl⟩
section
variable {S : Nat → Nat → Prop} {w : World} {P : Program}
theorem run_append_zero {t ty e : TypeId} {i : TypeInfo} (ht : P.underlying t = some (.slice e)) (hi : P.info? e = some i) (base : Option Addr) (n cap : Nat) (hn : n ≤ cap) (b : Option Addr) (c : Nat) (w : World) :
    (Builtin.append_ #[t, t] ty #[.slice base n cap, .slice b 0 c]).run P w = .ok (.slice base n cap) w := by
  cases b <;> cases base <;> simp [Builtin.append_, run_underlying ht, sizeOf, typeInfo, hi, Builtin.lenOf, Builtin.firstCells, hn, loadCells, loadCellsFrom, storeCells]
theorem zeroCells_size (z : Array Value) (n : Nat) : (Builtin.zeroCells z n).size = n * z.size := by simp [Builtin.zeroCells]
theorem run_append_room' {t ty e : TypeId} {i : TypeInfo} (ht : P.underlying t = some (.slice e)) (hi : P.info? e = some i) (g sLen sCap : Nat) (cur : Array Value) (e' : TypeId) (hg : w.heap[g]? = some (.cells cur e' (0, 0)))
    (x : Addr) (m c : Nat) (news : List Value) (hl : news.length = m * i.size) (hnews : ∀ j u, news[j]? = some u → w.cell? (x.add j) = some u) (h1 : ∀ u ∈ news, u.oneCell' = true)
    (hroom : sLen + m ≤ sCap) (hfit : sLen * i.size + news.length ≤ cur.size) :
    (Builtin.append_ #[t, t] ty #[.slice (some ⟨g, 0, none⟩) sLen sCap, .slice (some x) m c]).run P w =
      .ok (.slice (some ⟨g, 0, none⟩) (sLen + m) sCap) (w.setRow g (cur.toList.take (sLen * i.size) ++ news ++ cur.toList.drop (sLen * i.size + news.length)).toArray) := by
  have h2 := run_firstCells_some (P := P) w i.size m x m c news hl hnews
  have h3 := run_storeCells_at P g (sLen * i.size) e' news 0 cur w hg (by simpa using hfit) h1
  rw [Nat.add_zero] at h3
  simp [Builtin.append_, run_underlying ht, sizeOf, typeInfo, hi, Builtin.lenOf, hroom, h2, Addr.add_lit, h3]
theorem R.app {t ty e : TypeId} {i : TypeInfo} {z : Value} (ht : P.underlying t = some (.slice e)) (hi : P.info? e = some i) (hz : i.zero = some z) (hzs : z.cells.size = i.size) (hsz : 0 < i.size)
    {l l2 : List V} {v : Value} {fy : List Nat} (h : R S w [.uq l] [v] fy) (hny : fy.Nodup) (hap : ∀ b o, b ∈ fy → ¬ S b o) (hlt : ∀ b o, S b o → b < w.heap.size) (hfl : ∀ b, b ∈ fy → b < w.heap.size)
    (hl : ∀ y ∈ l, y.cells.length = i.size) (hl2 : ∀ y ∈ l2, y.cells.length = i.size)
    {x : Value} {news : List Value} (hR : R S w (l2.flatMap V.cells) news []) (h1 : ∀ u ∈ news, u.oneCell' = true)
    (hx : l2 = [] ∧ (∃ b c, x = .slice b 0 c) ∨ l2 ≠ [] ∧ ∃ ad c, x = .slice (some ad) l2.length c ∧ ∀ j u, news[j]? = some u → w.cell? (ad.add j) = some u)
    (hm : l.length + l2.length ≤ maxLen) (hb : (l.length + l2.length) * i.bytes ≤ 140737488355328) :
    ∃ v' w' fy', (Builtin.append_ #[t, t] ty #[v, x]).run P w = .ok v' w' ∧ R S w' [.uq (l ++ l2)] [v'] fy' ∧ fy'.Nodup ∧ (∀ b, b ∈ fy' → b ∈ fy ∨ w.heap.size ≤ b) ∧ (∀ b, b ∈ fy' → b < w'.heap.size) ∧ Far fy w w' := by
  rcases hx with ⟨rfl, b, c, rfl⟩ | ⟨hne, ad, c, rfl, hnews⟩
  · rw [List.append_nil]
    refine ⟨v, w, fy, ?_, h, hny, fun b hb => .inl hb, hfl, Far.refl _ _⟩
    cases h with
    | uq0 hh => cases hh; exact run_append_zero ht hi none 0 0 (Nat.le_refl _) b c w
    | uq b' cap e' es cur g1 g2 g3 g4 g5 g6 g7 g8 g9 hh => cases hh; exact run_append_zero ht hi _ _ cap g6 b c w
  · have hpos : 0 < l2.length := by cases l2 with | nil => exact absurd rfl hne | cons _ _ => simp
    have hnl : news.length = l2.length * i.size := by rw [← hR.length]; exact flat_len hl2
    have hne' : l ++ l2 ≠ [] := by simp [hne]
    have hall : ∀ y ∈ l ++ l2, y.cells.length = i.size := by
      intro y hy; rcases List.mem_append.1 hy with hy | hy
      · exact hl y hy
      · exact hl2 y hy
    have hsmall : l.length + l2.length ≤ 9223372036854775807 := by simpa only [maxLen] using hm
    have grown : ∀ {cs : List Value} {fq : List Nat}, R S w (l.flatMap V.cells) cs fq → (∀ u ∈ cs, u.oneCell' = true) → fq.Nodup → (∀ b, b ∈ fq → b ∈ fy) → ∀ old, old < l.length + l2.length →
        R S (w.drew.alloc (.cells (cs.toArray ++ news.toArray ++ Builtin.zeroCells z.cells (grownCap w (l.length + l2.length) old e - (l.length + l2.length))) e))
          [.uq (l ++ l2)] [.slice (some ⟨w.heap.size, 0, none⟩) (l.length + l2.length) (grownCap w (l.length + l2.length) old e)] (w.heap.size :: fq) := by
      intro cs fq hcs h1c hnq hsub old hold
      have hge := grownCap_ge w (l.length + l2.length) old e
      have hcm := grownCap_le_maxLen w (l.length + l2.length) old e hm
      have hcl : cs.length = l.length * i.size := by rw [← hcs.length]; exact flat_len hl
      have hA : R S (w.drew.alloc (.cells (cs.toArray ++ news.toArray ++ Builtin.zeroCells z.cells (grownCap w (l.length + l2.length) old e - (l.length + l2.length))) e)) ((l ++ l2).flatMap V.cells) (cs ++ news) (fq ++ []) := by
        rw [List.flatMap_append]
        have hcell : ∀ b o, S b o → (w.drew.alloc (.cells (cs.toArray ++ news.toArray ++ Builtin.zeroCells z.cells (grownCap w (l.length + l2.length) old e - (l.length + l2.length))) e)).cell? ⟨b, o, none⟩ = w.cell? ⟨b, o, none⟩ :=
          fun b o hs => cell_alloc_lt w.drew _ b o (hlt b o hs)
        exact R.append (hcs.mono (fun _ _ h => h) hcell (fun b hb => Below.heap_alloc w.drew _ b (hfl b (hsub b hb)))) (hR.mono (fun _ _ h => h) hcell (by simp))
      rw [List.append_nil] at hA
      have := R.uq (S := S) (xs := []) (vs := []) (fp := []) w.heap.size (grownCap w (l.length + l2.length) old e) e i.size _ hsz hall hA (fun u hu => by
          rcases List.mem_append.1 hu with hu | hu
          · exact h1c u hu
          · exact h1 u hu) (heap_alloc_new w.drew _) (by simpa using hge) ⟨hcm, fun e => absurd e hne'⟩
        (by simp only [Array.size_append, List.size_toArray, zeroCells_size, hzs, hcl, hnl, ← Nat.add_mul]; congr 1; omega)
        (by
          simp only [Array.toList_append, List.append_assoc, List.length_append]
          rw [← List.append_assoc]
          have : (cs ++ news).length = (l.length + l2.length) * i.size := by rw [List.length_append, hcl, hnl, Nat.add_mul]
          rw [← this]; exact List.take_left) R.nil
      simpa using this
    cases h with
    | uq0 hh =>
      cases hh
      have hr := run_append_nil (P := P) w t ty e i z ht hi hz ad l2.length c news hnl hnews hpos (by simp at hsmall; omega) (by simp at hb; omega)
      have hg := grown (cs := []) (fq := []) .nil (by simp) List.nodup_nil (by simp) 0 (by simp; omega)
      simp only [List.length_nil, Nat.zero_add, List.nil_append] at hg ⊢
      refine ⟨_, _, [w.heap.size], hr, ?_, by simp, fun b hb => .inr (by simp at hb; omega), fun b hb => by simp at hb; subst hb; simp, ⟨rfl, rfl, rfl, by simp, fun k hk _ => heap_alloc_old w.drew _ k hk⟩⟩
      simpa using hg
    | @uq _ cs fq _ _ _ b cap e' es cur g1 g2 g3 g4 g5 g6 g7 g8 g9 hh =>
      cases hh
      have hes : l ≠ [] → es = i.size := by
        intro hl0
        cases l with
        | nil => exact absurd rfl hl0
        | cons y l => rw [← g2 y (by simp)]; exact hl y (by simp)
      have hcs : cur.size = cap * i.size := by
        by_cases hl0 : l = []
        · rw [g8, g7.2 hl0]; simp
        · rw [g8, hes hl0]
      have htk : cur.toList.take (l.length * i.size) = cs := by
        by_cases hl0 : l = []
        · subst hl0; simpa using g9
        · rw [← hes hl0]; exact g9
      have hcl : cs.length = l.length * i.size := by rw [← g3.length]; exact flat_len hl
      have hbin : b ∈ (b :: fq ++ []) := by simp
      have hnq : fq.Nodup := by simp at hny; exact hny.2
      have hbq : b ∉ fq := by simp at hny; exact hny.1
      by_cases hroom : l.length + l2.length ≤ cap
      · have hfit : l.length * i.size + news.length ≤ cur.size := by rw [hnl, hcs, ← Nat.add_mul]; exact Nat.mul_le_mul_right _ hroom
        have hr := run_append_room' ht hi b l.length cap cur e' g5 ad l2.length c news hnl hnews h1 hroom hfit (ty := ty)
        have hBut : But b w (w.setRow b (cur.toList.take (l.length * i.size) ++ news ++ cur.toList.drop (l.length * i.size + news.length)).toArray) :=
          ⟨rfl, rfl, rfl, by simp, fun k hk => setRow_other w b k _ hk⟩
        have hne2 : ∀ b' o', S b' o' → b' ≠ b := fun b' o' hs e => hap b o' hbin (e ▸ hs)
        have hA : R S (w.setRow b (cur.toList.take (l.length * i.size) ++ news ++ cur.toList.drop (l.length * i.size + news.length)).toArray) ((l ++ l2).flatMap V.cells) (cs ++ news) (fq ++ []) := by
          rw [List.flatMap_append]
          exact R.append (g3.mono (fun _ _ h => h) (fun b' o' hs => hBut.cell (hne2 b' o' hs)) (fun k hk => hBut.block k (fun e => hbq (e ▸ hk)))) (hR.mono (fun _ _ h => h) (fun b' o' hs => hBut.cell (hne2 b' o' hs)) (by simp))
        rw [List.append_nil] at hA
        have := R.uq (S := S) (xs := []) (vs := []) (fp := []) b cap e' i.size _ hsz hall hA (fun u hu => by
            rcases List.mem_append.1 hu with hu | hu
            · exact g4 u hu
            · exact h1 u hu) (setRow_heap w b cur _ e' _ g5) (by simpa using hroom) ⟨g7.1, fun e => absurd e hne'⟩
          (by simp only [List.size_toArray, List.length_append, List.length_take, List.length_drop, Array.length_toList]; omega)
          (by
            simp only [List.length_append]
            rw [htk]
            have : (cs ++ news).length = (l.length + l2.length) * i.size := by rw [List.length_append, hcl, hnl, Nat.add_mul]
            rw [← this]; exact List.take_left) R.nil
        rw [List.length_append] at this
        refine ⟨_, _, _, hr, this, hny, fun k hk => .inl hk, fun k hk => by rw [hBut.size]; exact hfl k hk, ⟨rfl, rfl, rfl, by simp, fun k _ hk => hBut.block k (fun e => hk (e ▸ hbin))⟩⟩
      · have holds : ∀ j u, cs[j]? = some u → w.cell? ((⟨b, 0, none⟩ : Addr).add j) = some u := by
          intro j u hu
          rw [Addr.add_lit, cell_of_row w b _ cur e' (0, 0) g5]
          have hj : j < l.length * i.size := by
            rcases Nat.lt_or_ge j cs.length with h' | h'
            · omega
            · simp [List.getElem?_eq_none h'] at hu
          rw [← htk, List.getElem?_take_of_lt hj] at hu
          simpa using hu
        have hr := run_append_grow (P := P) w t ty e i z ht hi hz ⟨b, 0, none⟩ l.length cap cs hcl holds ad l2.length c news hnl hnews (by omega) (by omega) (growslice_fits (by omega) hb)
        have hg := grown g3 g4 hnq (fun k hk => by simp [hk]) cap (by omega)
        refine ⟨_, _, _, hr, hg, ?_, fun k hk => ?_, fun k hk => ?_, ⟨rfl, rfl, rfl, by simp, fun k hk _ => heap_alloc_old w.drew _ k hk⟩⟩
        · rw [List.nodup_cons]
          refine ⟨fun hk => ?_, hnq⟩
          have := hfl w.heap.size (by simp [hk])
          omega
        · rcases List.mem_cons.1 hk with rfl | hk
          · exact .inr (Nat.le_refl _)
          · exact .inl (by simp [hk])
        · rcases List.mem_cons.1 hk with rfl | hk
          · simp
          · have := hfl k (by simp [hk]); simp; omega
theorem R.appT {t ty e : TypeId} {i : TypeInfo} {z : Value} (ht : P.underlying t = some (.slice e)) (hi : P.info? e = some i) (hz : i.zero = some z) (hzs : z.cells.size = i.size) (hsz : 0 < i.size)
    {l l2 : List V} {v : Value} (h : R S w [.ti l] [v] []) (hlt : ∀ b o, S b o → b < w.heap.size)
    (hl : ∀ y ∈ l, y.cells.length = i.size) (hl2 : ∀ y ∈ l2, y.cells.length = i.size) (hp : pureL l = true) (hp2 : pureL l2 = true)
    {x : Value} {news : List Value} (hR : R S w (l2.flatMap V.cells) news []) (h1 : ∀ u ∈ news, u.oneCell' = true)
    (hx : l2 = [] ∧ (∃ b c, x = .slice b 0 c) ∨ l2 ≠ [] ∧ ∃ ad c, x = .slice (some ad) l2.length c ∧ ∀ j u, news[j]? = some u → w.cell? (ad.add j) = some u)
    (hm : l.length + l2.length ≤ maxLen) (hb : (l.length + l2.length) * i.bytes ≤ 140737488355328) :
    ∃ v' w', (Builtin.append_ #[t, t] ty #[v, x]).run P w = .ok v' w' ∧ R (fun b o => S b o ∨ (b = w.heap.size ∧ b < w'.heap.size)) w' [.sl (l ++ l2)] [v'] [] ∧ Far [] w w' := by
  cases h with
  | @ti _ cs _ _ _ b o es g1 g2 g3 g4 g5 g6 g8 hh =>
  cases hh
  have hes : es = i.size := by
    cases l with
    | nil => exact absurd rfl g1
    | cons y l => rw [← g3 y (by simp)]; exact hl y (by simp)
  rcases hx with ⟨rfl, b', c, rfl⟩ | ⟨hne, ad, c, rfl, hnews⟩
  · rw [List.append_nil]
    refine ⟨_, w, run_append_zero ht hi _ _ _ (Nat.le_refl _) b' c w, ?_, Far.refl _ _⟩
    exact R.mono (R.sl b o l.length es g1 g2 g3 g4 g5 g6 (Nat.le_refl _) g8 .nil) (fun _ _ h => .inl h) (fun _ _ _ => rfl) (fun _ _ => rfl)
  · have hpos : 0 < l2.length := by cases l2 with | nil => exact absurd rfl hne | cons _ _ => simp
    have hnl : news.length = l2.length * i.size := by rw [← hR.length]; exact flat_len hl2
    have hcl : cs.length = l.length * i.size := by rw [← g4.length]; exact flat_len hl
    have hsmall : l.length + l2.length ≤ 9223372036854775807 := by simpa only [maxLen] using hm
    have holds : ∀ j u, cs[j]? = some u → w.cell? ((⟨b, o, none⟩ : Addr).add j) = some u := by
      intro j u hu
      have hj : j < cs.length := by
        rcases Nat.lt_or_ge j cs.length with h' | h'
        · exact h'
        · simp [List.getElem?_eq_none h'] at hu
      rw [Addr.add_lit, (g6 j hj).2]; exact hu
    have hr := run_append_grow (P := P) w t ty e i z ht hi hz ⟨b, o, none⟩ l.length l.length cs hcl holds ad l2.length c news hnl hnews (by omega) (by omega) (growslice_fits (by omega) hb)
    have hge := grownCap_ge w (l.length + l2.length) l.length e
    have hcm := grownCap_le_maxLen w (l.length + l2.length) l.length e hm
    have hcell : ∀ b o, S b o → (w.drew.alloc (.cells (cs.toArray ++ news.toArray ++ Builtin.zeroCells z.cells (grownCap w (l.length + l2.length) l.length e - (l.length + l2.length))) e)).cell? ⟨b, o, none⟩ = w.cell? ⟨b, o, none⟩ :=
      fun b o hs => cell_alloc_lt w.drew _ b o (hlt b o hs)
    have hA : R S (w.drew.alloc (.cells (cs.toArray ++ news.toArray ++ Builtin.zeroCells z.cells (grownCap w (l.length + l2.length) l.length e - (l.length + l2.length))) e)) ((l ++ l2).flatMap V.cells) (cs ++ news) [] := by
      rw [List.flatMap_append]
      exact R.append (g4.mono (fun _ _ h => h) hcell (fun b hb => by cases hb)) (hR.mono (fun _ _ h => h) hcell (fun b hb => by cases hb))
    have hU := R.uq (S := S) (xs := []) (vs := []) (fp := []) w.heap.size (grownCap w (l.length + l2.length) l.length e) e i.size _ hsz
      (fun y hy => by
        rcases List.mem_append.1 hy with hy | hy
        · exact hl y hy
        · exact hl2 y hy) hA (fun u hu => by
        rcases List.mem_append.1 hu with hu | hu
        · exact g5 u hu
        · exact h1 u hu) (heap_alloc_new w.drew _) (by simpa using hge) ⟨hcm, fun e => absurd e (by simp [hne])⟩
      (by simp only [Array.size_append, List.size_toArray, zeroCells_size, hzs, hcl, hnl, ← Nat.add_mul]; congr 1; omega)
      (by
        simp only [Array.toList_append, List.append_assoc, List.length_append]
        rw [← List.append_assoc]
        have : (cs ++ news).length = (l.length + l2.length) * i.size := by rw [List.length_append, hcl, hnl, Nat.add_mul]
        rw [← this]; exact List.take_left) R.nil
    have hV := hU.view1
    have hpp : pureL (l ++ l2) = true := by rw [pureL_eq, List.all_append, ← pureL_eq, ← pureL_eq, hp, hp2]; rfl
    simp only [pv, pvL_pure _ hpp, List.length_append] at hV
    refine ⟨_, _, hr, hV.mono (fun b' o' hs => ?_) (fun _ _ _ => rfl) (fun _ _ => rfl), ⟨rfl, rfl, rfl, by simp, fun k hk _ => heap_alloc_old w.drew _ k hk⟩⟩
    rcases hs with hs | hs
    · exact .inl hs
    · simp at hs
      subst hs
      exact .inr ⟨rfl, by simp⟩
end
end Go.Am
end
section
namespace Go.Am
open Go.RowKit
def chk {α : Type} (p : Prop) [Decidable p] (x : Option α) : Option α := if p then x else none
theorem chk_pos {α : Type} {p : Prop} [Decidable p] {x : Option α} (h : p) : chk p x = x := if_pos h
theorem chk_some {α : Type} {p : Prop} [Decidable p] {x : Option α} {y : α} (h : chk p x = some y) : p ∧ x = some y := by
  unfold chk at h; split at h
  · rename_i hp; exact ⟨hp, h⟩
  · cases h
def setSeg {α : Type} : List α → Nat → List α → List α
  | l, _, [] => l
  | l, p, x :: xs => setSeg (l.set p x) (p + 1) xs
theorem setSeg_length {α : Type} (xs : List α) : ∀ (l : List α) (p : Nat), (setSeg l p xs).length = l.length := by
  induction xs with
  | nil => intros; rfl
  | cons x xs ih => intro l p; simp [setSeg, ih]
theorem mem_setSeg {α : Type} (xs : List α) : ∀ (l : List α) (p : Nat) (y : α), y ∈ setSeg l p xs → y ∈ l ∨ y ∈ xs := by
  induction xs with
  | nil => intro l p y h; exact .inl h
  | cons x xs ih =>
    intro l p y h
    rcases ih _ _ _ h with h | h
    · rcases List.mem_or_eq_of_mem_set h with h | rfl
      · exact .inl h
      · exact .inr (by simp)
    · exact .inr (by simp [h])
theorem foldl_seg (xs : List Value) : ∀ (cs : Array Value) (off k : Nat),
    ((xs.zipIdx k).foldl (fun cs (c, j) => cs.setIfInBounds (off + j) c) cs).toList = setSeg cs.toList (off + k) xs := by
  induction xs with
  | nil => intros; rfl
  | cons x xs ih =>
    intro cs off k
    simp only [List.zipIdx_cons, List.foldl_cons]
    rw [ih]
    simp [setSeg, Nat.add_assoc]
section
variable {S : Nat → Nat → Prop} {w : World}
theorem R.setOne {xs : List V} {vs : List Value} (h : R S w xs vs []) {y : V} {u : Value} (hy : R S w [y] [u] []) (p : Nat) : R S w (xs.set p y) (vs.set p u) [] := by
  have hl := h.length
  rcases Nat.lt_or_ge p xs.length with hp | hp
  · obtain ⟨x, hx⟩ : ∃ x, xs[p]? = some x := ⟨xs[p], List.getElem?_eq_getElem hp⟩
    obtain ⟨v, f0, f1, f2, h1, h2, h3, h4, h5⟩ := h.at p x hx
    have hf : f0 = [] ∧ f1 = [] ∧ f2 = [] := by simpa [and_assoc] using h2.symm
    rw [hf.1] at h4; rw [hf.2.2] at h5
    have := R.append h4 (R.cons hy h5)
    rw [List.set_eq_take_append_cons_drop, if_pos hp, List.set_eq_take_append_cons_drop, if_pos (by omega)]
    exact this
  · rw [List.set_eq_of_length_le hp, List.set_eq_of_length_le (by omega)]; exact h
theorem R.setSeg {ys : List V} : ∀ {us : List Value} {xs : List V} {vs : List Value} (p : Nat), R S w xs vs [] → R S w ys us [] → R S w (Am.setSeg xs p ys) (Am.setSeg vs p us) [] := by
  induction ys with
  | nil => intro us xs vs p h hy; cases hy; exact h
  | cons y ys ih =>
    intro us xs vs p h hy
    obtain ⟨u, us', f1, f2, rfl, hf, h1, h2⟩ := R.uncons hy
    have hff : f1 = [] ∧ f2 = [] := by simpa using hf.symm
    rw [hff.1] at h1; rw [hff.2] at h2
    exact ih (p + 1) (h.setOne h1 p) h2
end
def frzL (Γ : Env) : List (Nat × Operand) → Option (Env × List (Nat × V))
  | [] => some (Γ, [])
  | (i, x) :: l => match frz Γ (rd Γ x) with
    | some (Γ1, y) => if cellsB y then (match frzL Γ1 l with
      | some (Γ2, ys) => some (Γ2, (i, y) :: ys)
      | none => none) else none
    | none => none
def isMapV : Value → Bool
  | .map _ => true
  | _ => false
def ownT (z : List Value) : Bool := z.length == 2 || z.any isMapV
def isSlV : Value → Bool
  | .slice _ _ _ => true
  | _ => false
def ownB (z : List Value) (n : Nat) : Bool := ownT z || (n == 0 && z.length == 5 && z.any isSlV)
def takL (Γ : Env) : List (Nat × Operand) → Option (Env × List (Nat × V))
  | [] => some (Γ, [])
  | (i, x) :: l => match tak Γ (rd Γ x) with
    | some (Γ1, y) => if cellsB y then (match takL Γ1 l with
      | some (Γ2, ys) => some (Γ2, (i, y) :: ys)
      | none => none) else none
    | none => none
def parL (Γ : Env) (own : Bool) (l : List (Nat × Operand)) : Option (Env × List (Nat × V)) := if own then takL Γ l else frzL Γ l
def bld (flds : List (Nat × Nat)) (cells : List V) : List (Nat × V) → Option (List V)
  | [] => some cells
  | (i, y) :: l => match flds[i]? with
    | some (off, size) => if y.cells.length = size ∧ off + size ≤ cells.length then bld flds (setSeg cells off y.cells) l else none
    | none => none
def evBuild (P : Program) (Γ : Env) (t : TypeId) (parts : Array (Nat × Operand)) : Option (Env × E) :=
  if (ti P t).ok = true ∧ (ti P t).k = .struct then
    match frzL Γ parts.toList with
    | some (Γ1, ys) => match bld (ti P t).flds (zeroV (ti P t).zero) ys with
      | some cells => if pureL (cells.map pv) then some (Γ1, .p (.agg (cells.map fun z => if pureB z then z else pv z))) else none
      | none => none
    | none => none
  else none
section
variable {C : Ctx} {S S' : Nat → Nat → Prop} {F : Nat → List Nat} {Γ Γ1 : Env} {a : Act} {w w' : World} {P : Program}
theorem frzL_ok : ∀ {l : List (Nat × Operand)} {S F Γ Γ1 ys}, G C S F Γ a w → frzL Γ l = some (Γ1, ys) →
    ∃ S' F', G C S' F' Γ1 a w ∧ (∀ b o, S b o → S' b o) ∧ R S' w (ys.map (·.2)) (l.map fun z => a.eval z.2) [] ∧ ys.map (·.1) = l.map (·.1) ∧ ∀ y ∈ ys, cellsB y.2 = true := by
  intro l
  induction l with
  | nil => intro S F Γ Γ1 ys h hf; simp only [frzL] at hf; cases hf; exact ⟨S, F, h, fun _ _ h => h, .nil, rfl, by simp⟩
  | cons ix l ih =>
    obtain ⟨i, x⟩ := ix
    intro S F Γ Γ1 ys h hf
    simp only [frzL] at hf
    split at hf
    rotate_left
    · cases hf
    rename_i Γ2 y hy
    split at hf
    rotate_left
    · cases hf
    rename_i hcy
    split at hf
    rotate_left
    · cases hf
    rename_i Γ3 ys' hys
    cases hf
    obtain ⟨ha, hc⟩ := h.rdAli x
    obtain ⟨S1, F1, h1, h2, h3⟩ := frz_ok h hy ha hc
    obtain ⟨S2, F2, g1, g2, g3, g4, g5⟩ := ih h1 hys
    refine ⟨S2, F2, g1, fun b o hs => g2 b o (h3 b o hs), ?_, by simp [g4], ?_⟩
    · simpa using R.cons (h2.mono g2 (fun _ _ _ => rfl) (by simp)) g3
    · intro z hz
      rcases List.mem_cons.1 hz with rfl | hz
      · exact hcy
      · exact g5 z hz
theorem takL_ok : ∀ {l : List (Nat × Operand)} {F Γ Γ1 ys}, G C S F Γ a w → takL Γ l = some (Γ1, ys) →
    ∃ F' fy, G C S F' Γ1 a w ∧ R S w (ys.map (·.2)) (l.map fun z => a.eval z.2) fy ∧ fy.Nodup ∧ (∀ s b, b ∈ fy → b ∉ F' s) ∧ (∀ b, b ∈ fy → ∃ s, b ∈ F s) ∧ (∀ s b, b ∈ F' s → b ∈ F s) ∧ ys.map (·.1) = l.map (·.1) ∧ ∀ y ∈ ys, cellsB y.2 = true := by
  intro l
  induction l with
  | nil => intro F Γ Γ1 ys h hf; simp only [takL] at hf; cases hf; exact ⟨F, [], h, .nil, List.nodup_nil, by simp, by simp, fun _ _ h => h, rfl, by simp⟩
  | cons ix l ih =>
    obtain ⟨i, x⟩ := ix
    intro F Γ Γ1 ys h hf
    simp only [takL] at hf
    split at hf
    rotate_left
    · cases hf
    rename_i Γ2 y hy
    split at hf
    rotate_left
    · cases hf
    rename_i hly
    split at hf
    rotate_left
    · cases hf
    rename_i Γ3 ys' hys
    cases hf
    obtain ⟨ha, hc⟩ := h.rdAli x
    obtain ⟨F1, f1, t1, t2, t3, t4, t5, t6⟩ := tak_ok h hy ha hc
    obtain ⟨F2, f2, g1, g2, g3, g4, g5, g6, g7, g8⟩ := ih t1 hys
    refine ⟨F2, f1 ++ f2, g1, by simpa using R.cons t2 g2, ?_, ?_, ?_, ?_, by simp [g7], ?_⟩
    · rw [List.nodup_append]; exact ⟨t3, g3, fun b hb c hc e => by subst e; obtain ⟨s, hs⟩ := g5 b hc; exact t4 s b hb hs⟩
    · intro s b hb; rcases List.mem_append.1 hb with hb | hb
      · exact fun hs => t4 s b hb (g6 s b hs)
      · exact g4 s b hb
    · intro b hb; rcases List.mem_append.1 hb with hb | hb
      · exact t5 b hb
      · obtain ⟨s, hs⟩ := g5 b hb; exact ⟨s, t6 s b hs⟩
    · exact fun s b hb => t6 s b (g6 s b hb)
    · intro z hz
      rcases List.mem_cons.1 hz with rfl | hz
      · exact hly
      · exact g8 z hz
theorem parL_ok {own : Bool} {l : List (Nat × Operand)} {ys} (h : G C S F Γ a w) (hf : parL Γ own l = some (Γ1, ys)) :
    ∃ S' F' fy, G C S' F' Γ1 a w ∧ (∀ b o, S b o → S' b o) ∧ R S' w (ys.map (·.2)) (l.map fun z => a.eval z.2) fy ∧ ys.map (·.1) = l.map (·.1) ∧ (∀ y ∈ ys, cellsB y.2 = true) ∧
      fy.Nodup ∧ (∀ s b, b ∈ fy → b ∉ F' s) ∧ (∀ b o, b ∈ fy → ¬ S' b o) ∧ (∀ b, b ∈ fy → b < w.heap.size ∧ (b ∈ C.fp0 ∨ C.w0.heap.size ≤ b)) := by
  unfold parL at hf
  split at hf
  · obtain ⟨F2, fy, g1, g2, g3, g4, g5, g6, g7, g8⟩ := takL_ok h hf
    exact ⟨S, F2, fy, g1, fun _ _ h => h, g2, g7, g8, g3, g4, fun b o hb => by obtain ⟨s, hs⟩ := g5 b hb; exact h.apart s b o hs, fun b hb => by obtain ⟨s, hs⟩ := g5 b hb; exact h.mine s b hs⟩
  · obtain ⟨S2, F2, g1, g2, g3, g4, g5⟩ := frzL_ok h hf
    exact ⟨S2, F2, [], g1, g2, g3, g4, g5, List.nodup_nil, by simp, by simp, by simp⟩
theorem R.pvIf {xs : List V} {vs : List Value} (h : R S w xs vs []) : R S w (xs.map fun z => if pureB z then z else pv z) vs [] := by
  induction xs generalizing vs with
  | nil => cases h; exact .nil
  | cons x xs ih =>
    obtain ⟨v, us, f1, f2, rfl, hf, h1, h2⟩ := R.uncons h
    have hff : f1 = [] ∧ f2 = [] := by simpa using hf.symm
    rw [hff.1] at h1; rw [hff.2] at h2
    refine R.cons (f1 := []) ?_ (ih h2)
    dsimp only
    split
    · exact h1
    · exact h1.view1.mono (fun b o hs => hs.elim id (by simp)) (fun _ _ _ => rfl) (by simp)
theorem bld_ok {flds : List (Nat × Nat)} : ∀ {ys : List (Nat × V)} {vals : List Value} {cells cells' : List V} {cs : Array Value}, bld flds cells ys = some cells' → R S w cells cs.toList [] → R S w (ys.map (·.2)) vals [] → (∀ y ∈ ys, cellsB y.2 = true) → (∀ u ∈ cs.toList, u.oneCell' = true) →
    ∃ cs', Instr.fill (flds[·]?) cs ((ys.map (·.1)).zip vals) = some cs' ∧ R S w cells' cs'.toList [] ∧ (∀ u ∈ cs'.toList, u.oneCell' = true) := by
  intro ys
  induction ys with
  | nil =>
    intro vals cells cells' cs hb hR hv _ h1
    simp only [bld] at hb; cases hb
    exact ⟨cs, by simp [Instr.fill], hR, h1⟩
  | cons iy ys ih =>
    obtain ⟨i, y⟩ := iy
    intro vals cells cells' cs hb hR hv hc h1
    obtain ⟨v, us, f1, f2, rfl, hf, g1, g2⟩ := R.uncons hv
    have hff : f1 = [] ∧ f2 = [] := by simpa using hf.symm
    rw [hff.1] at g1; rw [hff.2] at g2
    simp only [bld] at hb
    split at hb
    rotate_left
    · cases hb
    rename_i off size hfl
    split at hb
    rotate_left
    · cases hb
    rename_i hsz
    obtain ⟨k1, k2⟩ := g1.toCells (hc (i, y) (by simp))
    have hvl : v.cells.size = size := by rw [← hsz.1, k1.length]; simp
    have hcl : cells.length = cs.size := by rw [hR.length]; simp
    have hseg := R.setSeg off hR k1
    have hfold : (v.cells.zipIdx.foldl (fun cs (c, j) => cs.setIfInBounds (off + j) c) cs).toList = Am.setSeg cs.toList off v.cells.toList := by
      have := foldl_seg v.cells.toList cs off 0
      simp only [Nat.add_zero] at this
      rw [← this]
      congr 1
      rw [← Array.foldl_toList]
      congr 1
      simp
    rw [← hfold] at hseg
    obtain ⟨cs', m1, m2, m3⟩ := ih hb hseg g2 (fun z hz => hc z (by simp [hz])) (fun u hu => by
      rw [hfold] at hu
      rcases mem_setSeg _ _ _ _ hu with hu | hu
      · exact h1 u hu
      · exact k2 u hu)
    refine ⟨cs', ?_, m2, m3⟩
    simp only [List.map_cons, List.zip_cons_cons, Instr.fill, hfl]
    have hno : ¬ (v.cells.size ≠ size ∨ off + v.cells.size > cs.size) := by
      have := hsz.2
      omega
    simp only [Bool.or_eq_true, decide_eq_true_eq]
    rw [if_neg (by simpa using hno)]
    exact m1
end
end Go.Am
end
section
namespace Go.Am
open Go.RowKit
def srcE (Γ : Env) (e : E) : Option (List V) :=
  match e with
  | .p (.sl l) => some l
  | .p (.uq []) => some []
  | .p (.c (.slice _ 0 _)) => some []
  | .al r q => match (cont Γ r).getP q with
    | some (.sl l) => some l
    | some (.uq l) => if ∀ y ∈ l, pureL y.cells = true then some l else none
    | _ => none
  | _ => none
def dstE (Γ : Env) (e : E) : Option (Env × List V) :=
  match e with
  | .p (.uq []) => some (Γ, [])
  | .al r q => match (cont Γ r).getP q with
    | some (.uq l) => some (upd Γ r q .any, l)
    | _ => none
  | _ => none
def lenL (n : Nat) (l : List V) : Prop := ∀ y ∈ l, y.cells.length = n
instance (n : Nat) (l : List V) : Decidable (lenL n l) := inferInstanceAs (Decidable (∀ y ∈ l, y.cells.length = n))
@[simp] theorem lenL_nil (n : Nat) : lenL n [] = True := by simp [lenL]
@[simp] theorem lenL_cons (n : Nat) (x : V) (l : List V) : lenL n (x :: l) = (x.cells.length = n ∧ lenL n l) := by simp [lenL]
@[simp] theorem lenL_map {α : Type} (n : Nat) (f : α → V) (l : List α) (h : ∀ x, (f x).cells.length = n) : lenL n (l.map f) = True := by simp [lenL, h]
def tiL : E → Option (List V)
  | .p (.ti l) => some l
  | _ => none
def evAppend (P : Program) (Γ : Env) (t : TypeId) (s x : Operand) : Option (Env × E) :=
  match (ti P t).k with
  | .slice e =>
    if (ti P t).ok = true ∧ (ti P e).ok = true ∧ (ti P e).size ≠ 0 ∧ (ti P e).bytes ≠ 0 then
      match tiL (rd Γ s) with
      | some l => match srcE Γ (rd Γ x) with
        | some l2 => if (lenL (ti P e).size l ∧ lenL (ti P e).size l2) ∧ pureL l = true ∧ pureL l2 = true then
            chk ((l.length + l2.length) * (ti P e).bytes ≤ 140737488355328) (some (Γ, .p (.sl (l ++ l2)))) else none
        | none => none
      | none =>
      match srcE Γ (rd Γ x), dstE Γ (rd Γ s) with
      | some l2, some (Γ1, l) =>
        if lenL (ti P e).size l ∧ lenL (ti P e).size l2 then
          chk ((l.length + l2.length) * (ti P e).bytes ≤ 140737488355328) (some (Γ1, .p (.uq (l ++ l2))))
        else none
      | _, _ => none
    else none
  | _ => none
def evBuildSlice (P : Program) (Γ : Env) (t : TypeId) (n : Nat) (parts : Array (Nat × Operand)) : Option (Env × E) :=
  match (ti P t).k with
  | .slice e =>
    if (ti P t).ok = true ∧ (ti P e).ok = true ∧ (ti P e).size ≠ 0 ∧ parts.toList.map (·.1) = List.range n ∧ n * (ti P e).size ≤ 16777216 then
      match parL Γ (ownT (ti P e).zero) parts.toList with
      | some (Γ1, ys) => if ∀ y ∈ ys, y.2.cells.length = (ti P e).size then some (Γ1, .p (.uq (ys.map (·.2)))) else none
      | none => none
    else none
  | _ => none
def cutL (l : List V) (lo hi : Int) : List V := (l.take hi.toNat).drop lo.toNat
def evSlice (P : Program) (Γ : Env) (t : TypeId) (x : Operand) (lo hi mx : Option Operand) : Option (Env × E) :=
  match mx with
  | some m => match lo, hi, (ti P t).k with
    | none, some h, .slice e =>
      if (ti P t).ok = true ∧ (ti P e).ok = true ∧ (ti P e).size ≠ 0 then
        match frz Γ (rd Γ x) with
        | some (Γ1, .sl l) =>
          match kInt (look Γ (rd Γ h)), kInt (look Γ (rd Γ m)) with
          | some h, some m => chk (h = l.length ∧ m = l.length ∧ 0 < l.length) (some (Γ1, .p (.ti l)))
          | _, _ => none
        | _ => none
      else none
    | _, _, _ => none
  | none =>
    match (ti P t).k with
    | .slice e =>
      if (ti P t).ok = true ∧ (ti P e).ok = true ∧ (ti P e).size ≠ 0 then
        match frz Γ (rd Γ x) with
        | some (Γ1, .sl l) =>
          if ∀ y ∈ l, y.cells.length = (ti P e).size then
          let L := match lo with | none => some 0 | some o => kInt (look Γ (rd Γ o))
          let H := match hi with | none => some (l.length : Int) | some o => kInt (look Γ (rd Γ o))
          match L, H with
          | some lo, some hi => chk (0 ≤ lo ∧ lo ≤ hi ∧ hi ≤ l.length) (some (Γ1, .p (.sl (cutL l lo hi))))
          | _, _ => none
          else none
        | _ => none
      else none
    | _ => none
def evMax (Γ : Env) (x y : Operand) : Option (Env × E) :=
  match look Γ (rd Γ x), look Γ (rd Γ y) with
  | .c (.int .i64 m), .c (.int .i64 n) => some (Γ, .p (.c (.int .i64 (if m < n then n else m))))
  | _, _ => none
def evLen (P : Program) (Γ : Env) (t : TypeId) (x : Operand) : Option (Env × E) :=
  if (ti P t).ok = true then
    match (ti P t).k, look Γ (rd Γ x) with
    | .slice _, .sl l => some (Γ, .p (.c (.int .i64 l.length)))
    | .string, .c (.string s) => some (Γ, .p (.c (.int .i64 s.size)))
    | _, _ => none
  else none
section
variable {C : Ctx} {S S' : Nat → Nat → Prop} {F : Nat → List Nat} {Γ Γ1 : Env} {a : Act} {w w' : World} {P : Program}
theorem zip_map_eval {parts : List (Nat × Operand)} {ys : List (Nat × V)} (ρ : Operand → Value) (h : ys.map (·.1) = parts.map (·.1)) :
    (ys.map (·.1)).zip (parts.map fun z => ρ z.2) = parts.map fun z => (z.1, ρ z.2) := by
  rw [h]
  induction parts generalizing ys with
  | nil => rfl
  | cons p ps ih =>
    cases ys with
    | nil => simp at h
    | cons y ys => simp only [List.map_cons, List.zip_cons_cons, List.cons.injEq] at h ⊢; exact ⟨trivial, ih h.2⟩
theorem evBuild_ok (h : G C S F Γ a w) {t : TypeId} {parts : Array (Nat × Operand)} {e : E} (he : evBuild P Γ t parts = some (Γ1, e)) :
    ∃ v, (Instr.build t (parts.map fun z => (z.1, a.eval z.2))).run P w = .ok v w ∧ Out C Γ1 e a w v := by
  simp only [evBuild] at he
  split at he
  rotate_left
  · cases he
  rename_i ht
  obtain ⟨i, d, z, h1, h2, h3, h4, h5, h6, h7, h8, h9, h10⟩ := ti_ok ht.1
  rw [h4] at ht
  have hd : ∃ fs, d = .struct fs := by cases d <;> simp [kOf] at ht; exact ⟨_, rfl⟩
  obtain ⟨fs, rfl⟩ := hd
  obtain ⟨hfl, hpl⟩ := h10 fs rfl
  split at he
  rotate_left
  · cases he
  rename_i Γ2 ys hys
  split at he
  rotate_left
  · cases he
  rename_i cells hb
  split at he
  rotate_left
  · cases he
  cases he
  obtain ⟨S2, F2, g1, g2, g3, g4, g5⟩ := frzL_ok h hys
  have hz0 : R S2 w (zeroV (ti P t).zero) z.cells.toList [] := by rw [h7]; exact R.zero _
  obtain ⟨cs', k1, k2, k3⟩ := bld_ok hb hz0 g3 g5 h8
  rw [zip_map_eval a.eval g4] at k1
  have hbuilt : P.built t (parts.map fun z => (z.1, a.eval z.2)).toList = some cs' := by
    have hpl' := hpl
    simp only [places] at hpl'
    simp only [Program.built, h1, h2, h3, hpl']
    simpa using k1
  exact ⟨_, run_build w t _ cs' hbuilt, Out.pure g1 (R.agg (by simpa using k2.pvIf) (by simpa using k3) .nil)⟩
theorem srcE_ok (h : G C S F Γ a w) {x : Operand} {l2 : List V} (hs : srcE Γ (rd Γ x) = some l2) :
    ∃ news, R S w (l2.flatMap V.cells) news [] ∧ (∀ u ∈ news, u.oneCell' = true) ∧ l2.length ≤ maxLen ∧
      (l2 = [] ∧ (∃ b c, a.eval x = .slice b 0 c) ∨ l2 ≠ [] ∧ ∃ ad c, a.eval x = .slice (some ad) l2.length c ∧ ∀ j u, news[j]? = some u → w.cell? (ad.add j) = some u) := by
  obtain ⟨ha, hc⟩ := h.rdAli x
  have slCase : ∀ {l : List V} {v : Value}, R S w [.sl l] [v] [] → ∃ news, R S w (l.flatMap V.cells) news [] ∧ (∀ u ∈ news, u.oneCell' = true) ∧ l.length ≤ maxLen ∧
      (l = [] ∧ (∃ b c, v = .slice b 0 c) ∨ l ≠ [] ∧ ∃ ad c, v = .slice (some ad) l.length c ∧ ∀ j u, news[j]? = some u → w.cell? (ad.add j) = some u) := by
    intro l v hR
    cases hR with
    | sl0 hh => cases hh; exact ⟨[], .nil, by simp, by simp [maxLen], .inl ⟨rfl, _, _, rfl⟩⟩
    | @sl _ cs _ _ _ b o cap es h1 h2 h3 h4 h5 h6 h7 h8 hh =>
      cases hh
      refine ⟨cs, h4, h5, by omega, .inr ⟨h1, ⟨b, o, none⟩, cap, rfl, fun j u hu => ?_⟩⟩
      have hj : j < cs.length := by
        rcases Nat.lt_or_ge j cs.length with h' | h'
        · exact h'
        · simp [List.getElem?_eq_none h'] at hu
      rw [Addr.add_lit, (h6 j hj).2, hu]
  have uqCase : ∀ {l : List V} {v : Value} {f : List Nat}, R S w [.uq l] [v] f → (∀ y ∈ l, pureL y.cells = true) → ∃ news, R S w (l.flatMap V.cells) news [] ∧ (∀ u ∈ news, u.oneCell' = true) ∧ l.length ≤ maxLen ∧
      (l = [] ∧ (∃ b c, v = .slice b 0 c) ∨ l ≠ [] ∧ ∃ ad c, v = .slice (some ad) l.length c ∧ ∀ j u, news[j]? = some u → w.cell? (ad.add j) = some u) := by
    intro l v f hR hp
    cases hR with
    | uq0 hh => cases hh; exact ⟨[], .nil, by simp, by simp [maxLen], .inl ⟨rfl, _, _, rfl⟩⟩
    | @uq _ cs fq _ _ _ b cap e es cur g1 g2 g3 g4 g5 g6 g7 g8 g9 hh =>
      cases hh
      have hfq : pureL (l.flatMap V.cells) = true := by
        rw [pureL_eq, List.all_eq_true]
        intro z hz
        obtain ⟨y, hy, hz⟩ := List.mem_flatMap.1 hz
        have := hp y hy
        rw [pureL_eq, List.all_eq_true] at this
        exact this z hz
      rw [g3.pure_of hfq] at g3
      have hcl : cs.length = l.length * es := by rw [← g3.length]; exact flat_len g2
      refine ⟨cs, g3, g4, by omega, ?_⟩
      by_cases hl : l = []
      · subst hl; exact .inl ⟨rfl, _, _, rfl⟩
      · refine .inr ⟨hl, ⟨b, 0, none⟩, cap, rfl, fun j u hu => ?_⟩
        rw [Addr.add_lit, cell_of_row w b _ cur e (0, 0) g5]
        have hj : j < l.length * es := by
          rcases Nat.lt_or_ge j cs.length with h' | h'
          · omega
          · simp [List.getElem?_eq_none h'] at hu
        rw [← g9, List.getElem?_take_of_lt hj] at hu
        simpa using hu
  unfold srcE at hs
  split at hs
  · rename_i l hrd
    cases hs
    rw [hrd] at hc
    exact slCase (by simpa [E.cont] using hc)
  · rename_i hrd
    cases hs
    rw [hrd] at hc
    exact uqCase (l := []) (by simpa [E.cont] using hc) (by simp)
  · rename_i b c hrd
    cases hs
    rw [hrd] at hc
    have : a.eval x = .slice b 0 c := (show R S w [.c (.slice b 0 c)] [a.eval x] [] by simpa [E.cont] using hc).cinv
    exact ⟨[], .nil, by simp, by simp [maxLen], .inl ⟨rfl, _, _, this⟩⟩
  · rename_i r q hrd
    rw [hrd] at ha
    split at hs
    · rename_i l hD
      cases hs
      obtain ⟨u, fc, fr, k1, k2, k3⟩ := h.at hD
      have hv := ha _ hD
      rw [k1] at hv; cases hv
      rw [k2.pure1 rfl] at k2
      exact slCase k2
    · rename_i l hD
      split at hs
      · rename_i hp
        cases hs
        obtain ⟨u, fc, fr, k1, k2, k3⟩ := h.at hD
        have hv := ha _ hD
        rw [k1] at hv; cases hv
        exact uqCase k2 hp
      · cases hs
    · cases hs
  · cases hs
theorem dstE_ok (h : G C S F Γ a w) {x : Operand} {l : List V} (hs : dstE Γ (rd Γ x) = some (Γ1, l)) :
    ∃ F' fy, G C S F' Γ1 a w ∧ R S w [.uq l] [a.eval x] fy ∧ fy.Nodup ∧ (∀ s b, b ∈ fy → b ∉ F' s) ∧ (∀ b, b ∈ fy → ∃ s, b ∈ F s) := by
  obtain ⟨ha, hc⟩ := h.rdAli x
  unfold dstE at hs
  split at hs
  · rename_i hrd
    cases hs
    rw [hrd] at hc
    exact ⟨F, [], h, by simpa [E.cont] using hc, List.nodup_nil, by simp, by simp⟩
  · rename_i r q hrd
    rw [hrd] at ha
    split at hs
    · rename_i l' hD
      cases hs
      have hv := ha _ hD
      obtain ⟨u, fc, F', h1, h2, h3, h4, h5, h6, h7, h8⟩ := h.take hD (by simp)
      rw [h1] at hv; cases hv
      exact ⟨F', fc, h6, h2, h3, h7, fun b hb => ⟨r, h4 b hb⟩⟩
    · cases hs
  · cases hs
theorem Mem.far {fy : List Nat} (h : Mem C S w) (hF : Far fy w w') (hb : ∀ b, b ∈ fy → b ∈ C.fp0 ∨ C.w0.heap.size ≤ b) : Mem C S w' where
  sub := h.sub
  lt b' o hs := Nat.lt_of_lt_of_le (h.lt b' o hs) hF.size
  new := h.new
  os := hF.os.trans h.os
  tape := hF.tape.trans h.tape
  output := hF.output.trans h.output
  size := Nat.le_trans h.size hF.size
  block k hk hf := by
    have := h.size
    rw [hF.block k (by omega) (fun e => by rcases hb k e with hb | hb; exact hf hb; omega)]
    exact h.block k hk hf
theorem evAppend_ok (h : G C S F Γ a w) {t ty : TypeId} {s x : Operand} {e : E} (he : evAppend P Γ t s x = some (Γ1, e)) :
    ∃ v w', (Builtin.append_ #[t, t] ty #[a.eval s, a.eval x]).run P w = .ok v w' ∧ Out C Γ1 e a w' v := by
  simp only [evAppend] at he
  split at he
  rotate_left
  · cases he
  rename_i el hk
  split at he
  rotate_left
  · cases he
  rename_i ht
  obtain ⟨ht, hte, hsz, hbz⟩ := ht
  obtain ⟨i, d, z, h1, h2, h3, h4, _⟩ := ti_ok ht
  rw [h4] at hk
  cases d <;> simp [kOf] at hk
  subst hk
  obtain ⟨ie, de, ze, e1, e2, e3, e4, e5, e6, e7, e8, e9, _⟩ := ti_ok hte
  split at he
  · rename_i l hti
    have hrd : rd Γ s = .p (.ti l) := by
      unfold tiL at hti
      split at hti
      · rename_i l' e'; cases hti; exact e'
      · cases hti
    split at he
    rotate_left
    · cases he
    rename_i l2 hsrc
    split at he
    rotate_left
    · cases he
    rename_i hl
    obtain ⟨hb, he⟩ := chk_some he
    cases he
    obtain ⟨news, n1, n2, n3, n4⟩ := srcE_ok h hsrc
    obtain ⟨ha, hc⟩ := h.rdAli s
    rw [hrd] at hc
    rw [e5] at hsz
    rw [e6] at hbz hb
    rw [e5] at hl
    have hle : l.length + l2.length ≤ 140737488355328 := Nat.le_trans (Nat.le_mul_of_pos_right _ (by omega)) hb
    obtain ⟨v', w', r1, r2, r6⟩ := R.appT (P := P) (ty := ty) h2 e1 e3 e9 (by omega) (by simpa [E.cont] using hc) h.mem.lt hl.1.1 hl.1.2 hl.2.1 hl.2.2 n1 n2 n4 (by simp only [maxLen]; omega) hb
    refine ⟨v', w', r1, _, F, [], ?_, r2, List.nodup_nil, by simp, by simp, by simp, trivial⟩
    have hm := h.mem.far r6 (fun b hb => by cases hb)
    refine h.world ⟨fun b o hs => .inl (hm.sub b o hs), fun b o hs => ?_, fun b o hs => ?_, hm.os, hm.tape, hm.output, hm.size, hm.block⟩ (fun _ _ h => .inl h)
      (fun b o hs => World.cell?_of_block (w := w) (a := ⟨b, o, none⟩) (r6.block b (h.mem.lt b o hs) (by simp))) (fun s' b hb' => r6.block b (h.mine s' b hb').1 (by simp)) r6.size (fun s' b o hb' hs => ?_)
    · rcases hs with hs | hs
      · exact hm.lt b o hs
      · exact hs.2
    · rcases hs with hs | hs
      · exact hm.new b o hs
      · have := h.mem.size; exact .inr (.inr (by omega))
    · rcases hs with hs | hs
      · exact h.apart s' b o hb' hs
      · have := (h.mine s' b hb').1; omega
  split at he
  rotate_left
  · cases he
  rename_i l2 Γ2 l hsrc hdst
  split at he
  rotate_left
  · cases he
  rename_i hl
  obtain ⟨hb, he⟩ := chk_some he
  cases he
  obtain ⟨news, n1, n2, n3, n4⟩ := srcE_ok h hsrc
  obtain ⟨F', fy, g1, g2, g3, g4, g5⟩ := dstE_ok h hdst
  rw [e5] at hsz
  rw [e6] at hbz hb
  rw [e5] at hl
  have hle : l.length + l2.length ≤ 140737488355328 := Nat.le_trans (Nat.le_mul_of_pos_right _ (by omega)) hb
  have hap : ∀ b o, b ∈ fy → ¬ S b o := fun b o hb' => by obtain ⟨s', hs'⟩ := g5 b hb'; exact h.apart s' b o hs'
  have hmine : ∀ b, b ∈ fy → b < w.heap.size ∧ (b ∈ C.fp0 ∨ C.w0.heap.size ≤ b) := fun b hb' => by obtain ⟨s', hs'⟩ := g5 b hb'; exact h.mine s' b hs'
  obtain ⟨v', w', fy', r1, r2, r3, r4, r5, r6⟩ := R.app (P := P) (ty := ty) h2 e1 e3 e9 (by omega) g2 g3 hap h.mem.lt (fun b hb' => (hmine b hb').1) hl.1 hl.2 n1 n2 n4 (by simp only [maxLen]; omega) hb
  refine ⟨v', w', r1, S, F', fy', ?_, r2, r3, ?_, ?_, ?_, trivial⟩
  · refine g1.world (g1.mem.far r6 (fun b hb' => (hmine b hb').2)) (fun _ _ h => h) (fun b o hs => World.cell?_of_block (w := w) (a := ⟨b, o, none⟩) (r6.block b (h.mem.lt b o hs) (fun e => hap b o e hs))) (fun s' b hb' => r6.block b (g1.mine s' b hb').1 (fun e => g4 s' b e hb')) r6.size g1.apart
  · intro s' b hb' hb''
    rcases r4 b hb' with hh | hh
    · exact g4 s' b hh hb''
    · have := (g1.mine s' b hb'').1; omega
  · intro b o hb' hs
    rcases r4 b hb' with hh | hh
    · exact hap b o hh hs
    · have := h.mem.lt b o hs; omega
  · intro b hb'
    refine ⟨r5 b hb', ?_⟩
    rcases r4 b hb' with hh | hh
    · exact (hmine b hh).2
    · have := h.mem.size; exact .inr (by omega)
theorem fill_rows {size : Nat} : ∀ (vs : List Value) (i0 : Nat) (arr : Array Value), arr.size = (i0 + vs.length) * size → (∀ v ∈ vs, v.cells.size = size) →
    ∃ arr', Instr.fill (fun i => some (i * size, size)) arr ((vs.zipIdx i0).map fun z => (z.2, z.1)) = some arr' ∧ arr'.toList = arr.toList.take (i0 * size) ++ vs.flatMap fun v => v.cells.toList := by
  intro vs
  induction vs with
  | nil => intro i0 arr h1 _; exact ⟨arr, rfl, by simp at h1; rw [← h1]; simp [List.take_of_length_le]⟩
  | cons v vs ih =>
    intro i0 arr h1 h2
    have hv := h2 v (by simp)
    simp only [List.zipIdx_cons, List.map_cons, Instr.fill]
    have hle : (i0 + 1) * size ≤ arr.size := by rw [h1]; exact Nat.mul_le_mul_right _ (by simp)
    rw [Nat.add_mul, Nat.one_mul] at hle
    have hno : ¬ ((decide (v.cells.size ≠ size) || decide (i0 * size + v.cells.size > arr.size)) = true) := by simp; omega
    rw [if_neg (by simpa using hno)]
    have hfold : (v.cells.zipIdx.foldl (fun cs (c, j) => cs.setIfInBounds (i0 * size + j) c) arr).toList = setSeg arr.toList (i0 * size) v.cells.toList := by
      have := foldl_seg v.cells.toList arr (i0 * size) 0
      simp only [Nat.add_zero] at this
      rw [← this]
      congr 1
      rw [← Array.foldl_toList]
      congr 1
      simp
    have hsz : (v.cells.zipIdx.foldl (fun cs (c, j) => cs.setIfInBounds (i0 * size + j) c) arr).size = arr.size := by
      rw [← Array.length_toList, hfold, setSeg_length]; simp
    obtain ⟨arr', k1, k2⟩ := ih (i0 + 1) _ (by rw [hsz, h1]; congr 1; simp; omega) (fun u hu => h2 u (by simp [hu]))
    refine ⟨arr', k1, ?_⟩
    rw [k2, hfold]
    have hseg : ∀ (xs : List Value) (l : List Value) (p : Nat), p + xs.length ≤ l.length → (setSeg l p xs).take (p + xs.length) = l.take p ++ xs := by
      intro xs
      induction xs with
      | nil => intro l p _; simp [setSeg]
      | cons x xs ihx =>
        intro l p hp
        simp only [setSeg, List.length_cons] at hp ⊢
        have := ihx (l.set p x) (p + 1) (by simp; omega)
        rw [show p + (xs.length + 1) = p + 1 + xs.length by omega, this]
        have h3 : (l.set p x).take (p + 1) = l.take p ++ [x] := by
          rw [List.take_set]
          rw [List.take_succ_eq_append_getElem (by omega : p < l.length)]
          rw [List.set_append_right _ _ (by simp; omega)]
          simp [Nat.min_eq_left (by omega : p ≤ l.length)]
        rw [h3]; simp
    have hvl : v.cells.toList.length = size := by simpa using hv
    have := hseg v.cells.toList arr.toList (i0 * size) (by simp; omega)
    rw [hvl] at this
    rw [Nat.add_mul, Nat.one_mul, this]
    simp
theorem evBuildSlice_ok (h : G C S F Γ a w) {t : TypeId} {n : Nat} {parts : Array (Nat × Operand)} {e : E} (he : evBuildSlice P Γ t n parts = some (Γ1, e)) :
    ∃ v w', (Instr.buildSlice t n (parts.map fun z => (z.1, a.eval z.2))).run P w = .ok v w' ∧ Out C Γ1 e a w' v ∧ ∃ ob, w' = w.alloc ob := by
  simp only [evBuildSlice] at he
  split at he
  rotate_left
  · cases he
  rename_i el hk
  split at he
  rotate_left
  · cases he
  rename_i ht
  obtain ⟨ht, hte, hsz, hix, hn⟩ := ht
  obtain ⟨i, d, z, h1, h2, h3, h4, hrest⟩ := ti_ok ht
  clear hrest
  rw [h4] at hk
  cases d <;> simp [kOf] at hk
  rename_i el2
  subst hk
  obtain ⟨ie, de, ze, e1, e2, e3, e4, e5, e6, e7, e8, e9, _⟩ := ti_ok hte
  split at he
  rotate_left
  · cases he
  rename_i Γ2 ys hys
  split at he
  rotate_left
  · cases he
  rename_i hyl
  cases he
  obtain ⟨S2, F2, fy, g1, g2, g3, g4, g5, q1, q2, q3, q4⟩ := parL_ok h hys
  have hvl : (parts.toList.map fun z => a.eval z.2).length = n := by
    have := congrArg List.length hix; simpa using this
  have hcells : ∀ {xs : List V} {vs : List Value} {fp : List Nat}, R S2 w xs vs fp → (∀ x ∈ xs, cellsB x = true) → (∀ x ∈ xs, x.cells.length = (ti P el2).size) →
      R S2 w (xs.flatMap V.cells) (vs.flatMap fun v => v.cells.toList) fp ∧ (∀ u ∈ (vs.flatMap fun v => v.cells.toList), u.oneCell' = true) ∧ ∀ v ∈ vs, v.cells.size = (ti P el2).size := by
    intro xs
    induction xs with
    | nil => intro vs fp hR _ _; cases hR; exact ⟨.nil, by simp, by simp⟩
    | cons x xs ih =>
      intro vs fp hR hc hl
      obtain ⟨v, us, f1, f2, rfl, rfl, m1, m2⟩ := R.uncons hR
      obtain ⟨c1, c2⟩ := m1.toCellsO (hc x (by simp))
      obtain ⟨c3, c4, c5⟩ := ih m2 (fun y hy => hc y (by simp [hy])) (fun y hy => hl y (by simp [hy]))
      refine ⟨by simpa using R.append c1 c3, ?_, ?_⟩
      · intro u hu
        simp only [List.flatMap_cons, List.mem_append] at hu
        rcases hu with hu | hu
        · exact c2 u hu
        · exact c4 u hu
      · intro u hu
        rcases List.mem_cons.1 hu with rfl | hu
        · have := c1.length; rw [hl x (by simp)] at this; simpa using this.symm
        · exact c5 u hu
  obtain ⟨c1, c2, c3⟩ := hcells g3 (fun x hx => by obtain ⟨y, hy, rfl⟩ := List.mem_map.1 hx; exact g5 y hy) (fun x hx => by obtain ⟨y, hy, rfl⟩ := List.mem_map.1 hx; exact hyl y hy)
  have hlist : (parts.toList.map fun z => (z.1, a.eval z.2)) = ((parts.toList.map fun z => a.eval z.2).zipIdx 0).map fun z => (z.2, z.1) := by
    have hz : ∀ (l : List (Nat × Operand)) (k : Nat), l.map (·.1) = List.range' k l.length → (l.map fun z => (z.1, a.eval z.2)) = ((l.map fun z => a.eval z.2).zipIdx k).map fun z => (z.2, z.1) := by
      intro l
      induction l with
      | nil => intros; rfl
      | cons p l ih =>
        intro k hk
        simp only [List.map_cons, List.length_cons, List.range'_succ, List.cons.injEq] at hk
        simp only [List.map_cons, List.zipIdx_cons, List.cons.injEq]
        exact ⟨by rw [hk.1], ih (k + 1) hk.2⟩
    refine hz _ 0 ?_
    rw [hix, List.range_eq_range']
    have : parts.toList.length = n := by simpa using hvl
    rw [this]
  have hyn : (ys.map (·.2)).length = n := by
    have := g3.length; rw [this]; exact hvl
  obtain ⟨arr', k1, k2⟩ := fill_rows (size := (ti P el2).size) (parts.toList.map fun z => a.eval z.2) 0 ((Array.range (n * (ti P el2).size)).map ((if n * (ti P el2).size = 0 then #[] else ze.cells)[· % (if n * (ti P el2).size = 0 then #[] else ze.cells).size]!)) (by simp [hvl]) c3
  have hout : R S2 (w.alloc (.cells arr' el2)) [.uq (ys.map (·.2))] [.slice (some ⟨w.heap.size, 0, none⟩) n n] (w.heap.size :: fy) := by
    have hm := c1.mono (S' := S2) (w' := w.alloc (.cells arr' el2)) (fun _ _ h => h) (fun b o hs => cell_alloc_lt w _ b o (g1.mem.lt b o hs)) (fun b hb => Below.heap_alloc w _ b (q4 b hb).1)
    have k2' : arr'.toList = (parts.toList.map fun z => a.eval z.2).flatMap fun v => v.cells.toList := by simpa using k2
    have hal : arr'.toList.length = n * (ti P el2).size := by
      rw [k2', ← c1.length, flat_len (es := (ti P el2).size) (fun x hx => by obtain ⟨y, hy, rfl⟩ := List.mem_map.1 hx; exact hyl y hy), hyn]
    have := R.uq (S := S2) (xs := []) (vs := []) (fp := []) w.heap.size n el2 (ti P el2).size arr' (by omega) (fun x hx => by obtain ⟨y, hy, rfl⟩ := List.mem_map.1 hx; exact hyl y hy) hm c2 (heap_alloc_new w _) (by omega)
      ⟨by simp only [maxLen]; have := Nat.le_mul_of_pos_right n (show 0 < (ti P el2).size by omega); omega, fun e => by rw [e] at hyn; simpa using hyn.symm⟩ (by simpa using hal) (by rw [hyn, ← hal, List.take_length, k2']) R.nil
    rw [hyn] at this
    simpa using this
  refine ⟨_, _, ?_, ⟨S2, F2, w.heap.size :: fy, g1.alloc _, hout, List.nodup_cons.2 ⟨fun hb => by have := (q4 _ hb).1; omega, q1⟩, ?_, ?_, ?_, trivial⟩, _, rfl⟩
  · simp only [Instr.buildSlice, Sem.run_bind, run_underlying h2, Result.andThen_ok, run_size hte]
    rw [if_neg (by omega)]
    have hze : (zeroValue el2).run P w = .ok ze w := by simp [zeroValue, typeInfo, e1, e3]
    by_cases h0 : n * (ti P el2).size = 0
    · simp only [if_pos h0] at k1 ⊢
      simp only [Sem.run_bind, Sem.run_pure, Result.andThen_ok]
      rw [Array.toList_map, hlist, k1]
      simp only [Sem.run_bind, newRow, run_newObj, Result.andThen_ok, Sem.run_pure]
      rfl
    · simp only [if_neg h0] at k1 ⊢
      simp only [Sem.run_bind, Sem.run_pure, Result.andThen_ok, hze]
      rw [Array.toList_map, hlist, k1]
      simp only [Sem.run_bind, newRow, run_newObj, Result.andThen_ok, Sem.run_pure]
      rfl
  · intro s b hb hb'
    rcases List.mem_cons.1 hb with rfl | hb
    · have := (g1.mine s _ hb').1; omega
    · exact q2 s b hb hb'
  · intro b o hb hs
    rcases List.mem_cons.1 hb with rfl | hb
    · have := g1.mem.lt _ _ hs; omega
    · exact q3 b o hb hs
  · intro b hb
    rcases List.mem_cons.1 hb with rfl | hb
    · exact ⟨by simp, .inr g1.mem.size⟩
    · exact ⟨by have := (q4 b hb).1; simp; omega, (q4 b hb).2⟩
end
end Go.Am
end
