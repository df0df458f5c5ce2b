/- Part of the proof of a law of the image. -/
import Derived.Test.YtfgfjgbggkdobaaGreatQPB
import GoSem.Instr.MapUpdate
import GoSem.Instr.MakeMap
import Derived.Laws.BytesString
import Derived.Orders
set_option linter.all false
section
namespace Go.Am
def findP (kd : TypeDesc) (k : Value) : List (Value × Value) → Nat → Option (Option (Nat × Value))
  | [], _ => some none
  | e :: es, i => match Instr.sameNow kd k e.1 with
    | some true => some (some (i, e.2))
    | some false => findP kd k es (i + 1)
    | none => none
theorem findP_eq (kd : TypeDesc) (k : Value) : ∀ (l : List MapEntry) (i : Nat), Instr.findNow kd k l i = findP kd k (l.map fun e => (e.key, e.val)) i := by
  intro l
  induction l with
  | nil => intro i; rfl
  | cons e l ih =>
    intro i
    simp only [Instr.findNow, findP, List.map_cons]
    cases Instr.sameNow kd k e.key with
    | none => rfl
    | some b => cases b <;> simp [ih]
def okKd : TypeDesc → Bool
  | .string => true
  | .int _ => true
  | _ => false
def mapTy (P : Program) (t : TypeId) : Option (TypeDesc × Value) :=
  match P.underlying t with
  | some (.map kt et) => match P.underlying kt, P.info? et with
    | some kd, some i => if okKd kd then i.zero.map fun z => (kd, z) else none
    | _, _ => none
  | _ => none
def mput (es : List (Value × Value)) (k v : Value) : Option (Nat × Value) → List (Value × Value)
  | some (i, _) => es.modify i fun _ => (k, v)
  | none => es ++ [(k, v)]
def evLookup (P : Program) (Γ : Env) (t : TypeId) (x k : Operand) (ok : Bool) : Option (Env × E) :=
  match mapTy P t with
  | some (kd, z) => match rd Γ x with
    | .al r q => match (cont Γ r).getP q, look Γ (rd Γ k) with
      | some (.mp es), .c key => match findP kd key es 0 with
        | some f => some (Γ, .p (if ok then .tup [.c ((f.map (·.2)).getD z), .c (.bool f.isSome)] else .c ((f.map (·.2)).getD z)))
        | none => none
      | _, _ => none
    | _ => none
  | none => none
def evMapUpd (P : Program) (Γ : Env) (t : TypeId) (x k y : Operand) : Option (Env × E) :=
  match mapTy P t with
  | some (kd, _) => match rd Γ x with
    | .al r q => match (cont Γ r).getP q, look Γ (rd Γ k), look Γ (rd Γ y) with
      | some (.mp es), .c key, .c val => match findP kd key es 0 with
        | some f => some (upd Γ r q (.mp (mput es key val f)), dead)
        | none => none
      | _, _, _ => none
    | _ => none
  | none => none
section
variable {C : Ctx} {S S' : Nat → Nat → Prop} {F : Nat → List Nat} {Γ Γ1 : Env} {a : Act} {w w' : World} {P : Program}
theorem mapTy_some {t : TypeId} {kd : TypeDesc} {z : Value} (h : mapTy P t = some (kd, z)) :
    ∃ kt et i, P.underlying t = some (.map kt et) ∧ P.underlying kt = some kd ∧ okKd kd = true ∧ P.info? et = some i ∧ i.zero = some z := by
  unfold mapTy at h
  split at h
  · rename_i kt et h1
    split at h
    · rename_i kd' i h2 h3
      split at h
      · rename_i h4
        simp only [Option.map_eq_some_iff, Prod.mk.injEq] at h
        obtain ⟨z', h5, rfl, rfl⟩ := h
        exact ⟨kt, et, i, h1, h2, h4, h3, h5⟩
      · cases h
    · cases h
  · cases h
theorem look_const (h : G C S F Γ a w) {x : Operand} {v : Value} (hl : look Γ (rd Γ x) = .c v) : a.eval x = v := by
  have := h.look x
  rw [hl] at this
  cases this with
  | c hh => rfl
theorem map_at (h : G C S F Γ a w) {x : Operand} {r : Nat} {q : Path} {es : List (Value × Value)} (hr : rd Γ x = .al r q) (hD : (cont Γ r).getP q = some (.mp es)) :
    ∃ b k l, a.eval x = .map (some b) ∧ w.heap[b]? = some (.map l k) ∧ l.toList.map (fun e => (e.key, e.val)) = es ∧ fol w (cont Γ r) (tm a r) q = some (.map (some b)) := by
  obtain ⟨ha, hc⟩ := h.rdAli x
  rw [hr] at ha
  have hv := ha _ hD
  obtain ⟨u, fc, fr, k1, k2, k3⟩ := h.at hD
  rw [k1, Option.some.injEq] at hv
  rw [← hv]
  cases k2 with
  | mp b k l h1 h2 hh => exact ⟨b, k, l, rfl, h1, h2, k1⟩
theorem checkKey_ok {kd : TypeDesc} {kt : TypeId} (hk : P.underlying kt = some kd) (ho : okKd kd = true) (b : Bool) (n : Nat) (v : Value) (w : World) : (Instr.checkKey b (n + 1) kt v).run P w = .ok () w := by
  unfold Instr.checkKey
  simp only [Sem.run_bind, run_underlying hk, Result.andThen_ok]
  cases kd <;> simp [okKd] at ho <;> rfl
theorem evLookup_ok (h : G C S F Γ a w) {t : TypeId} {x k : Operand} {ok : Bool} {e : E} (he : evLookup P Γ t x k ok = some (Γ1, e)) :
    ∃ v, (Instr.lookup t (a.eval x) (a.eval k) ok).run P w = .ok v w ∧ Out C Γ1 e a w v := by
  unfold evLookup at he
  split at he
  rotate_left
  · cases he
  rename_i kd z hty
  obtain ⟨kt, et, i, h1, h2, h3, h4, h5⟩ := mapTy_some hty
  split at he
  rotate_left
  · cases he
  rename_i r q hr
  split at he
  rotate_left
  · cases he
  rename_i es key hD hk
  split at he
  rotate_left
  · cases he
  rename_i f hf
  cases he
  obtain ⟨b, ck, l, hx, hb, hes, _⟩ := map_at h hr hD
  have hkey := look_const h hk
  rw [hx, hkey]
  have hfn : Instr.findNow kd key l.toList 0 = some f := by rw [findP_eq, hes]; exact hf
  have hz : (zeroValue et).run P w = .ok z w := by
    simp [zeroValue, typeInfo, h4, h5]
  have hg : (getObj b).run P w = .ok (.map l ck) w := by simp only [getObj, Sem.run, hb]
  have hrun : (Instr.lookup t (.map (some b)) key ok).run P w = .ok (if ok then .tuple #[(f.map (·.2)).getD z, .bool f.isSome] else (f.map (·.2)).getD z) w := by
    unfold Instr.lookup
    simp only [Sem.run_bind, run_underlying h1, Result.andThen_ok, hg, Sem.run_pure, checkKey_ok h2 h3, Instr.findKey, run_underlying h2, hfn]
    cases f with
    | none => simp [hz] <;> (cases ok <;> rfl)
    | some p => cases ok <;> rfl
  refine ⟨_, hrun, ?_⟩
  refine Out.pure h ?_
  cases ok
  · exact .c .nil
  · exact .tup (.c (.c .nil)) .nil
theorem ba_eq {a b : ByteArray} (h : (a == b) = true) : a = b := by
  rcases a with ⟨a⟩; rcases b with ⟨b⟩
  have h : (a == b) = true := by simpa [BEq.beq, ByteArray.beq] using h
  rw [eq_of_beq h]
theorem ba_refl (a : ByteArray) : (a == a) = true := by
  rcases a with ⟨a⟩
  show (a == a) = true
  simp
theorem sameBits_of {kd : TypeDesc} (ho : okKd kd = true) {k old : Value} (h : Instr.sameNow kd k old = some true) : Instr.sameBits 10000 old k = true := by
  cases kd <;> simp [okKd] at ho
  · cases k <;> cases old <;> simp [Instr.sameNow] at h
    simp [Instr.sameBits, h.1, h.2]
  · cases k <;> cases old <;> simp [Instr.sameNow] at h
    rw [ba_eq h]
    simp [Instr.sameBits, ba_refl]
theorem findP_at {kd : TypeDesc} {k : Value} : ∀ (es : List (Value × Value)) (i j : Nat) (v : Value), findP kd k es i = some (some (j, v)) → i ≤ j ∧ ∃ e, es[j - i]? = some e ∧ Instr.sameNow kd k e.1 = some true := by
  intro es
  induction es with
  | nil => intro i j v h; simp [findP] at h
  | cons e es ih =>
    intro i j v h
    simp only [findP] at h
    split at h
    · rename_i h1
      simp only [Option.some.injEq, Prod.mk.injEq] at h
      obtain ⟨rfl, rfl⟩ := h
      exact ⟨Nat.le_refl _, e, by simp, h1⟩
    · obtain ⟨h1, e', h2, h3⟩ := ih _ _ _ h
      refine ⟨by omega, e', ?_, h3⟩
      have : j - i = (j - (i + 1)) + 1 := by omega
      rw [this]; simpa using h2
    · cases h
theorem evMapUpd_ok (h : G C S F Γ a w) {t : TypeId} {x k y : Operand} {e : E} (he : evMapUpd P Γ t x k y = some (Γ1, e)) :
    ∃ w', (Instr.mapUpdate t (a.eval x) (a.eval k) (a.eval y)).run P w = .ok () w' ∧ e = dead ∧ ∃ S' F', G C S' F' Γ1 a w' := by
  unfold evMapUpd at he
  split at he
  rotate_left
  · cases he
  rename_i kd z hty
  obtain ⟨kt, et, i, h1, h2, h3, h4, h5⟩ := mapTy_some hty
  split at he
  rotate_left
  · cases he
  rename_i r q hr
  split at he
  rotate_left
  · cases he
  rename_i es key val hD hk hy
  split at he
  rotate_left
  · cases he
  rename_i f hf
  cases he
  obtain ⟨b, ck, l, hx, hb, hes, hfol⟩ := map_at h hr hD
  have hkey := look_const h hk
  have hval := look_const h hy
  rw [hx, hkey, hval]
  have hfn : Instr.findNow kd key l.toList 0 = some f := by rw [findP_eq, hes]; exact hf
  have hg : (getObj b).run P w = .ok (.map l ck) w := by simp only [getObj, Sem.run, hb]
  have hset : ∀ o, (setObj b o).run P w = .ok () { w with heap := w.heap.setIfInBounds b o } := fun o => by simp only [setObj, Sem.run, hb]
  obtain ⟨l', ck', hl', hrun⟩ : ∃ l' ck', l'.toList.map (fun e => (e.key, e.val)) = mput es key val f ∧
      (Instr.mapUpdate t (.map (some b)) key val).run P w = .ok () { w with heap := w.heap.setIfInBounds b (.map l' ck') } := by
    cases f with
    | none =>
      refine ⟨l.push { key, val := val, born := ck }, ck + 1, by simp [mput, hes], ?_⟩
      unfold Instr.mapUpdate
      simp only [Sem.run_bind, run_underlying h1, Result.andThen_ok, hg, checkKey_ok h2 h3, Instr.findKey, run_underlying h2, hfn, Sem.run_pure, hset]
    | some p =>
      obtain ⟨j, v⟩ := p
      obtain ⟨_, e, he, hs⟩ := findP_at _ _ _ _ hf
      simp only [Nat.sub_zero] at he
      have hjl : j < l.size := by
        have : j < es.length := by
          rcases Nat.lt_or_ge j es.length with h | h
          · exact h
          · rw [List.getElem?_eq_none h] at he; cases he
        rw [← hes] at this; simpa using this
      have hek : e.1 = l[j].key := by
        rw [← hes, List.getElem?_map] at he
        simp [hjl] at he
        rw [← he]
      have hsb : Instr.sameBits 10000 l[j].key key = true := by rw [← hek]; exact sameBits_of h3 hs
      refine ⟨l.modify j fun e => { e with key := key, val := val }, ck, ?_, ?_⟩
      · simp only [mput, Array.toList_modify, ← hes]
        apply List.ext_getElem?
        intro n
        simp only [List.getElem?_map, List.getElem?_modify]
        cases l.toList[n]? with
        | none => simp
        | some u => by_cases hjn : j = n <;> simp [hjn]
      · unfold Instr.mapUpdate
        have hkt : (Instr.keyThatStays (((l[j]?).map (·.key)).getD key) key).run P w = .ok key w := by
          unfold Instr.keyThatStays
          simp [hjl, hsb]
        simp only [Sem.run_bind, run_underlying h1, Result.andThen_ok, hg, checkKey_ok h2 h3, Instr.findKey, run_underlying h2, hfn, Sem.run_pure, hkt, hset]
  refine ⟨_, hrun, rfl, ?_⟩
  obtain ⟨u, fc, fr, g1, g2, g3, g4, g5⟩ := h.upd (D' := .mp (mput es key val f)) hD (h.rlt hD (by simp))
  rw [hfol] at g1; cases g1
  cases g2 with
  | mp b' k' l2 q1 q2 hh =>
    cases hh
    have hin : b ∈ F r := g3.mem_iff.2 (by simp)
    have hnd := g3.nodup_iff.1 (h.nodup r)
    have hn := List.nodup_append.1 hnd
    have hbfr : b ∉ fr := fun hb => hn.2.2 b (by simp) b hb rfl
    have hne : ∀ k, k ≠ b → (w.heap.setIfInBounds b (.map l' ck'))[k]? = w.heap[k]? := fun k hk => by simp [Array.getElem?_setIfInBounds, Ne.symm hk]
    have hbs : b < w.heap.size := (h.mine r b hin).1
    have hSb : ∀ b' o, S b' o → b' ≠ b := fun b' o hs e => h.apart r b o hin (e ▸ hs)
    have hmine := h.mine r b hin
    obtain ⟨fp', hp', hG⟩ := g5 S { w with heap := w.heap.setIfInBounds b (.map l' ck') } [b]
      ⟨h.mem.sub, fun b o hb => by simpa using h.mem.lt b o hb, h.mem.new, h.mem.os, h.mem.tape, h.mem.output, by simpa using h.mem.size, fun k hk hk' => by
        have hkb : k ≠ b := fun e => by
          rcases hmine.2 with hm | hm
          · exact hk' (e ▸ hm)
          · omega
        exact (hne k hkb).trans (h.mem.block k hk hk')⟩
      (fun _ _ h => h) (fun b' o hs => World.cell?_of_block (w := w) (a := ⟨b', o, none⟩) (hne b' (hSb b' o hs)))
      (fun k hk => hne k (fun e => hbfr (e ▸ hk))) (fun s k hs hk => hne k (fun e => h.disj r s b (fun e => hs e.symm) hin (e ▸ hk))) (by simp)
      (.mp b ck' l' (by simp [hbs]) hl' .nil) (by simp) (by intro c hc; simp at hc; subst hc; exact hbfr)
      (fun s c hs hc => by simp at hc; subst hc; exact h.disj r s _ (fun e => hs e.symm) hin) (fun c o hc => by simp at hc; subst hc; exact h.apart r _ o hin)
      (fun c o hc => h.apart r c o (g3.mem_iff.2 (List.mem_append_right _ hc))) (fun s c o _ hc => h.apart s c o hc) (fun c hc => by simp at hc; subst hc; exact ⟨by simpa using hbs, hmine.2⟩) (by simp [V.row])
    exact ⟨S, _, hG⟩
theorem Out.map (h : G C S F Γ a w) : Out C Γ (.p (.mp [])) a (w.alloc (.map #[] 0)) (.map (some w.heap.size)) := by
  have hG := h.alloc (.map #[] 0)
  refine ⟨S, F, [w.heap.size], hG, ?_, by simp, ?_, ?_, ?_, trivial⟩
  · exact .mp w.heap.size 0 #[] (by show (w.heap.push _)[w.heap.size]? = _; simp) rfl .nil
  · intro s b hb hb'
    simp at hb; subst hb
    have := (h.mine s _ hb').1; omega
  · intro b o hb hs
    simp at hb; subst hb
    have := h.mem.lt _ _ hs; omega
  · intro b hb
    simp at hb; subst hb
    exact ⟨by simp, .inr h.mem.size⟩
end
end Go.Am
end
section
namespace Go.Am
open Go.RowKit
def takC (Γ : Env) (e : E) : Option (Env × V) :=
  match e with
  | .cl f l => if l.all (fun s => pureB (cont Γ s)) then some (Γ, .clo f (l.map fun s => cont Γ s)) else none
  | e => tak Γ e
def takP (Γ : Env) : List (Nat × Operand) → Option (Env × List (Nat × V))
  | [] => some (Γ, [])
  | (i, x) :: l => match takC Γ (rd Γ x) with
    | some (Γ1, y) => if leafB y then (match takP Γ1 l with
      | some (Γ2, ys) => some (Γ2, (i, y) :: ys)
      | none => none) else none
    | none => none
def bldO (flds : List (Nat × Nat)) (cells : List V) : List (Nat × V) → Option (List V)
  | [] => some cells
  | (i, y) :: l => match flds[i]? with
    | some (off, size) => if size = 1 ∧ off < cells.length then bldO flds (cells.set off y) l else none
    | none => none
def evBuildO (P : Program) (Γ : Env) (t : TypeId) (parts : Array (Nat × Operand)) : Option (Env × E) :=
  if (ti P t).ok = true ∧ (ti P t).k = .struct then
    match takP Γ parts.toList with
    | some (Γ1, ys) => match bldO (ti P t).flds (zeroV (ti P t).zero) ys with
      | some cells => some (Γ1, .p (.agg cells))
      | none => none
    | none => none
  else none
section
variable {C : Ctx} {S S' : Nat → Nat → Prop} {F : Nat → List Nat} {Γ Γ1 : Env} {a : Act} {w w' : World} {P : Program}
theorem takC_ok (h : G C S F Γ a w) {e : E} {v : Value} {y : V} (hf : takC Γ e = some (Γ1, y)) (ha : Ali Γ a w e v) (hc : R S w [e.cont] [v] []) :
    ∃ F' fy, G C S F' Γ1 a w ∧ R S w [y] [v] fy ∧ fy.Nodup ∧ (∀ s b, b ∈ fy → b ∉ F' s) ∧ (∀ b, b ∈ fy → ∃ s, b ∈ F s) ∧ (∀ s b, b ∈ F' s → b ∈ F s) := by
  cases e with
  | cl f l =>
    simp only [takC] at hf
    split at hf
    rotate_left
    · cases hf
    rename_i hp
    cases hf
    rw [List.all_eq_true] at hp
    refine ⟨F, [], h, ?_, List.nodup_nil, by simp, by simp, fun _ _ h => h⟩
    rw [show v = .func (.func f) #[] (l.map (tm a)).toArray from ha]
    have hR : ∀ l : List Nat, (∀ s ∈ l, pureB (cont Γ s) = true) → R S w (l.map fun s => cont Γ s) (l.map (tm a)) [] := by
      intro l
      induction l with
      | nil => intro _; exact .nil
      | cons s l ih =>
        intro hp
        have := h.slots s
        rw [this.pure1 (hp s (by simp))] at this
        exact R.cons (f1 := []) (f2 := []) this (ih fun t ht => hp t (by simp [ht]))
    simpa using R.clo (f := f) (hR l hp) (R.nil (S := S) (w := w))
  | p x => exact tak_ok h (show tak Γ (.p x) = some (Γ1, y) from hf) ha hc
  | al r q => exact tak_ok h (show tak Γ (.al r q) = some (Γ1, y) from hf) ha hc
  | pa r q i j => exact tak_ok h (show tak Γ (.pa r q i j) = some (Γ1, y) from hf) ha hc
  | ag r q i j n => exact tak_ok h (show tak Γ (.ag r q i j n) = some (Γ1, y) from hf) ha hc
  | bx e => exact tak_ok h (show tak Γ (.bx e) = some (Γ1, y) from hf) ha hc
theorem takP_ok : ∀ {l : List (Nat × Operand)} {F Γ Γ1 ys}, G C S F Γ a w → takP Γ l = some (Γ1, ys) →
    ∃ F' fy, G C S F' Γ1 a w ∧ R S w (ys.map (·.2)) (l.map fun z => a.eval z.2) fy ∧ fy.Nodup ∧ (∀ s b, b ∈ fy → b ∉ F' s) ∧ (∀ b, b ∈ fy → ∃ s, b ∈ F s) ∧ (∀ s b, b ∈ F' s → b ∈ F s) ∧ ys.map (·.1) = l.map (·.1) ∧ ∀ y ∈ ys, leafB y.2 = true := by
  intro l
  induction l with
  | nil => intro F Γ Γ1 ys h hf; simp only [takP] at hf; cases hf; exact ⟨F, [], h, .nil, List.nodup_nil, by simp, by simp, fun _ _ h => h, rfl, by simp⟩
  | cons ix l ih =>
    obtain ⟨i, x⟩ := ix
    intro F Γ Γ1 ys h hf
    simp only [takP] at hf
    split at hf
    rotate_left
    · cases hf
    rename_i Γ2 y hy
    split at hf
    rotate_left
    · cases hf
    rename_i hly
    split at hf
    rotate_left
    · cases hf
    rename_i Γ3 ys' hys
    cases hf
    obtain ⟨ha, hc⟩ := h.rdAli x
    obtain ⟨F1, f1, t1, t2, t3, t4, t5, t6⟩ := takC_ok h hy ha hc
    obtain ⟨F2, f2, g1, g2, g3, g4, g5, g6, g7, g8⟩ := ih t1 hys
    refine ⟨F2, f1 ++ f2, g1, by simpa using R.cons t2 g2, ?_, ?_, ?_, ?_, by simp [g7], ?_⟩
    · rw [List.nodup_append]; exact ⟨t3, g3, fun b hb c hc e => by subst e; obtain ⟨s, hs⟩ := g5 b hc; exact t4 s b hb hs⟩
    · intro s b hb; rcases List.mem_append.1 hb with hb | hb
      · exact fun hs => t4 s b hb (g6 s b hs)
      · exact g4 s b hb
    · intro b hb; rcases List.mem_append.1 hb with hb | hb
      · exact t5 b hb
      · obtain ⟨s, hs⟩ := g5 b hb; exact ⟨s, t6 s b hs⟩
    · exact fun s b hb => t6 s b (g6 s b hb)
    · intro z hz
      rcases List.mem_cons.1 hz with rfl | hz
      · exact hly
      · exact g8 z hz
theorem R.setOwn {xs : List V} {vs : List Value} {f0 : List Nat} (h : R S w xs vs f0) {y : V} {u : Value} {fy : List Nat} (hy : R S w [y] [u] fy) (hn : (f0 ++ fy).Nodup) (p : Nat) (hp : p < xs.length) :
    ∃ f', R S w (xs.set p y) (vs.set p u) f' ∧ f'.Nodup ∧ ∀ b, b ∈ f' → b ∈ f0 ∨ b ∈ fy := by
  have hl := h.length
  obtain ⟨x, hx⟩ : ∃ x, xs[p]? = some x := ⟨xs[p], List.getElem?_eq_getElem hp⟩
  obtain ⟨v, a0, a1, a2, h1, h2, h3, h4, h5⟩ := h.at p x hx
  have := R.append h4 (R.cons hy h5)
  refine ⟨a0 ++ (fy ++ a2), ?_, ?_, ?_⟩
  · rw [List.set_eq_take_append_cons_drop, if_pos hp, List.set_eq_take_append_cons_drop, if_pos (by omega)]
    exact this
  · rw [h2] at hn
    simp only [List.nodup_append, List.mem_append] at *
    obtain ⟨⟨⟨b1, b2, b3⟩, b4, b5⟩, b6, b7⟩ := hn
    refine ⟨b1, ⟨b6, b4, fun x hx y hy e => b7 y (.inr hy) x hx e.symm⟩, fun x hx y hy e => ?_⟩
    rcases hy with hy | hy
    · exact b7 x (.inl (.inl hx)) y hy e
    · exact b5 x (.inl hx) y hy e
  · intro b hb
    rw [h2]
    simp only [List.mem_append] at *
    rcases hb with hb | hb | hb
    · exact .inl (.inl (.inl hb))
    · exact .inr hb
    · exact .inl (.inr hb)
theorem bldO_ok {flds : List (Nat × Nat)} : ∀ {ys : List (Nat × V)} {vals : List Value} {cells cells' : List V} {cs : Array Value} {f0 fy : List Nat}, bldO flds cells ys = some cells' → R S w cells cs.toList f0 → R S w (ys.map (·.2)) vals fy → (f0 ++ fy).Nodup → (∀ y ∈ ys, leafB y.2 = true) → (∀ u ∈ cs.toList, u.oneCell' = true) →
    ∃ cs' f', Instr.fill (flds[·]?) cs ((ys.map (·.1)).zip vals) = some cs' ∧ R S w cells' cs'.toList f' ∧ f'.Nodup ∧ (∀ b, b ∈ f' → b ∈ f0 ∨ b ∈ fy) ∧ (∀ u ∈ cs'.toList, u.oneCell' = true) := by
  intro ys
  induction ys with
  | nil =>
    intro vals cells cells' cs f0 fy hb hR hv hn _ h1
    simp only [bldO] at hb; cases hb
    exact ⟨cs, f0, by simp [Instr.fill], hR, (List.nodup_append.1 hn).1, fun b hb => .inl hb, h1⟩
  | cons iy ys ih =>
    obtain ⟨i, y⟩ := iy
    intro vals cells cells' cs f0 fy hb hR hv hn hc h1
    obtain ⟨v, us, f1, f2, rfl, rfl, g1, g2⟩ := R.uncons hv
    simp only [bldO] at hb
    split at hb
    rotate_left
    · cases hb
    rename_i off size hfl
    split at hb
    rotate_left
    · cases hb
    rename_i hsz
    obtain ⟨rfl, hoff⟩ := hsz
    have hv1 := R.leafV g1 (hc (i, y) (by simp))
    have e1 : v.cells = #[v] := by cases v <;> simp_all [Value.cells, Value.oneCell']
    have hcl : cells.length = cs.size := by rw [hR.length]; simp
    have hn' := List.nodup_append.1 hn
    have hn12 := List.nodup_append.1 hn'.2.1
    obtain ⟨f', k1, k2, k3⟩ := R.setOwn hR g1 (List.nodup_append.2 ⟨hn'.1, hn12.1, fun x hx y hy e => hn'.2.2 x hx y (by simp [hy]) e⟩) off hoff
    have hset : (cs.setIfInBounds off v).toList = cs.toList.set off v := by simp
    rw [← hset] at k1
    obtain ⟨cs', f'', m1, m2, m3, m4, m5⟩ := ih hb k1 g2 (List.nodup_append.2 ⟨k2, hn12.2.1, fun x hx y hy e => by
        subst e
        rcases k3 x hx with h | h
        · exact hn'.2.2 x h x (by simp [hy]) rfl
        · exact hn12.2.2 x h x hy rfl⟩) (fun z hz => hc z (by simp [hz])) (fun u hu => by
      rw [hset] at hu
      rcases List.mem_or_eq_of_mem_set hu with hu | rfl
      · exact h1 u hu
      · exact hv1)
    refine ⟨cs', f'', ?_, m2, m3, fun b hb => ?_, m5⟩
    · simp only [List.map_cons, List.zip_cons_cons, Instr.fill, hfl]
      have hno : ¬ (v.cells.size ≠ 1 ∨ off + v.cells.size > cs.size) := by
        rw [e1]; simp; omega
      simp only [Bool.or_eq_true, decide_eq_true_eq]
      rw [if_neg (by simpa using hno)]
      rw [e1]
      simpa using m1
    · rcases m4 b hb with h | h
      · rcases k3 b h with h | h
        · exact .inl h
        · exact .inr (by simp [h])
      · exact .inr (by simp [h])
theorem evBuildO_ok (h : G C S F Γ a w) {t : TypeId} {parts : Array (Nat × Operand)} {e : E} (he : evBuildO P Γ t parts = some (Γ1, e)) :
    ∃ v, (Instr.build t (parts.map fun z => (z.1, a.eval z.2))).run P w = .ok v w ∧ Out C Γ1 e a w v := by
  simp only [evBuildO] at he
  split at he
  rotate_left
  · cases he
  rename_i ht
  obtain ⟨i, d, z, h1, h2, h3, h4, h5, h6, h7, h8, h9, h10⟩ := ti_ok ht.1
  rw [h4] at ht
  have hd : ∃ fs, d = .struct fs := by cases d <;> simp [kOf] at ht; exact ⟨_, rfl⟩
  obtain ⟨fs, rfl⟩ := hd
  obtain ⟨hfl, hpl⟩ := h10 fs rfl
  split at he
  rotate_left
  · cases he
  rename_i Γ2 ys hys
  split at he
  rotate_left
  · cases he
  rename_i cells hb
  cases he
  obtain ⟨F2, fy, g1, g2, g3, g4, g5, g6, g7, g8⟩ := takP_ok h hys
  have hz0 : R S w (zeroV (ti P t).zero) z.cells.toList [] := by rw [h7]; exact R.zero _
  obtain ⟨cs', f', k1, k2, k3, k4, k5⟩ := bldO_ok hb hz0 g2 (by simpa using g3) g8 h8
  rw [zip_map_eval a.eval g7] at k1
  have hbuilt : P.built t (parts.map fun z => (z.1, a.eval z.2)).toList = some cs' := by
    have hpl' := hpl
    simp only [places] at hpl'
    simp only [Program.built, h1, h2, h3, hpl']
    simpa using k1
  have hsub : ∀ b, b ∈ f' → b ∈ fy := fun b hb => by
    rcases k4 b hb with h | h
    · cases h
    · exact h
  refine ⟨_, run_build w t _ cs' hbuilt, S, F2, f', g1, ?_, k3, fun s b hb => g4 s b (hsub b hb), fun b o hb => ?_, fun b hb => ?_, trivial⟩
  · have := R.agg (xs := []) (vs := []) (fp := []) k2 (by simpa using k5) .nil
    simpa [E.cont] using this
  · obtain ⟨s, hs⟩ := g5 b (hsub b hb); exact h.apart s b o hs
  · obtain ⟨s, hs⟩ := g5 b (hsub b hb); exact h.mine s b hs
end
end Go.Am
end
section
namespace Go.Am
open Go.RowKit
section
variable {S : Nat → Nat → Prop} {w : World} {P : Program}
theorem flat_cut {l : List V} {es : Nat} (h : ∀ y ∈ l, y.cells.length = es) (lo hi : Nat) : ((l.take hi).drop lo).flatMap V.cells = ((l.flatMap V.cells).take (hi * es)).drop (lo * es) := by
  have ht : ∀ (l : List V) (n : Nat), (∀ y ∈ l, y.cells.length = es) → (l.take n).flatMap V.cells = (l.flatMap V.cells).take (n * es) := by
    intro l
    induction l with
    | nil => intros; simp
    | cons y l ih =>
      intro n hl
      cases n with
      | zero => simp
      | succ n =>
        simp only [List.take_succ_cons, List.flatMap_cons]
        rw [ih n (fun z hz => hl z (by simp [hz])), Nat.add_mul, Nat.one_mul, List.take_append, hl y (by simp)]
        have hy := hl y (by simp)
        rw [List.take_of_length_le (l := y.cells) (by omega), show n * es + es - es = n * es by omega]
  have hd : ∀ (l : List V) (n : Nat), (∀ y ∈ l, y.cells.length = es) → (l.drop n).flatMap V.cells = (l.flatMap V.cells).drop (n * es) := by
    intro l
    induction l with
    | nil => intros; simp
    | cons y l ih =>
      intro n hl
      cases n with
      | zero => simp
      | succ n =>
        simp only [List.drop_succ_cons, List.flatMap_cons]
        rw [ih n (fun z hz => hl z (by simp [hz])), Nat.add_mul, Nat.one_mul, List.drop_append, hl y (by simp)]
        have hy := hl y (by simp)
        rw [List.drop_eq_nil_of_le (as := y.cells) (by omega), List.nil_append, show n * es + es - es = n * es by omega]
  rw [hd _ _ (fun y hy => h y (List.mem_of_mem_take hy)), ht _ _ h]
theorem R.cut {l : List V} {v : Value} (h : R S w [.sl l] [v] []) {size : Nat} (hs : 0 < size) (hl : ∀ y ∈ l, y.cells.length = size) {lo hi : Nat} (h1 : lo ≤ hi) (h2 : hi ≤ l.length) :
    ∃ base cap, v = .slice base l.length cap ∧ l.length ≤ cap ∧ R S w [.sl ((l.take hi).drop lo)] [.slice (if cap = lo then base else base.map (·.add (lo * size))) (hi - lo) (cap - lo)] [] := by
  have hcl : ((l.take hi).drop lo).length = hi - lo := by simp; omega
  by_cases he : hi - lo = 0
  · have hnil : (l.take hi).drop lo = [] := List.eq_nil_of_length_eq_zero (by omega)
    cases h with
    | sl0 hh => cases hh; exact ⟨_, _, rfl, Nat.zero_le _, by rw [hnil, he]; exact .sl0 .nil⟩
    | sl b o cap es g1 g2 g3 g4 g5 g6 g7 g8 hh => cases hh; exact ⟨_, _, rfl, g7, by rw [hnil, he]; exact .sl0 .nil⟩
  · cases h with
    | sl0 hh => simp at h2; omega
    | @sl _ cs _ _ _ b o cap es g1 g2 g3 g4 g5 g6 g7 g8 hh =>
      cases hh
      have hes : es = size := by
        cases l with
        | nil => exact absurd rfl g1
        | cons y l => rw [← g3 y (by simp)]; exact hl y (by simp)
      subst hes
      refine ⟨_, _, rfl, g7, ?_⟩
      rw [if_neg (by omega)]
      simp only [Option.map_some, Addr.add_lit]
      have hR : R S w (((l.take hi).drop lo).flatMap V.cells) ((cs.take (hi * es)).drop (lo * es)) [] := by
        rw [flat_cut hl]
        have := g4.sub 0 (hi * es)
        simp only [List.drop_zero] at this
        have h3 := this.sub (lo * es) (cs.length + (l.flatMap V.cells).length)
        have q1 : (((l.flatMap V.cells).take (hi * es)).drop (lo * es)).length ≤ cs.length + (l.flatMap V.cells).length := by simp only [List.length_drop, List.length_take]; omega
        have q2 : ((cs.take (hi * es)).drop (lo * es)).length ≤ cs.length + (l.flatMap V.cells).length := by simp only [List.length_drop, List.length_take]; omega
        rw [List.take_of_length_le q1, List.take_of_length_le q2] at h3
        exact h3
      have hcs : cs.length = l.length * es := by rw [← g4.length]; exact flat_len g3
      have hhe : hi * es ≤ l.length * es := Nat.mul_le_mul_right _ h2
      have := R.sl (S := S) (w := w) (xs := []) (vs := []) (fp := []) b (o + lo * es) (cap - lo) es (fun e => by rw [e] at hcl; simp at hcl; omega) g2 (fun y hy => hl y (List.mem_of_mem_take (List.mem_of_mem_drop hy))) hR
        (fun u hu => g5 u (List.mem_of_mem_take (List.mem_of_mem_drop hu))) (fun k hk => by
          simp only [List.length_drop, List.length_take] at hk
          have := g6 (lo * es + k) (by omega)
          rw [Nat.add_assoc]
          refine ⟨this.1, ?_⟩
          rw [this.2, List.getElem?_drop, List.getElem?_take_of_lt (by omega)]) (by rw [hcl]; omega) (by omega) R.nil
      rw [hcl] at this
      exact this
theorem run_bound (k : IntKind) (n : Int) (y : Nat) (c : BoundsCode) (w : World) (h0 : 0 ≤ n) (h1 : n ≤ y) : (Instr.sliceBound (.int k n) y c).run P w = .ok n.toNat w := by
  simp [Instr.sliceBound, asIntOf, h0, h1]
theorem run_cut {t e : TypeId} (ht : P.underlying t = some (.slice e)) (hte : (ti P e).ok = true) (base : Option Addr) (len cap : Nat) (lo hi : Option Value) (L H : Nat)
    (hlo : lo = none ∧ L = 0 ∨ ∃ k n, lo = some (.int k n) ∧ 0 ≤ n ∧ n.toNat = L) (hhi : hi = none ∧ H = len ∨ ∃ k n, hi = some (.int k n) ∧ 0 ≤ n ∧ n.toNat = H) (h1 : L ≤ H) (h2 : H ≤ cap) (w : World) :
    (Instr.sliceAt t (.slice base len cap) lo hi none).run P w = .ok (.slice (if cap = L then base else base.map (·.add (L * (ti P e).size))) (H - L) (cap - L)) w := by
  have hb : (Instr.sliceBounds true len cap lo hi none).run P w = .ok (L, H, cap) w := by
    rcases hlo with ⟨rfl, rfl⟩ | ⟨k, n, rfl, hn, rfl⟩ <;> rcases hhi with ⟨rfl, rfl⟩ | ⟨k', n', rfl, hn', rfl⟩
    · simp [Instr.sliceBounds]
    · simp [Instr.sliceBounds, run_bound k' n' cap _ w hn' (by omega)]
    · simp [Instr.sliceBounds, run_bound k n H _ w hn (by omega)]
    · simp [Instr.sliceBounds, run_bound k' n' cap _ w hn' (by omega), run_bound k n n'.toNat _ w hn (by omega)]
  simp only [Instr.sliceAt, Sem.run_bind, run_underlying ht, Result.andThen_ok, Instr.slice, hb, run_size hte, Sem.run_pure]
end
def evUn (Γ : Env) (op : UnOp) (x : Operand) : Option (Env × E) :=
  match op, look Γ (rd Γ x) with
  | .not, .c (.bool b) => some (Γ, .p (.c (.bool !b)))
  | .neg, .c (.int k n) => some (Γ, .p (.c (.int k (k.wrap (0 - n)))))
  | _, _ => none
def u8L : List V → Option (List Int)
  | [] => some []
  | .c (.int .u8 n) :: l => (u8L l).map (n :: ·)
  | _ => none
def bytesOf (ns : List Int) : ByteArray := ns.foldl (fun r n => r.push (UInt8.ofNat n.toNat)) ByteArray.empty
theorem u8L_eq : ∀ {l : List V} {ns : List Int}, u8L l = some ns → l = (ns.map (Value.int .u8)).map V.c := by
  intro l
  induction l with
  | nil => intro ns h; simp only [u8L] at h; cases h; rfl
  | cons x l ih =>
    intro ns h
    unfold u8L at h
    split at h
    · rename_i e; cases e
    · rename_i n l' e
      cases e
      simp only [Option.map_eq_some_iff] at h
      obtain ⟨ns', h1, rfl⟩ := h
      rw [ih h1]; rfl
    · cases h
theorem R.consts {S : Nat → Nat → Prop} {w : World} : ∀ {vs us : List Value} {fp : List Nat}, R S w (vs.map V.c) us fp → us = vs ∧ fp = [] := by
  intro vs
  induction vs with
  | nil => intro us fp h; cases h; exact ⟨rfl, rfl⟩
  | cons v vs ih =>
    intro us fp h
    cases h with
    | c h => obtain ⟨rfl, rfl⟩ := ih h; exact ⟨rfl, rfl⟩
theorem run_bytes {P : Program} {S : Nat → Nat → Prop} {w : World} {src dst e : TypeId} {ns : List Int} {v : Value} (hs : P.underlying src = some (.slice e)) (he : P.underlying e = some (.int .u8)) (hd : P.underlying dst = some .string)
    (hR : R S w [.sl ((ns.map (Value.int .u8)).map V.c)] [v] []) : (convert src dst v).run P w = .ok (.string (bytesOf ns)) w := by
  generalize hL : (ns.map (Value.int .u8)).map V.c = L at hR
  cases hR with
  | @sl0 ad cap _ _ _ hh =>
    have : ns = [] := by cases ns with
      | nil => rfl
      | cons n ns => simp at hL
    subst this
    rw [run_convert_bytes_string w src dst e ad 0 cap hs he hd]
    cases ad with
    | none => rfl
    | some ad => exact run_bytesToString w ad 0 cap [] (by simpa using run_loadCells_list (P := P) w ad [] (by simp))
  | @sl _ cs _ _ _ b o cap es g1 g2 g3 g4 g5 g6 g7 g8 hh =>
    subst hL
    have e1 : ((ns.map (Value.int .u8)).map V.c).flatMap V.cells = (ns.map (Value.int .u8)).map V.c := by
      clear g1 g3 g4 g5 g7
      induction ns with
      | nil => rfl
      | cons n ns ih => simp only [List.map_cons, List.flatMap_cons, V.cells, List.cons_append, List.nil_append]; simpa using ih
    rw [e1] at g4
    obtain ⟨rfl, _⟩ := R.consts g4
    rw [run_convert_bytes_string w src dst e _ _ cap hs he hd]
    refine run_bytesToString w _ _ cap ns ?_
    have hl := run_loadCells_list (P := P) w ⟨b, o, none⟩ (ns.map (Value.int .u8)) (fun j u hu => by
      have hj : j < (ns.map (Value.int .u8)).length := by
        rcases Nat.lt_or_ge j (ns.map (Value.int .u8)).length with h | h
        · exact h
        · rw [List.getElem?_eq_none h] at hu; cases hu
      rw [Addr.add_lit, (g6 j hj).2]; exact hu)
    simpa using hl
def evConv (P : Program) (Γ : Env) (src dst : TypeId) (x : Operand) : Option (Env × E) :=
  if (ti P src).ok = true ∧ (ti P dst).ok = true then
    match (ti P dst).k, look Γ (rd Γ x) with
    | .int k, .c (.int _ n) => some (Γ, .p (.c (.int k (k.wrap n))))
    | .string, .c (.string s) => some (Γ, .p (.c (.string s)))
    | .string, .sl l => match (ti P src).k with
      | .slice e => if (ti P e).ok = true ∧ (ti P e).k = .int .u8 then (match u8L l with
        | some ns => some (Γ, .p (.c (.string (bytesOf ns))))
        | none => none) else none
      | _ => none
    | _, _ => none
  else none
def evNil (Γ : Env) (x : Operand) : Option (Env × E) :=
  match rd Γ x with
  | .p (.ip l o) => some (Γ, .p (.ip l o))
  | e => match adr Γ e with
    | some (r, q, i, _) => match (cont Γ r).getP q with
      | some D => match D.row i with
        | some _ => some (Γ, e)
        | none => none
      | none => none
    | none => none
def evIndex (P : Program) (Γ : Env) (t : TypeId) (x ix : Operand) : Option (Env × E) :=
  if (ti P t).ok = true ∧ (ti P t).k = .string then
    match look Γ (rd Γ x), look Γ (rd Γ ix) with
    | .c (.string s), .c (.int _ n) => if n < 0 then none else match s.data[n.toNat]? with
      | some b => some (Γ, .p (.c (.int .u8 b.toNat)))
      | none => none
    | _, _ => none
  else none
def evPick (Γ : Env) (c x y : Operand) : Option (Env × E) :=
  match look Γ (rd Γ c) with
  | .c (.bool b) => some (Γ, if b then rd Γ x else rd Γ y)
  | _ => none
def cOf : V → Option Value
  | .c v => some v
  | _ => none
def plain : V → Option Value
  | .c v => some v
  | .agg l => (l.mapM cOf).map fun (cs : List Value) => Value.agg cs.toArray
  | _ => none
def tmpOf : Operand → Option Nat
  | .tmp t => some t
  | _ => none
def evIface (P : Program) (Γ : Env) (t : TypeId) (x : Operand) : Option (Env × E) :=
  if (ti P t).ok = true ∧ (ti P t).k ≠ .iface then
    match plain (look Γ (rd Γ x)) with
    | some v => some (Γ, .p (.c (.iface t v)))
    | none => none
  else none
def evFunc (Γ : Env) (fn : Fn) (first cap : Array Operand) : Option (Env × E) :=
  match fn with
  | .func f =>
    if first.size = 0 then
      match cap.toList.mapM tmpOf with
      | some l => some (Γ, .cl f l)
      | none => none
    else none
  | _ => none
def fldT (P : Program) (t : TypeId) (f : Nat) : Option (TypeId × Nat) :=
  match P.underlying t with
  | some (.struct fs) => (fs[f]?).map fun x => (x.type, x.offset)
  | _ => none
def evField (P : Program) (Γ : Env) (t : TypeId) (x : Operand) (f : Nat) : Option (Env × E) :=
  match fldT P t f, look Γ (rd Γ x) with
  | some (ft, off), .agg l => if (ti P ft).ok = true ∧ (ti P ft).agg = false then
      match l[off]? with
      | some (.c v) => some (Γ, .p (.c v))
      | _ => none
    else none
  | _, _ => none
def ev (P : Program) (Γ : Env) (o : Op) : Option (Env × E) :=
  match o with
  | .move x => some (Γ, rd Γ x)
  | .assign x => match rd Γ x with
    | .al r q => match tak Γ (.al r q) with
      | some (Γ1, y) => some (Γ1, .p y)
      | none => none
    | e => some (Γ, e)
  | .pick c x y => evPick Γ c x y
  | .alloc t => if (ti P t).ok then some (Γ, .p (.own (zeroV (ti P t).zero))) else none
  | .box _ x => evBox Γ x
  | .build t parts => if ownB (ti P t).zero parts.size then evBuildO P Γ t parts else evBuild P Γ t parts
  | .buildSlice t n parts => evBuildSlice P Γ t n parts
  | .load t x => evLoad P Γ t x
  | .store t x y => evStore P Γ t x y
  | .nilCheck x => evNil Γ x
  | .binOp op t x y _ => evBin P Γ op t x y
  | .unOp op _ x => evUn Γ op x
  | .convert s d x => evConv P Γ s d x
  | .makeInterface t x => evIface P Γ t x
  | .makeFunc fn first cap => evFunc Γ fn first cap
  | .slice t x lo hi mx => evSlice P Γ t x lo hi mx
  | .fieldAddr t x f => evFieldAddr P Γ t x f
  | .indexAddr t x i => evIndexAddr P Γ t x i
  | .index t x i => evIndex P Γ t x i
  | .field t x f => evField P Γ t x f
  | .extract x i => evExtract Γ x i
  | .makeMap _ none => some (Γ, .p (.mp []))
  | .lookup t x k ok => evLookup P Γ t x k ok
  | .mapUpdate t x k y => evMapUpd P Γ t x k y
  | .call { callee := .builtin .len, args := ⟨[x]⟩, argTypes := ⟨[t]⟩ } => evLen P Γ t x
  | .call { callee := .builtin .max, args := ⟨[x, y]⟩, argTypes := _ } => evMax Γ x y
  | .call { callee := .builtin .append, args := ⟨[s, x]⟩, argTypes := ⟨[t, u]⟩ } => if u = t then evAppend P Γ t s x else none
  | _ => none
section
variable {C : Ctx} {S S' : Nat → Nat → Prop} {F : Nat → List Nat} {Γ Γ1 : Env} {a : Act} {w w' : World} {P : Program}
theorem evSlice_ok (h : G C S F Γ a w) {t : TypeId} {x : Operand} {lo hi mx : Option Operand} {e : E} (he : evSlice P Γ t x lo hi mx = some (Γ1, e)) :
    ∃ v, (Instr.sliceAt t (a.eval x) (lo.map a.eval) (hi.map a.eval) (mx.map a.eval)).run P w = .ok v w ∧ Out C Γ1 e a w v := by
  have kint0 : ∀ o : Operand, ∀ n, kInt (look Γ (rd Γ o)) = some n → ∃ k, a.eval o = .int k n := by
    intro o n hn
    cases hlk : look Γ (rd Γ o) with
    | c v =>
      rw [hlk] at hn
      cases v <;> simp [kInt] at hn
      subst hn
      exact ⟨_, lookInt h hlk⟩
    | _ => rw [hlk] at hn; simp [kInt] at hn
  unfold evSlice at he
  split at he
  · rename_i mo
    split at he
    rotate_left
    · cases he
    rename_i ho el hk
    split at he
    rotate_left
    · cases he
    rename_i ht
    obtain ⟨ht, hte, hsz⟩ := ht
    obtain ⟨i, d, z, h1, h2, h3, h4, hrest⟩ := ti_ok ht
    clear hrest
    rw [h4] at hk
    cases d <;> simp [kOf] at hk
    subst hk
    split at he
    rotate_left
    · cases he
    rename_i Γ2 l hfz
    split at he
    rotate_left
    · cases he
    rename_i H M hH hM
    obtain ⟨⟨hb1, hb2, hb3⟩, he⟩ := chk_some he
    cases he
    obtain ⟨ha, hc⟩ := h.rdAli x
    obtain ⟨S', F', g1, g2, g3⟩ := frz_ok h hfz ha hc
    obtain ⟨k1, hk1⟩ := kint0 ho H hH
    obtain ⟨k2, hk2⟩ := kint0 mo M hM
    generalize a.eval x = v at g2 ⊢
    cases g2 with
    | sl0 hh => simp at hb3
    | @sl _ cs _ _ _ b o cap es q1 q2 q3 q4 q5 q6 q7 q8 hh =>
      cases hh
      have hbn : (Instr.sliceBounds true l.length cap none (some (.int k1 H)) (some (.int k2 M))).run P w = .ok (0, l.length, l.length) w := by
        simp [Instr.sliceBounds, hb1, hb2, run_bound k2 (l.length : Int) cap _ w (by omega) (by omega), run_bound k1 (l.length : Int) l.length _ w (by omega) (by omega)]
      refine ⟨.slice (some ⟨b, o, none⟩) l.length l.length, ?_, Out.pure g1 (R.ti b o es q1 q2 q3 q4 q5 q6 (by omega) .nil)⟩
      have hln : ¬ l.length = 0 := by omega
      simp [Instr.sliceAt, Sem.run_bind, run_underlying h2, Result.andThen_ok, Instr.slice, hk1, hk2, hbn, run_size hte, Sem.run_pure, hln, Addr.add_lit]
  split at he
  rotate_left
  · cases he
  rename_i el hk
  split at he
  rotate_left
  · cases he
  rename_i ht
  obtain ⟨ht, hte, hsz⟩ := ht
  obtain ⟨i, d, z, h1, h2, h3, h4, hrest⟩ := ti_ok ht
  clear hrest
  rw [h4] at hk
  cases d <;> simp [kOf] at hk
  rename_i el2
  subst hk
  split at he
  rotate_left
  · cases he
  rename_i Γ2 l hfz
  split at he
  rotate_left
  · cases he
  rename_i hl
  obtain ⟨ha, hc⟩ := h.rdAli x
  obtain ⟨S', F', g1, g2, g3⟩ := frz_ok h hfz ha hc
  simp only at he
  split at he
  rotate_left
  · cases he
  rename_i L H hL hH
  obtain ⟨hb, he⟩ := chk_some he
  cases he
  have kint : ∀ o : Operand, ∀ n, kInt (look Γ (rd Γ o)) = some n → ∃ k, a.eval o = .int k n := by
    intro o n hn
    cases hlk : look Γ (rd Γ o) with
    | c v =>
      rw [hlk] at hn
      cases v <;> simp [kInt] at hn
      subst hn
      exact ⟨_, lookInt h hlk⟩
    | _ => rw [hlk] at hn; simp [kInt] at hn
  obtain ⟨base, cap, hv, hcap, hR⟩ := R.cut g2 (by omega) hl (lo := L.toNat) (hi := H.toNat) (by omega) (by omega)
  rw [hv]
  have hlo : lo.map a.eval = none ∧ L.toNat = 0 ∨ ∃ k n, lo.map a.eval = some (.int k n) ∧ 0 ≤ n ∧ n.toNat = L.toNat := by
    cases lo with
    | none => cases hL; exact .inl ⟨rfl, rfl⟩
    | some o => obtain ⟨k, hk⟩ := kint o L hL; exact .inr ⟨k, L, by simp [hk], by omega, rfl⟩
  have hhi : hi.map a.eval = none ∧ H.toNat = l.length ∨ ∃ k n, hi.map a.eval = some (.int k n) ∧ 0 ≤ n ∧ n.toNat = H.toNat := by
    cases hi with
    | none => cases hH; exact .inl ⟨rfl, by omega⟩
    | some o => obtain ⟨k, hk⟩ := kint o H hH; exact .inr ⟨k, H, by simp [hk], by omega, rfl⟩
  exact ⟨_, run_cut h2 hte base l.length cap _ _ L.toNat H.toNat hlo hhi (by omega) (by omega) w, Out.pure g1 hR⟩
theorem evMax_ok (h : G C S F Γ a w) {ts : Array TypeId} {ty : TypeId} {x y : Operand} {e : E} (he : evMax Γ x y = some (Γ1, e)) :
    ∃ v, (Builtin.max_ ts ty #[a.eval x, a.eval y]).run P w = .ok v w ∧ Out C Γ1 e a w v := by
  unfold evMax at he
  split at he
  · rename_i m n hx hy
    cases he
    refine ⟨.int .i64 (if m < n then n else m), ?_, Out.pure h (.c .nil)⟩
    rw [lookInt h hx, lookInt h hy]
    simp [Builtin.max_, Builtin.max2]
    first | done | (split <;> rfl)
  · cases he
theorem evLen_ok (h : G C S F Γ a w) {t ty : TypeId} {x : Operand} {e : E} (he : evLen P Γ t x = some (Γ1, e)) :
    ∃ v, (Builtin.len_ #[t] ty #[a.eval x]).run P w = .ok v w ∧ Out C Γ1 e a w v := by
  unfold evLen at he
  split at he
  rotate_left
  · cases he
  rename_i ht
  obtain ⟨i, d, z, h1, h2, h3, h4, _⟩ := ti_ok ht
  have hlk := h.look x
  split at he
  · rename_i el l hk hlx
    cases he
    rw [h4] at hk
    cases d <;> simp [kOf] at hk
    rw [hlx] at hlk
    have : ∃ base cap, a.eval x = .slice base l.length cap := by
      generalize a.eval x = v at hlk
      cases hlk with
      | sl0 hh => cases hh; exact ⟨_, _, rfl⟩
      | sl b o cap es g1 g2 g3 g4 g5 g6 g7 g8 hh => cases hh; exact ⟨_, _, rfl⟩
    obtain ⟨base, cap, hv⟩ := this
    rw [hv]
    refine ⟨_, ?_, Out.pure h (.c .nil)⟩
    simp [Builtin.len_, run_underlying h2, goInt]
  · rename_i s hk hlx
    cases he
    rw [h4] at hk
    cases d <;> simp [kOf] at hk
    rw [lookInt h hlx]
    refine ⟨_, ?_, Out.pure h (.c .nil)⟩
    simp [Builtin.len_, run_underlying h2, goInt]
  · cases he
theorem plain_ok {S : Nat → Nat → Prop} {x : V} {v u : Value} (h : plain x = some v) (hR : R S w [x] [u] []) : u = v := by
  cases x with
  | c v' => simp [plain] at h; subst h; cases hR with | c hh => rfl
  | agg l =>
    simp only [plain, Option.map_eq_some_iff] at h
    obtain ⟨cs, hcs, rfl⟩ := h
    obtain ⟨f, hf, hR⟩ : ∃ f, f = [] ∧ R S w [.agg l] [u] f := ⟨_, rfl, hR⟩
    cases hR with
    | @agg _ cs' fq _ _ _ h1 h2 h3 =>
      cases h3
      congr 2
      clear h2 hf
      have : ∀ (l : List V) (cs cs' : List Value) (fq : List Nat), l.mapM cOf = some cs → R S w l cs' fq → cs' = cs := by
        intro l
        induction l with
        | nil => intro cs cs' fq h hR; simp at h; subst h; cases hR; rfl
        | cons x l ih =>
          intro cs cs' fq h hR
          simp only [List.mapM_cons, Option.bind_eq_bind, Option.pure_def, Option.bind_eq_some_iff, Option.some.injEq] at h
          obtain ⟨v, hv, cs0, hcs0, rfl⟩ := h
          cases x <;> simp [cOf] at hv
          subst hv
          cases hR with
          | c hh => rw [ih _ _ _ hcs0 hh]
      exact this l cs cs' fq hcs h1
  | _ => simp [plain] at h
theorem Far.alloc (w : World) (ob : Obj) : Far [] w (w.alloc ob) := ⟨rfl, rfl, rfl, by simp, fun k hk _ => heap_alloc_old w ob k hk⟩
def loud : Op → Bool
  | .store .. | .box .. | .mapUpdate .. | .call { callee := .builtin .append, .. } => true
  | _ => false
theorem evField_ok (h : G C S F Γ a w) {t : TypeId} {x : Operand} {f : Nat} {e : E} (he : evField P Γ t x f = some (Γ1, e)) : ∃ v, (Instr.field t (a.eval x) f).run P w = .ok v w ∧ Out C Γ1 e a w v := by
  unfold evField at he
  split at he
  rotate_left
  · cases he
  rename_i ft off l hfl hlk
  split at he
  rotate_left
  · cases he
  rename_i hok
  split at he
  rotate_left
  · cases he
  rename_i v hv
  cases he
  have hR := h.look x
  rw [hlk] at hR
  obtain ⟨fp, hfp, hR⟩ : ∃ fp, fp = [] ∧ R (T S F) w [.agg l] [a.eval x] fp := ⟨_, rfl, hR⟩
  generalize a.eval x = u at hR
  cases hR with
  | @agg _ us fq _ _ _ g1 g2 g3 =>
    obtain ⟨u, f0, f1, f2, k1, k2, k3, _⟩ := g1.at off _ hv
    cases k3
    unfold fldT at hfl
    split at hfl
    rotate_left
    · cases hfl
    rename_i fs hu
    rw [Option.map_eq_some_iff] at hfl
    obtain ⟨fd, hfd, hfe⟩ := hfl
    cases hfe
    refine ⟨v, ?_, Out.pure h (.c .nil)⟩
    have hag := run_agg hok.1 w
    rw [hok.2] at hag
    simp only [Instr.field, Sem.run_bind, run_underlying hu, Result.andThen_ok, hfd, asAgg, Sem.run_pure, part, hag]
    simp [k1]
theorem ev_ok (h : G C S F Γ a w) {o : Oper} {e : E} (he : ev P Γ o.op = some (Γ1, e)) :
    ∃ w', ((∃ v, (execOp a.eval o).run P w = .ok (.value v) w' ∧ Out C Γ1 e a w' v) ∨ ((execOp a.eval o).run P w = .ok .skip w' ∧ e = dead ∧ ∃ S' F', G C S' F' Γ1 a w')) ∧ (loud o.op = false → Far [] w w') := by
  generalize hlo : (loud o.op = false) = Lp
  have val : ∀ {s : Sem Value} {w'}, (∃ v, s.run P w = .ok v w' ∧ Out C Γ1 e a w' v) → (Lp → Far [] w w') → execOp a.eval o = (do pure (.value (← s))) →
      ∃ w', ((∃ v, (execOp a.eval o).run P w = .ok (.value v) w' ∧ Out C Γ1 e a w' v) ∨ ((execOp a.eval o).run P w = .ok .skip w' ∧ e = dead ∧ ∃ S' F', G C S' F' Γ1 a w')) ∧ (Lp → Far [] w w') := by
    intro s w' ⟨v, hr, hO⟩ hF hx
    refine ⟨w', .inl ⟨v, ?_, hO⟩, hF⟩
    rw [hx]; simp only [Sem.run_bind, hr, Result.andThen_ok, Sem.run_pure]
  cases hop : o.op with
  | move x =>
    rw [hop] at he; simp only [ev] at he; cases he
    exact ⟨w, .inl ⟨a.eval x, by simp [execOp, hop], Out.ofRd h x⟩, fun _ => Far.refl _ _⟩
  | assign x =>
    rw [hop] at he; simp only [ev] at he
    obtain ⟨ha, hc⟩ := h.rdAli x
    split at he
    · rename_i r q hrd
      split at he
      · rename_i Γ2 y hy
        cases he
        rw [hrd] at ha hc
        exact ⟨w, .inl ⟨a.eval x, by simp [execOp, hop], Out.taken h hy ha hc⟩, fun _ => Far.refl _ _⟩
      · cases he
    · cases he
      exact ⟨w, .inl ⟨a.eval x, by simp [execOp, hop], Out.ofRd h x⟩, fun _ => Far.refl _ _⟩
  | pick c x y =>
    rw [hop] at he; simp only [ev, evPick] at he
    split at he
    · rename_i b hb
      cases he
      have hb' := lookInt h hb
      refine ⟨w, .inl ⟨if b then a.eval x else a.eval y, ?_, ?_⟩, fun _ => Far.refl _ _⟩
      · simp [execOp, hop, hb', asBool]
      · cases b
        · exact Out.ofRd h y
        · exact Out.ofRd h x
    · cases he
  | alloc t =>
    rw [hop] at he; simp only [ev] at he
    split at he
    · rename_i ht
      cases he
      obtain ⟨v, w', hr, hO, ob, rfl⟩ := evAlloc_ok h ht
      exact val (s := Instr.alloc t true (.tuple #[])) (w' := w.alloc ob) ⟨v, hr, hO⟩ (fun _ => Far.alloc _ _) (by simp only [execOp, hop])
    · cases he
  | box t x =>
    rw [hop] at he; simp only [ev] at he
    obtain ⟨v, w', hr, hO⟩ := evBox_ok (P := P) (t := t) h he
    exact val (w' := w') ⟨v, hr, hO⟩ (fun hl => by rw [← hlo, hop] at hl; simp [loud] at hl) (by simp only [execOp, hop])
  | build t parts =>
    rw [hop] at he; simp only [ev] at he
    split at he
    · exact val (w' := w) (evBuildO_ok h he) (fun _ => Far.refl _ _) (by simp only [execOp, hop])
    · exact val (w' := w) (evBuild_ok h he) (fun _ => Far.refl _ _) (by simp only [execOp, hop])
  | buildSlice t n parts =>
    rw [hop] at he; simp only [ev] at he
    obtain ⟨v, w', hr, hO, ob, rfl⟩ := evBuildSlice_ok h he
    exact val (w' := w.alloc ob) ⟨v, hr, hO⟩ (fun _ => Far.alloc _ _) (by simp only [execOp, hop])
  | load t x =>
    rw [hop] at he; simp only [ev] at he
    exact val (w' := w) (evLoad_ok h he) (fun _ => Far.refl _ _) (by simp only [execOp, hop])
  | store t x y =>
    rw [hop] at he; simp only [ev] at he
    obtain ⟨w', hr, hd, hG⟩ := evStore_ok h he
    refine ⟨w', .inr ⟨?_, hd, hG⟩, fun hl => by rw [← hlo, hop] at hl; simp [loud] at hl⟩
    simp only [execOp, hop, Sem.run_bind, hr, Result.andThen_ok, Sem.run_pure]
  | makeMap t rs =>
    rw [hop] at he
    cases rs with
    | some x => simp only [ev] at he; cases he
    | none =>
      simp only [ev] at he; cases he
      exact val (s := Instr.makeMap t none) (w' := w.alloc (.map #[] 0)) ⟨_, rfl, Out.map h⟩ (fun _ => Far.alloc _ _) (by simp only [execOp, hop]; rfl)
  | lookup t x k ok =>
    rw [hop] at he; simp only [ev] at he
    exact val (w' := w) (evLookup_ok h he) (fun _ => Far.refl _ _) (by simp only [execOp, hop])
  | mapUpdate t x k y =>
    rw [hop] at he; simp only [ev] at he
    obtain ⟨w', hr, hd, hG⟩ := evMapUpd_ok h he
    refine ⟨w', .inr ⟨?_, hd, hG⟩, fun hl => by rw [← hlo, hop] at hl; simp [loud] at hl⟩
    simp only [execOp, hop, Sem.run_bind, hr, Result.andThen_ok, Sem.run_pure]
  | nilCheck x =>
    rw [hop] at he; simp only [ev, evNil] at he
    obtain ⟨ha, hc⟩ := h.rdAli x
    have hptr : ∀ y, a.eval x = .pointer (some y) → (execOp a.eval o).run P w = .ok (.value (a.eval x)) w := by
      intro y hy; simp only [execOp, hop, hy, Sem.run_pure]
    split at he
    · rename_i l k hrd
      cases he
      rw [hrd] at hc
      obtain ⟨b, o0, cs, hv, _⟩ := R.ipCells (by simpa [E.cont] using hc)
      have := Out.ofRd h x
      rw [hrd] at this
      exact ⟨w, .inl ⟨a.eval x, hptr _ hv, this⟩, fun _ => Far.refl _ _⟩
    · split at he
      rotate_left
      · cases he
      rename_i r q i j hadr
      split at he
      rotate_left
      · cases he
      rename_i D hD
      split at he
      rotate_left
      · cases he
      rename_i cs hcs
      cases he
      obtain ⟨u, x', hu, hx', hv⟩ := adr_ok h hadr ha hD hcs
      exact ⟨w, .inl ⟨a.eval x, hptr _ hv, Out.ofRd h x⟩, fun _ => Far.refl _ _⟩
  | binOp op t x y yt =>
    rw [hop] at he; simp only [ev] at he
    exact val (w' := w) (evBin_ok h he) (fun _ => Far.refl _ _) (by simp only [execOp, hop])
  | unOp op t x =>
    rw [hop] at he; simp only [ev, evUn] at he
    split at he
    · rename_i b hb
      cases he
      have hb' := lookInt h hb
      exact val (s := Op.unary .not (a.eval x)) (w' := w) ⟨.bool !b, by rw [hb']; rfl, Out.pure h (.c .nil)⟩ (fun _ => Far.refl _ _) (by simp only [execOp, hop])
    · rename_i k n hb
      cases he
      have hb' := lookInt h hb
      exact val (s := Op.unary .neg (a.eval x)) (w' := w) ⟨.int k (k.wrap (0 - n)), by rw [hb']; rfl, Out.pure h (.c .nil)⟩ (fun _ => Far.refl _ _) (by simp only [execOp, hop])
    · cases he
  | convert s d x =>
    rw [hop] at he; simp only [ev, evConv] at he
    split at he
    rotate_left
    · cases he
    rename_i ht
    obtain ⟨i, ds, z, h1, h2, h3, h4, _⟩ := ti_ok ht.1
    obtain ⟨i', dd, z', g1, g2, g3, g4, _⟩ := ti_ok ht.2
    split at he
    · rename_i k k' n hk hb
      cases he
      have hb' := lookInt h hb
      rw [g4] at hk
      cases dd <;> simp [kOf] at hk
      subst hk
      refine val (s := convert s d (a.eval x)) (w' := w) ⟨_, ?_, Out.pure h (.c .nil)⟩ (fun _ => Far.refl _ _) (by simp only [execOp, hop])
      rw [hb']
      simp only [convert, Sem.run_bind, run_underlying h2, run_underlying g2, Result.andThen_ok]
      rfl
    · rename_i s' hk hb
      cases he
      have hb' := lookInt h hb
      rw [g4] at hk
      cases dd <;> simp [kOf] at hk
      refine val (s := convert s d (a.eval x)) (w' := w) ⟨.string s', ?_, Out.pure h (.c .nil)⟩ (fun _ => Far.refl _ _) (by simp only [execOp, hop])
      rw [hb']
      simp only [convert, Sem.run_bind, run_underlying h2, run_underlying g2, Result.andThen_ok]
      cases ds <;> rfl
    · rename_i l hk hb
      split at he
      rotate_left
      · cases he
      rename_i el hks
      split at he
      rotate_left
      · cases he
      rename_i hte
      split at he
      rotate_left
      · cases he
      rename_i ns hns
      cases he
      rw [g4] at hk
      cases dd <;> simp [kOf] at hk
      rw [h4] at hks
      cases ds <;> simp [kOf] at hks
      subst hks
      obtain ⟨ie, de, ze, e1, e2, e3, e4, _⟩ := ti_ok hte.1
      have hke := hte.2
      rw [e4] at hke
      cases de <;> simp [kOf] at hke
      subst hke
      have hR := h.look x
      rw [hb, u8L_eq hns] at hR
      exact val (s := convert s d (a.eval x)) (w' := w) ⟨.string (bytesOf ns), run_bytes h2 e2 g2 hR, Out.pure h (.c .nil)⟩ (fun _ => Far.refl _ _) (by simp only [execOp, hop])
    · cases he
  | makeInterface t x =>
    rw [hop] at he; simp only [ev, evIface] at he
    split at he
    rotate_left
    · cases he
    rename_i ht
    obtain ⟨i, d, z, h1, h2, h3, h4, _⟩ := ti_ok ht.1
    split at he
    rotate_left
    · cases he
    rename_i v hv
    cases he
    have hx := plain_ok hv (h.look x)
    refine val (s := Instr.makeInterface t (a.eval x)) (w' := w) ⟨.iface t v, ?_, Out.pure h (.c .nil)⟩ (fun _ => Far.refl _ _) (by simp only [execOp, hop])
    rw [hx]
    simp only [Instr.makeInterface, Sem.run_bind, run_underlying h2, Result.andThen_ok]
    have hne := ht.2
    rw [h4] at hne
    cases d <;> first | rfl | (simp [kOf] at hne)
  | makeFunc fn first cap =>
    rw [hop] at he; simp only [ev, evFunc] at he
    split at he
    rotate_left
    · cases he
    rename_i f
    split at he
    rotate_left
    · cases he
    rename_i h0
    split at he
    rotate_left
    · cases he
    rename_i l hl
    cases he
    have hcap : cap.map a.eval = (l.map (tm a)).toArray := by
      have : ∀ (c : List Operand) (l : List Nat), (c.mapM tmpOf) = some l → c.map a.eval = l.map (tm a) := by
        intro c
        induction c with
        | nil => intro l h; simp at h; subst h; rfl
        | cons x c ih =>
          intro l h
          simp only [List.mapM_cons, Option.bind_eq_bind, Option.pure_def, Option.bind_eq_some_iff, Option.some.injEq] at h
          obtain ⟨t, ht, l0, hl0, rfl⟩ := h
          cases x <;> simp [tmpOf] at ht
          subst ht
          simp only [List.map_cons, ih l0 hl0]
          rfl
      have := this cap.toList l hl
      rw [← this, ← Array.toList_map]
    have hfirst : first.map a.eval = #[] := by
      have : first = #[] := by simpa using h0
      rw [this]; simp
    refine val (s := Instr.makeFunc (.func f) (first.map a.eval) (cap.map a.eval)) (w' := w) ⟨.func (.func f) #[] (l.map (tm a)).toArray, ?_, Out.ali h rfl rfl⟩ (fun _ => Far.refl _ _) (by simp only [execOp, hop])
    rw [hcap, hfirst]; rfl
  | slice t x lo hi mx =>
    rw [hop] at he; simp only [ev] at he
    exact val (w' := w) (evSlice_ok h he) (fun _ => Far.refl _ _) (by simp only [execOp, hop])
  | fieldAddr t x f =>
    rw [hop] at he; simp only [ev] at he
    exact val (w' := w) (evFieldAddr_ok h he) (fun _ => Far.refl _ _) (by simp only [execOp, hop])
  | indexAddr t x i =>
    rw [hop] at he; simp only [ev] at he
    exact val (w' := w) (evIndexAddr_ok h he) (fun _ => Far.refl _ _) (by simp only [execOp, hop])
  | field t x f =>
    rw [hop] at he; simp only [ev] at he
    exact val (w' := w) (evField_ok h he) (fun _ => Far.refl _ _) (by simp only [execOp, hop])
  | index t x ix =>
    rw [hop] at he; simp only [ev, evIndex] at he
    split at he
    rotate_left
    · cases he
    rename_i ht
    obtain ⟨i, d, z, h1, h2, h3, h4, _⟩ := ti_ok ht.1
    have hk := ht.2
    rw [h4] at hk
    cases d <;> simp [kOf] at hk
    split at he
    rotate_left
    · cases he
    rename_i s k n hs hn
    split at he
    · cases he
    rename_i hn0
    split at he
    rotate_left
    · cases he
    rename_i b hb
    cases he
    refine val (s := Instr.index t (a.eval x) (a.eval ix)) (w' := w) ⟨.int .u8 b.toNat, ?_, Out.pure h (.c .nil)⟩ (fun _ => Far.refl _ _) (by simp only [execOp, hop])
    rw [lookInt h hs, lookInt h hn]
    have hsb : s[n.toNat]? = some b := by
      have hlt : n.toNat < s.data.size := by
        rcases Nat.lt_or_ge n.toNat s.data.size with h' | h'
        · exact h'
        · simp [Array.getElem?_eq_none h'] at hb
      have : s.data[n.toNat] = b := by simpa [Array.getElem?_eq_getElem hlt] using hb
      rw [getElem?_pos s n.toNat hlt]
      congr 1
    have h0 : 0 ≤ n := by omega
    simp only [Instr.index, asIntOf, Sem.run_bind, Sem.run_pure, Result.andThen_ok, run_underlying h2, if_pos h0, hsb]
  | extract x i =>
    rw [hop] at he; simp only [ev] at he
    exact val (w' := w) (evExtract_ok h he) (fun _ => Far.refl _ _) (by simp only [execOp, hop])
  | call c =>
    rw [hop] at he
    simp only [ev] at he
    split at he <;> (try (rename_i heq; cases heq))
    · rename_i x t
      exact val (w' := w) (evLen_ok (ty := o.type) h he) (fun _ => Far.refl _ _) (by simp [execOp, hop, resolve, invoke, builtin])
    · rename_i x y ts
      exact val (w' := w) (evMax_ok (ts := ts) (ty := o.type) h he) (fun _ => Far.refl _ _) (by simp [execOp, hop, resolve, invoke, builtin])
    · rename_i s x t u
      split at he
      · rename_i hu
        subst hu
        obtain ⟨v, w', hr, hO⟩ := evAppend_ok (ty := o.type) h he
        exact val (w' := w') ⟨v, hr, hO⟩ (fun hl => by rw [← hlo, hop] at hl; simp [loud] at hl) (by simp [execOp, hop, resolve, invoke, builtin])
      · cases he
    · cases he
  | _ => rw [hop] at he; simp [ev] at he
end
end Go.Am
end
section
namespace Go.Am
open Go.RowKit
mutual
def okV : V → Prop
  | .sl l => l.length ≤ maxLen ∧ okL l
  | .uq l => l.length ≤ maxLen ∧ okL l
  | .agg l | .tup l | .ip l _ | .clo _ l | .own l => okL l
  | .c _ | .any | .mp _ | .ti _ => True
def okL : List V → Prop
  | [] => True
  | x :: l => okV x ∧ okL l
end
theorem okL_iff {l : List V} : okL l ↔ ∀ x ∈ l, okV x := by induction l <;> simp [okL, *]
theorem okL_flat {l : List V} (h : okL (l.flatMap V.cells)) : okL l := by
  rw [okL_iff] at h ⊢
  intro x hx
  cases x with
  | agg cs => simp only [okV]; rw [okL_iff]; intro y hy; exact h y (List.mem_flatMap.2 ⟨_, hx, hy⟩)
  | _ => exact h _ (List.mem_flatMap.2 ⟨_, hx, by simp [V.cells]⟩)
theorem R.ok {S : Nat → Nat → Prop} {w : World} {xs vs fp} (h : R S w xs vs fp) : okL xs := by
  induction h with
  | nil => trivial
  | c _ ih | any _ ih => exact ⟨trivial, ih⟩
  | agg _ _ _ i1 i2 | tup _ _ i1 i2 | clo _ _ i1 i2 => exact ⟨i1, i2⟩
  | sl0 _ ih => exact ⟨⟨by simp [maxLen], trivial⟩, ih⟩
  | sl b o cap es h1 h2 h3 _ h5 h6 h7 h8 _ i1 i2 => exact ⟨⟨by omega, okL_flat i1⟩, i2⟩
  | ip b o k _ h5 h6 _ i1 i2 => exact ⟨i1, i2⟩
  | uq0 _ ih => exact ⟨⟨by simp [maxLen], trivial⟩, ih⟩
  | uq b cap e es cur h1 h2 h3 h4 h5 h6 h7 h8 h9 _ i1 i2 => exact ⟨⟨by omega, okL_flat i1⟩, i2⟩
  | own b e h1 h2 h3 _ i1 i2 => exact ⟨i1, i2⟩
  | mp b k l h1 h2 _ ih => exact ⟨trivial, ih⟩
  | ti b o es h1 h2 h3 _ h5 h6 h8 _ i1 i2 => exact ⟨trivial, i2⟩
def entr (P : Program) (f : FuncId) : Bool :=
  match P.funcs[f]? with
  | some fn => fn.name != "runtime.NumGoroutine" && fn.body.isSome
  | none => false
def ACall (P : Program) (f : FuncId) (xs : List V) (r : V) : Prop :=
  entr P f = true ∧ ∀ (S : Nat → Nat → Prop) (w : World) (vs : List Value), R S w xs vs [] → (∀ b o, S b o → b < w.heap.size) → Glo S w →
    Calls P f vs.toArray w fun e w' => ∃ v S' fp, e = .returned v ∧ R S' w' [r] [v] fp ∧ fp.Nodup ∧ (∀ b, b ∈ fp → w.heap.size ≤ b ∧ b < w'.heap.size) ∧ (∀ b o, b ∈ fp → ¬ S' b o) ∧
      (∀ b o, S b o → S' b o) ∧ (∀ b o, S' b o → S b o ∨ w.heap.size ≤ b) ∧ (∀ b o, S' b o → b < w'.heap.size) ∧ Far [] w w'
def ACallM (P : Program) (f : FuncId) (os xs : List V) (r : V) (os' : List V) : Prop :=
  entr P f = true ∧ ∀ (S : Nat → Nat → Prop) (w : World) (vo vs : List Value) (fo : List Nat), R S w os vo fo → fo.Nodup → (∀ b o, b ∈ fo → ¬ S b o) → (∀ b, b ∈ fo → b < w.heap.size) → R S w xs vs [] → (∀ b o, S b o → b < w.heap.size) → Glo S w →
    Calls P f (vo ++ vs).toArray w fun e w' => ∃ v S' fp fo', e = .returned v ∧ R S' w' [r] [v] fp ∧ R S' w' os' vo fo' ∧ (fp ++ fo').Nodup ∧ (∀ b, b ∈ fp ++ fo' → b < w'.heap.size ∧ (b ∈ fo ∨ w.heap.size ≤ b)) ∧ (∀ b o, b ∈ fp ++ fo' → ¬ S' b o) ∧
      (∀ b o, S b o → S' b o) ∧ (∀ b o, S' b o → S b o ∨ b ∈ fo ∨ w.heap.size ≤ b) ∧ (∀ b o, S' b o → b < w'.heap.size) ∧ Far fo w w'
theorem ACallM.acall {P : Program} {f : FuncId} {xs : List V} {r : V} (h : ACallM P f [] xs r []) : ACall P f xs r := by
  refine ⟨h.1, fun S w vs hR hS hg => ?_⟩
  refine (h.2 S w [] vs [] .nil List.nodup_nil (by simp) (by simp) hR hS hg).mono ?_
  rintro e w' ⟨v, S', fp, fo', rfl, g1, g2, g3, g4, g5, g6, g7, g8, g9⟩
  rw [List.nodup_append] at g3
  refine ⟨v, S', fp, rfl, g1, g3.1, fun b hb => ?_, fun b o hb => g5 b o (by simp [hb]), g6, fun b o hb => ?_, g8, g9⟩
  · have := g4 b (by simp [hb]); simpa [and_comm] using this
  · simpa using g7 b o hb
mutual
def scalB : V → Bool
  | .c _ | .any => true
  | .agg l | .tup l => scalL l
  | _ => false
def scalL : List V → Bool
  | [] => true
  | x :: l => scalB x && scalL l
end
theorem R.scal {S S' : Nat → Nat → Prop} {w w' : World} {xs vs fp} (h : R S w xs vs fp) : scalL xs = true → fp = [] ∧ R S' w' xs vs [] := by
  induction h with
  | nil => intro _; exact ⟨rfl, .nil⟩
  | c _ ih => intro hs; simp [scalL, scalB] at hs; obtain ⟨h1, h2⟩ := ih hs; exact ⟨h1, .c h2⟩
  | any _ ih => intro hs; simp [scalL, scalB] at hs; obtain ⟨h1, h2⟩ := ih hs; exact ⟨h1, .any h2⟩
  | agg _ h5 _ i1 i2 =>
    intro hs; simp [scalL, scalB] at hs
    obtain ⟨a1, a2⟩ := i1 hs.1; obtain ⟨b1, b2⟩ := i2 hs.2
    rw [a1, b1]; exact ⟨rfl, .agg a2 h5 b2⟩
  | tup _ _ i1 i2 =>
    intro hs; simp [scalL, scalB] at hs
    obtain ⟨a1, a2⟩ := i1 hs.1; obtain ⟨b1, b2⟩ := i2 hs.2
    rw [a1, b1]; exact ⟨rfl, .tup a2 b2⟩
  | _ => intro hs; simp [scalL, scalB] at hs
def anyB : V → Bool
  | .any | .mp _ => true
  | _ => false
def frzE (Γ : Env) (e : E) : Option (Env × V) :=
  match e with
  | .pa r q i j => match (cont Γ r).getP q with
    | some y => match y.row i with
      | some cs => some (upd Γ r q (pv y), .ip (pvL cs) j)
      | none => none
    | none => none
  | .cl f l => if ∀ s ∈ l, anyB (cont Γ s) = false then
      some (l.foldl (fun Γ s => if pureB (cont Γ s) then Γ else upd Γ s [] (pv (cont Γ s))) Γ, .clo f (l.map fun s => pv (cont Γ s))) else none
  | e => frz Γ e
def frzA (Γ : Env) : List Operand → Option (Env × List V)
  | [] => some (Γ, [])
  | x :: l => match frzE Γ (rd Γ x) with
    | some (Γ1, y) => match frzA Γ1 l with
      | some (Γ2, ys) => some (Γ2, y :: ys)
      | none => none
    | none => none
section
variable {C : Ctx} {S S' : Nat → Nat → Prop} {F : Nat → List Nat} {Γ Γ1 : Env} {a : Act} {w w' : World} {P : Program}
theorem frz_slots (h : G C S F Γ a w) (l : List Nat) (hne : ∀ s ∈ l, anyB (cont Γ s) = false) :
    ∃ S' F', G C S' F' (l.foldl (fun Γ s => if pureB (cont Γ s) then Γ else upd Γ s [] (pv (cont Γ s))) Γ) a w ∧ R S' w (l.map fun s => pv (cont Γ s)) (l.map (tm a)) [] ∧ ∀ b o, S b o → S' b o := by
  induction l generalizing Γ S F with
  | nil => exact ⟨S, F, h, .nil, fun _ _ h => h⟩
  | cons s l ih =>
    simp only [List.foldl_cons, List.map_cons]
    have key : ∃ Γ2 S2 F2, (if pureB (cont Γ s) then Γ else upd Γ s [] (pv (cont Γ s))) = Γ2 ∧ G C S2 F2 Γ2 a w ∧ R S2 w [pv (cont Γ s)] [tm a s] [] ∧ (∀ b o, S b o → S2 b o) ∧ ∀ t, pv (cont Γ2 t) = pv (cont Γ t) ∧ (anyB (cont Γ t) = false → anyB (cont Γ2 t) = false) := by
      by_cases hp : pureB (cont Γ s) = true
      · refine ⟨Γ, S, F, by simp [hp], h, ?_, fun _ _ h => h, fun t => ⟨rfl, fun h => h⟩⟩
        have := h.slots s
        rw [this.pure1 hp] at this
        rw [pv_pure _ hp]; exact this
      · have hD : (cont Γ s).getP [] = some (cont Γ s) := rfl
        obtain ⟨u, S2, F2, h1, h2, h3, h4, h5⟩ := h.freeze hD (fun e => by have := hne s (by simp); rw [e] at this; simp [anyB] at this)
        simp only [fol, Option.some.injEq] at h1
        subst h1
        refine ⟨upd Γ s [] (pv (cont Γ s)), S2, F2, by simp [hp], h4, h2, h5, fun t => ?_⟩
        rw [cont_upd]
        split
        · rename_i e; subst e
          simp only [V.setP]
          refine ⟨pv_pure _ (pure_pv _), fun hh => ?_⟩
          cases hc : cont Γ t <;> simp_all [pv, anyB]
        · exact ⟨rfl, fun h => h⟩
    obtain ⟨Γ2, S2, F2, e1, h1, h2, h3, h4⟩ := key
    rw [e1]
    obtain ⟨S3, F3, g1, g2, g3⟩ := ih h1 (fun t ht => (h4 t).2 (hne t (by simp [ht])))
    refine ⟨S3, F3, g1, ?_, fun b o hs => g3 b o (h3 b o hs)⟩
    have e2 : (l.map fun s => pv (cont Γ2 s)) = l.map fun s => pv (cont Γ s) := List.map_congr_left fun t _ => (h4 t).1
    rw [e2] at g2
    simpa using R.cons (h2.mono g3 (fun _ _ _ => rfl) (by simp)) g2
theorem frzE_ok (h : G C S F Γ a w) {e : E} {v : Value} {y : V} (hf : frzE Γ e = some (Γ1, y)) (ha : Ali Γ a w e v) (hc : R S w [e.cont] [v] []) :
    ∃ S' F', G C S' F' Γ1 a w ∧ R S' w [y] [v] [] ∧ ∀ b o, S b o → S' b o := by
  cases e with
  | p x => exact frz_ok (e := .p x) h hf ha hc
  | al r q => exact frz_ok (e := .al r q) h hf ha hc
  | ag r q i j n => exact frz_ok (e := .ag r q i j n) h hf ha hc
  | bx e => exact frz_ok (e := .bx e) h hf ha hc
  | pa r q i j =>
    simp only [frzE] at hf
    split at hf
    rotate_left
    · cases hf
    rename_i D hD
    split at hf
    rotate_left
    · cases hf
    rename_i cs hcs
    cases hf
    have hne : D ≠ .any := fun e => by rw [e] at hcs; simp [V.row] at hcs
    obtain ⟨u, fc, fr, h1, h2, h3, h4, h5⟩ := h.upd (D' := pv D) hD (h.rlt hD hne)
    have hn := List.nodup_append.1 (h3.nodup_iff.1 (h.nodup r))
    have hin : ∀ b, b ∈ fr → b ∈ F r := fun b hb => h3.mem_iff.2 (List.mem_append_right _ hb)
    have hin' : ∀ b, b ∈ fc → b ∈ F r := fun b hb => h3.mem_iff.2 (List.mem_append_left _ hb)
    obtain ⟨fp', hp', hG⟩ := h5 (fun b o => S b o ∨ b ∈ fc) w [] ⟨fun b o hb => .inl (h.mem.sub b o hb), fun b o hb => hb.elim (h.mem.lt b o) fun hb => (h.mine r b (hin' b hb)).1,
        fun b o hb => hb.elim (h.mem.new b o) fun hb => .inr (h.mine r b (hin' b hb)).2, h.mem.os, h.mem.tape, h.mem.output, h.mem.size, h.mem.block⟩
      (fun _ _ h => .inl h) (fun _ _ _ => rfl) (fun _ _ => rfl) (fun _ _ _ _ => rfl) (Nat.le_refl _) h2.view1 List.nodup_nil (by simp) (by simp) (by simp)
      (fun b o hb hs => hs.elim (h.apart r b o (hin b hb)) fun hs => hn.2.2 b hs b hb rfl) (fun s b o hs hb hs' => hs'.elim (h.apart s b o hb) fun hs' => h.disj r s b (fun e => hs e.symm) (hin' b hs') hb) (by simp) (by simp [pv_row])
    obtain ⟨u', x, g1, g2, g3⟩ := ha D cs hD hcs
    rw [h1] at g1; cases g1
    obtain ⟨b, o, us, f0, f1, f2, k1, k2, k3, k4, k5⟩ := h2.rowAt hcs
    rw [k1 j] at g2; cases g2
    subst g3
    have hv : R (fun b o => S b o ∨ b ∈ fc) w (pvL cs) us [] := k2.view.mono (fun b' o' h' => h'.elim .inl fun h' => .inr (by rw [k3]; simp [h'])) (fun _ _ _ => rfl) (by simp)
    exact ⟨_, _, hG, R.ip b o j hv k4 (fun k hk => ⟨.inr (by rw [k3]; simp), k5 k hk⟩) .nil, fun _ _ h => .inl h⟩
  | cl f l =>
    simp only [frzE] at hf
    split at hf
    rotate_left
    · cases hf
    rename_i hne
    cases hf
    obtain ⟨S', F', g1, g2, g3⟩ := frz_slots h l hne
    refine ⟨S', F', g1, ?_, g3⟩
    rw [show v = .func (.func f) #[] (l.map (tm a)).toArray from ha]
    simpa using R.clo (f := f) g2 (R.nil (S := S') (w := w))
theorem frzA_ok : ∀ {l : List Operand} {S F Γ Γ1 ys}, G C S F Γ a w → frzA Γ l = some (Γ1, ys) →
    ∃ S' F', G C S' F' Γ1 a w ∧ (∀ b o, S b o → S' b o) ∧ R S' w ys (l.map a.eval) [] := by
  intro l
  induction l with
  | nil => intro S F Γ Γ1 ys h hf; simp only [frzA] at hf; cases hf; exact ⟨S, F, h, fun _ _ h => h, .nil⟩
  | cons x l ih =>
    intro S F Γ Γ1 ys h hf
    simp only [frzA] at hf
    split at hf
    rotate_left
    · cases hf
    rename_i Γ2 y hy
    split at hf
    rotate_left
    · cases hf
    rename_i Γ3 ys' hys
    cases hf
    obtain ⟨ha, hc⟩ := h.rdAli x
    obtain ⟨S1, F1, h1, h2, h3⟩ := frzE_ok h hy ha hc
    obtain ⟨S2, F2, g1, g2, g3⟩ := ih h1 hys
    exact ⟨S2, F2, g1, fun b o hs => g2 b o (h3 b o hs), by simpa using R.cons (h2.mono g2 (fun _ _ _ => rfl) (by simp)) g3⟩
end
def target (Γ : Env) (f : Operand) : Option (FuncId × List V) :=
  match f with
  | .func f => some (f, [])
  | x => match look Γ (rd Γ x) with
    | .clo f l => some (f, l)
    | _ => none
def callS (P : Program) (Γ : Env) (f : Operand) (args : List Operand) (dst : Option Nat) (K : Env → Prop) : Prop :=
  match target Γ f with
  | some (fid, caps) => ∃ r, ACall P fid (args.map (fun x => look Γ (rd Γ x)) ++ caps) r ∧ scalB r = true ∧ (okV r → K (putX Γ dst (.p r)))
  | none => False
def callF (P : Program) (Γ : Env) (f : Operand) (args : List Operand) (dst : Option Nat) (K : Env → Prop) : Prop :=
  match f with
  | .func fid => match frzA Γ args with
    | some (Γ1, ys) => ∃ r, ACall P fid ys r ∧ (okV r → K (putX Γ1 dst (.p r)))
    | none => False
  | f => match rd Γ f with
    | .p (.clo fid caps) => match frzA Γ args with
      | some (Γ1, ys) => ∃ r, ACall P fid (ys ++ caps) r ∧ (okV r → K (putX Γ1 dst (.p r)))
      | none => False
    | _ => False
def lendOk : V → V → Bool
  | .own _, .own _ => true
  | .any, _ => false
  | _, .any => true
  | _, _ => false
def callM (P : Program) (Γ : Env) (f : Operand) (args : List Operand) (dst : Option Nat) (K : Env → Prop) : Prop :=
  match f, args with
  | .func fid, x :: rest => match frzA Γ rest with
    | some (Γ1, ys) => match rd Γ1 x with
      | .al r q => match (cont Γ1 r).getP q with
        | some D => ∃ rr D', ACallM P fid [D] ys rr [D'] ∧ lendOk D D' = true ∧ (okV rr → okV D' → K (putX (upd Γ1 r q D') dst (.p rr)))
        | none => False
      | _ => False
    | none => False
  | _, _ => False
def callT (P : Program) (Γ : Env) (f : Operand) (args : List Operand) (dst : Option Nat) (K : Env → Prop) : Prop :=
  match f, args with
  | .func fid, x :: rest => match frzA Γ rest with
    | some (Γ1, ys) => match tak Γ1 (rd Γ1 x) with
      | some (Γ2, D) => ∃ rr D', ACallM P fid [D] ys rr [D'] ∧ (okV rr → K (putX Γ2 dst (.p rr)))
      | none => False
    | none => False
  | _, _ => False
def takA (Γ : Env) : List Operand → Option (Env × List V)
  | [] => some (Γ, [])
  | x :: l => match tak Γ (rd Γ x) with
    | some (Γ1, y) => match takA Γ1 l with
      | some (Γ2, ys) => some (Γ2, y :: ys)
      | none => none
    | none => none
section
variable {C : Ctx} {S S' : Nat → Nat → Prop} {F : Nat → List Nat} {Γ Γ1 : Env} {a : Act} {w w' : World} {P : Program}
theorem takA_ok : ∀ {l : List Operand} {F Γ Γ1 os}, G C S F Γ a w → takA Γ l = some (Γ1, os) →
    ∃ F' fy, G C S F' Γ1 a w ∧ R S w os (l.map a.eval) fy ∧ fy.Nodup ∧ (∀ s b, b ∈ fy → b ∉ F' s) ∧ (∀ b, b ∈ fy → ∃ s, b ∈ F s) ∧ (∀ s b, b ∈ F' s → b ∈ F s) := by
  intro l
  induction l with
  | nil => intro F Γ Γ1 os h hf; simp only [takA] at hf; cases hf; exact ⟨F, [], h, .nil, List.nodup_nil, by simp, by simp, fun _ _ h => h⟩
  | cons x l ih =>
    intro F Γ Γ1 os h hf
    simp only [takA] at hf
    split at hf
    rotate_left
    · cases hf
    rename_i Γ2 y hy
    split at hf
    rotate_left
    · cases hf
    rename_i Γ3 ys hys
    cases hf
    obtain ⟨ha, hc⟩ := h.rdAli x
    obtain ⟨F1, f1, t1, t2, t3, t4, t5, t6⟩ := tak_ok h hy ha hc
    obtain ⟨F2, f2, g1, g2, g3, g4, g5, g6⟩ := ih t1 hys
    refine ⟨F2, f1 ++ f2, g1, by simpa using R.cons t2 g2, ?_, ?_, ?_, ?_⟩
    · rw [List.nodup_append]; exact ⟨t3, g3, fun b hb c hc e => by subst e; obtain ⟨s, hs⟩ := g5 b hc; exact t4 s b hb hs⟩
    · intro s b hb; rcases List.mem_append.1 hb with hb | hb
      · exact fun hs => t4 s b hb (g6 s b hs)
      · exact g4 s b hb
    · intro b hb; rcases List.mem_append.1 hb with hb | hb
      · exact t5 b hb
      · obtain ⟨s, hs⟩ := g5 b hb; exact ⟨s, t6 s b hs⟩
    · exact fun s b hb => t6 s b (g6 s b hb)
end
def callA (P : Program) (Γ : Env) (f : Operand) (args : List Operand) (dst : Option Nat) (K : Env → Prop) : Prop :=
  match f with
  | .func fid => match takA Γ args with
    | some (Γ2, os) => ∃ rr os', ACallM P fid os [] rr os' ∧ (okV rr → K (putX Γ2 dst (.p rr)))
    | none => False
  | _ => False
def awCall (P : Program) (Γ : Env) (f : Operand) (args : List Operand) (dst : Option Nat) (K : Env → Prop) : Prop :=
  callS P Γ f args dst K ∨ callF P Γ f args dst K ∨ callM P Γ f args dst K ∨ callT P Γ f args dst K ∨ callA P Γ f args dst K
def awOp (P : Program) (Γ : Env) (o : Oper) (K : Env → Prop) : Prop :=
  match o.op with
  | .call { callee := .value f, args, .. } => awCall P Γ f args.toList o.dst K
  | op => match ev P Γ op with
    | some (Γ1, e) => K (putX Γ1 o.dst e)
    | none => False
def skp : E := .p (.c undef)
def gOf (ops : Array Oper) (Γ : Env) (o : Oper) : Option Bool :=
  match o.guard with
  | none => some true
  | some (j, want) => match (ops[j]?).bind (·.dst) with
    | some d => match look Γ (rd Γ (.tmp d)) with
      | .c (.bool b) => some (b == want)
      | .c (.tuple ⟨[]⟩) => some false
      | _ => none
    | none => some false
section
variable {C : Ctx} {S S' : Nat → Nat → Prop} {F : Nat → List Nat} {Γ Γ1 : Env} {a : Act} {w w' : World} {P : Program} {n : Nat}
theorem entr_run {f : FuncId} (h : entr P f = true) (args : Array Value) (w : World) : (callFunc f args).run P w = .ok (.enter f args) w := by
  unfold entr at h
  cases hf : P.funcs[f]? with
  | none => simp [hf] at h
  | some fn =>
    simp only [hf, Bool.and_eq_true, bne_iff_ne, ne_eq] at h
    have h1 : (fn.name == "runtime.NumGoroutine") = false := by simpa using h.1
    have h2 : fn.body.isNone = false := by cases hb : fn.body <;> simp_all
    simp only [callFunc, Sem.run_bind, run_program, Result.andThen_ok, hf, h1, h2]
    rfl
theorem G.called (h : G C S F Γ a w) {r : V} {v : Value} {S1 S' : Nat → Nat → Prop} {fp : List Nat} (hS : ∀ b o, S b o → S' b o) (hR : R S' w' [r] [v] fp) (hn : fp.Nodup) (hf : ∀ b, b ∈ fp → w.heap.size ≤ b ∧ b < w'.heap.size)
    (hap : ∀ b o, b ∈ fp → ¬ S' b o) (hnew : ∀ b o, S' b o → S b o ∨ w.heap.size ≤ b) (hlt : ∀ b o, S' b o → b < w'.heap.size) (hF : Far [] w w') : Out C Γ (.p r) a w' v := by
  have hm : Mem C S' w' := ⟨fun b o hb => hS b o (h.mem.sub b o hb), hlt, fun b o hb => (hnew b o hb).elim (h.mem.new b o) fun hb => .inr (.inr (by have := h.mem.size; omega)),
    hF.os.trans h.mem.os, hF.tape.trans h.mem.tape, hF.output.trans h.mem.output, by have := h.mem.size; have := hF.size; omega, fun k hk hk' => by
      have := h.mem.size
      rw [hF.block k (by omega) (by simp)]; exact h.mem.block k hk hk'⟩
  refine ⟨S', F, fp, h.world hm hS (fun b o hs => World.cell?_of_block (w := w) (a := ⟨b, o, none⟩) (hF.block b (h.mem.lt b o hs) (by simp))) (fun s b hb => hF.block b (h.mine s b hb).1 (by simp)) hF.size ?_, hR, hn, ?_, hap, ?_, trivial⟩
  · intro s b o hb hs
    rcases hnew b o hs with hs | hs
    · exact h.apart s b o hb hs
    · have := (h.mine s b hb).1; omega
  · intro s b hb hb'
    have := (h.mine s b hb').1
    have := (hf b hb).1
    omega
  · intro b hb
    have := h.mem.size
    exact ⟨(hf b hb).2, .inr (by have := (hf b hb).1; omega)⟩
theorem G.calledT (h : G C S F Γ a w) {fy : List Nat} (hfd : ∀ s b, b ∈ fy → b ∉ F s) (hfm : ∀ b, b ∈ fy → b < w.heap.size ∧ (b ∈ C.fp0 ∨ C.w0.heap.size ≤ b)) (hfS : ∀ b o, b ∈ fy → ¬ S b o)
    {r : V} {v : Value} {S' : Nat → Nat → Prop} {fp : List Nat} (hS : ∀ b o, S b o → S' b o) (hR : R S' w' [r] [v] fp) (hn : fp.Nodup) (hf : ∀ b, b ∈ fp → b < w'.heap.size ∧ (b ∈ fy ∨ w.heap.size ≤ b))
    (hap : ∀ b o, b ∈ fp → ¬ S' b o) (hnew : ∀ b o, S' b o → S b o ∨ b ∈ fy ∨ w.heap.size ≤ b) (hlt : ∀ b o, S' b o → b < w'.heap.size) (hF : Far fy w w') : Out C Γ (.p r) a w' v := by
  have hsz := h.mem.size
  have hm : Mem C S' w' := ⟨fun b o hb => hS b o (h.mem.sub b o hb), hlt, fun b o hb => by
      rcases hnew b o hb with hb | hb | hb
      · exact h.mem.new b o hb
      · exact .inr (hfm b hb).2
      · exact .inr (.inr (by omega)),
    hF.os.trans h.mem.os, hF.tape.trans h.mem.tape, hF.output.trans h.mem.output, by have := hF.size; omega, fun k hk hk' => by
      rw [hF.block k (by omega) (fun hb => by rcases (hfm k hb).2 with h | h; exact hk' h; omega)]; exact h.mem.block k hk hk'⟩
  refine ⟨S', F, fp, h.world hm hS (fun b o hs => World.cell?_of_block (w := w) (a := ⟨b, o, none⟩) (hF.block b (h.mem.lt b o hs) (fun hb => hfS b o hb hs))) (fun s b hb => hF.block b (h.mine s b hb).1 (fun hb' => hfd s b hb' hb)) hF.size ?_, hR, hn, ?_, hap, ?_, trivial⟩
  · intro s b o hb hs
    rcases hnew b o hs with hs | hs | hs
    · exact h.apart s b o hb hs
    · exact hfd s b hs hb
    · have := (h.mine s b hb).1; omega
  · intro s b hb hb'
    rcases (hf b hb).2 with h' | h'
    · exact hfd s b h' hb'
    · have := (h.mine s b hb').1; omega
  · intro b hb
    refine ⟨(hf b hb).1, ?_⟩
    rcases (hf b hb).2 with h' | h'
    · exact (hfm b h').2
    · exact .inr (by omega)
theorem target_ok (h : G C S F Γ a w) {f : Operand} {fid : FuncId} {caps : List V} (ht : target Γ f = some (fid, caps)) :
    ∃ cs, a.eval f = .func (.func fid) #[] cs.toArray ∧ R (T S F) w caps cs [] := by
  have key : ∀ x : Operand, look Γ (rd Γ x) = .clo fid caps → ∃ cs, a.eval x = .func (.func fid) #[] cs.toArray ∧ R (T S F) w caps cs [] := by
    intro x hx
    have := h.look x
    rw [hx] at this
    obtain ⟨fp, hfp, this⟩ : ∃ fp, fp = [] ∧ R (T S F) w [.clo fid caps] [a.eval x] fp := ⟨_, rfl, this⟩
    generalize a.eval x = v at this
    cases this with
    | clo h1 h2 =>
      cases h2
      simp only [List.append_nil] at hfp
      rw [hfp] at h1
      exact ⟨_, rfl, h1⟩
  cases f with
  | func f => simp only [target, Option.some.injEq, Prod.mk.injEq] at ht; obtain ⟨rfl, rfl⟩ := ht; exact ⟨[], rfl, .nil⟩
  | tmp t =>
    simp only [target] at ht
    split at ht
    · rename_i hx; cases ht; exact key _ hx
    · cases ht
  | const v =>
    simp only [target] at ht
    split at ht
    · rename_i hx; cases ht; exact key _ hx
    · cases ht
  | global g =>
    simp only [target] at ht
    split at ht
    · rename_i hx; cases ht; exact key _ hx
    · cases ht
theorem addrOf_own (A B : List V) (v : Value) (i j : Nat) : addrOf (.own A) v i j = addrOf (.own B) v i j := by
  cases v with
  | pointer p =>
    cases p with
    | none => rfl
    | some x => obtain ⟨b, o, f⟩ := x; cases f <;> rfl
  | _ => rfl
theorem T_lt (h : G C S F Γ a w) : ∀ b o, T S F b o → b < w.heap.size := fun b o hb => hb.elim (h.mem.lt b o) fun ⟨s, hs⟩ => (h.mine s b hs).1
theorem run_call {o : Oper} {f : Operand} {args : Array Operand} {tys : Array TypeId} (ho : o.op = .call { callee := .value f, args := args, argTypes := tys }) {fid : FuncId} {cs : List Value} (hf : a.eval f = .func (.func fid) #[] cs.toArray) (he : entr P fid = true) :
    (execOp a.eval o).run P w = .ok (.enter fid ((args.toList.map a.eval ++ cs).toArray)) w := by
  simp only [execOp, ho, resolve, hf, Deferred.ofValue, Sem.run_bind, Sem.run_pure, Result.andThen_ok, invoke]
  rw [entr_run he]
  simp
theorem awCall_sound {Q : Exit → Act → World → Prop} {o : Oper} {f : Operand} {args : Array Operand} {tys : Array TypeId} (ho : o.op = .call { callee := .value f, args := args, argTypes := tys }) (hd : ∀ d, o.dst = some d → C.lo ≤ d ∧ d < n)
    {K : Env → Prop} {next : Act → World → Prop} (hG : Gd C n Γ a w) (h : awCall P Γ f args.toList o.dst K) (hK : ∀ Γ' a' w', K Γ' → Gd C n Γ' a' w' → next a' w') : o.wp P a w next Q := by
  obtain ⟨hsz, S, F, hG⟩ := hG
  unfold Oper.wp
  rcases h with h | h | h | h | h
  · unfold callS at h
    split at h
    rotate_left
    · exact h.elim
    rename_i fid caps ht
    obtain ⟨r, hA, hs, hk⟩ := h
    obtain ⟨cs, hcs, hRc⟩ := target_ok hG ht
    have hRa : R (T S F) w (args.toList.map fun x => look Γ (rd Γ x)) (args.toList.map a.eval) [] := by
      generalize args.toList = l
      induction l with
      | nil => exact .nil
      | cons x l ih => exact R.cons (hG.look x) ih
    have hR := R.append hRa hRc
    rw [run_call ho hcs hA.1, Oper.upon_enter]
    refine (hA.2 (T S F) w _ hR (T_lt hG) (hG.mem.glo.mono (fun _ _ h => .inl h) (fun _ _ _ => rfl))).mono ?_
    rintro e w' ⟨v, S', fp, rfl, g1, g2, g3, g4, g5, g6, g7, g8⟩
    have hsc : scalL [r] = true := by simp [scalL, hs]
    obtain ⟨_, hR'⟩ := g1.scal (S' := S) (w' := w') hsc
    have hout : Out C Γ (.p r) a w' v := hG.called (S1 := S) (fun _ _ h => h) hR' List.nodup_nil (by simp) (by simp) (fun _ _ h => .inl h) (fun b o hb => Nat.lt_of_lt_of_le (hG.mem.lt b o hb) g8.size) g8
    exact hK _ _ _ (hk (by have := g1.ok; exact this.1)) (hout.put hsz hd)
  · have key : ∀ (fid : FuncId) (caps : List V) (cs : List Value), a.eval f = .func (.func fid) #[] cs.toArray → R S w caps cs [] → (∃ Γ1 ys, frzA Γ args.toList = some (Γ1, ys) ∧ ∃ r, ACall P fid (ys ++ caps) r ∧ (okV r → K (putX Γ1 o.dst (.p r)))) →
        o.upon P a next Q ((execOp a.eval o).run P w) := by
      intro fid caps cs hcs hRc ⟨Γ1, ys, hys, r, hA, hk⟩
      obtain ⟨S1, F1, k1, k2, k3⟩ := frzA_ok hG hys
      have hR := R.append k3 (hRc.mono k2 (fun _ _ _ => rfl) (by simp))
      rw [run_call ho hcs hA.1, Oper.upon_enter]
      refine (hA.2 S1 w _ hR k1.mem.lt k1.mem.glo).mono ?_
      rintro e w' ⟨v, S', fp, rfl, g1, g2, g3, g4, g5, g6, g7, g8⟩
      have hout : Out C Γ1 (.p r) a w' v := k1.called (S1 := S1) g5 g1 g2 g3 g4 g6 g7 g8
      exact hK _ _ _ (hk (by have := g1.ok; exact this.1)) (hout.put hsz hd)
    unfold callF at h
    split at h
    · rename_i fid
      split at h
      · rename_i Γ1 ys hys
        obtain ⟨r, hA, hk⟩ := h
        exact key fid [] [] rfl .nil ⟨Γ1, ys, hys, r, by simpa using hA, hk⟩
      · exact h.elim
    · split at h
      · rename_i fid caps hrd
        split at h
        · rename_i Γ1 ys hys
          obtain ⟨r, hA, hk⟩ := h
          have hc := (hG.rdAli f).2
          rw [hrd] at hc
          simp only [E.cont] at hc
          obtain ⟨fp, hfp, hc⟩ : ∃ fp, fp = [] ∧ R S w [.clo fid caps] [a.eval f] fp := ⟨_, rfl, hc⟩
          generalize hev : a.eval f = v at hc
          cases hc with
          | @clo _ _ cs fq _ _ _ h1 h2 =>
            cases h2
            simp only [List.append_nil] at hfp
            rw [hfp] at h1
            exact key fid caps cs hev h1 ⟨Γ1, ys, hys, r, hA, hk⟩
        · exact h.elim
      · exact h.elim
  · unfold callM at h
    split at h
    rotate_left
    · exact h.elim
    rename_i fid x rest hargs
    split at h
    rotate_left
    · exact h.elim
    rename_i Γ1 ys hys
    split at h
    rotate_left
    · exact h.elim
    rename_i r q hrd
    split at h
    rotate_left
    · exact h.elim
    rename_i D hD
    obtain ⟨rr, D', hA, hlend, hk⟩ := h
    obtain ⟨S1, F1, k1, k2, k3⟩ := frzA_ok hG hys
    obtain ⟨hal, _⟩ := k1.rdAli x
    rw [hrd] at hal
    have hDne : D ≠ .any := by intro e; subst e; simp [lendOk] at hlend
    obtain ⟨u, fc, fr, h1, h2, h3, _, h5⟩ := k1.upd (D' := D') hD (k1.rlt hD hDne)
    have hu : u = a.eval x := by have := hal _ hD; rw [h1] at this; exact Option.some.inj this
    subst hu
    have hn := List.nodup_append.1 (h3.nodup_iff.1 (k1.nodup r))
    have hin : ∀ b, b ∈ fr → b ∈ F1 r := fun b hb => h3.mem_iff.2 (List.mem_append_right _ hb)
    have hin' : ∀ b, b ∈ fc → b ∈ F1 r := fun b hb => h3.mem_iff.2 (List.mem_append_left _ hb)
    have hrun : (execOp a.eval o).run P w = .ok (.enter fid (([a.eval x] ++ rest.map a.eval).toArray)) w := by
      have := run_call (a := a) (w := w) (P := P) (cs := []) ho rfl hA.1
      rw [hargs] at this
      simpa using this
    rw [hrun, Oper.upon_enter]
    refine (hA.2 S1 w _ _ fc h2 hn.1 (fun b o' hb => k1.apart r b o' (hin' b hb)) (fun b hb => (k1.mine r b (hin' b hb)).1) k3 k1.mem.lt k1.mem.glo).mono ?_
    rintro e w' ⟨v, S', fp, fo', rfl, g1, g2, g3, g4, g5, g6, g7, g8, g9⟩
    have hn2 := List.nodup_append.1 g3
    have hfree : ∀ b, b < w.heap.size → b ∉ fc → b ∉ fp ∧ b ∉ fo' := fun b hb hb' => by
      have : ∀ b', b' ∈ fp ++ fo' → b' ≠ b := fun b' hb'' e => by subst e; rcases (g4 _ hb'').2 with h | h; exact hb' h; omega
      exact ⟨fun h => this b (by simp [h]) rfl, fun h => this b (by simp [h]) rfl⟩
    have hS' : ∀ b o, b < w.heap.size → b ∉ fc → ¬ S1 b o → ¬ S' b o := fun b o hb hb' hs hs' => by
      rcases g7 b o hs' with h | h | h
      · exact hs h
      · exact hb' h
      · omega
    have hown : ∀ b, b ∈ fc ∨ w.heap.size ≤ b → b ∈ C.fp0 ∨ C.w0.heap.size ≤ b := by
      rintro b (hb | hb)
      · exact (k1.mine r b (hin' b hb)).2
      · have := k1.mem.size; exact .inr (by omega)
    have hfr : ∀ b, b ∈ fr → b < w.heap.size ∧ b ∉ fc := fun b hb => ⟨(k1.mine r b (hin b hb)).1, fun hb' => hn.2.2 b hb' b hb rfl⟩
    have hFs : ∀ s b, s ≠ r → b ∈ F1 s → b < w.heap.size ∧ b ∉ fc := fun s b hs hb => ⟨(k1.mine s b hb).1, fun hb' => k1.disj r s b (fun e => hs e.symm) (hin' b hb') hb⟩
    have hm : Mem C S' w' := ⟨fun b o hb => g6 b o (k1.mem.sub b o hb), g8, fun b o hb => (g7 b o hb).elim (k1.mem.new b o) fun hb => .inr (hown b hb),
      g9.os.trans k1.mem.os, g9.tape.trans k1.mem.tape, g9.output.trans k1.mem.output, by have := k1.mem.size; have := g9.size; omega, fun k hk hk' => by
        have := k1.mem.size
        rw [g9.block k (by omega) (fun hb => by rcases hown k (.inl hb) with h | h; exact hk' h; omega)]; exact k1.mem.block k hk hk'⟩
    obtain ⟨fp', hp', hG2⟩ := h5 S' w' fo' hm g6 (fun b o hs => World.cell?_of_block (w := w) (a := ⟨b, o, none⟩) (g9.block b (k1.mem.lt b o hs) (fun hb => k1.apart r b o (hin' b hb) hs)))
      (fun k hk => g9.block k (hfr k hk).1 (hfr k hk).2) (fun s k hs hk => g9.block k (hFs s k hs hk).1 (hFs s k hs hk).2) g9.size g2 hn2.2.1
      (fun b hb hb' => (hfree b (hfr b hb').1 (hfr b hb').2).2 hb) (fun s b hs hb hb' => (hfree b (hFs s b hs hb').1 (hFs s b hs hb').2).2 hb) (fun b o hb => g5 b o (by simp [hb]))
      (fun b o hb => hS' b o (hfr b hb).1 (hfr b hb).2 (k1.apart r b o (hin b hb))) (fun s b o hs hb => hS' b o (hFs s b hs hb).1 (hFs s b hs hb).2 (k1.apart s b o hb))
      (fun b hb => ⟨(g4 b (by simp [hb])).1, hown b (g4 b (by simp [hb])).2⟩)
      (by
        intro i cs hcs
        cases D' with
        | own o' =>
          cases D with
          | own ol =>
            simp only [V.row] at hcs ⊢
            split at hcs
            · rename_i hi; exact ⟨⟨ol, by simp [hi]⟩, fun j => addrOf_own _ _ _ _ _⟩
            · cases hcs
          | _ => simp [lendOk] at hlend
        | any => simp [V.row] at hcs
        | _ => cases D <;> simp [lendOk] at hlend)
    have hout : Out C (Am.upd Γ1 r q D') (.p rr) a w' v := by
      refine ⟨S', _, fp, hG2, g1, hn2.1, ?_, fun b o hb => g5 b o (by simp [hb]), fun b hb => ⟨(g4 b (by simp [hb])).1, hown b (g4 b (by simp [hb])).2⟩, trivial⟩
      intro s b hb
      split
      · intro hb'
        rw [hp'.mem_iff, List.mem_append] at hb'
        rcases hb' with hb' | hb'
        · exact hn2.2.2 b hb b hb' rfl
        · exact (hfree b (hfr b hb').1 (hfr b hb').2).1 hb
      · rename_i hs
        intro hb'
        exact (hfree b (hFs s b hs hb').1 (hFs s b hs hb').2).1 hb
    refine hK _ _ _ (hk (by have := g1.ok; exact this.1) (by have := g2.ok; exact this.1)) (hout.put hsz hd)
  · unfold callT at h
    split at h
    rotate_left
    · exact h.elim
    rename_i fid x rest hargs
    split at h
    rotate_left
    · exact h.elim
    rename_i Γ1 ys hys
    split at h
    rotate_left
    · exact h.elim
    rename_i Γ2 D htk
    obtain ⟨rr, D', hA, hk⟩ := h
    obtain ⟨S1, F1, k1, k2, k3⟩ := frzA_ok hG hys
    obtain ⟨hal, hcc⟩ := k1.rdAli x
    obtain ⟨F2, fy, t1, t2, t3, t4, t5, t6⟩ := tak_ok k1 htk hal hcc
    have hfS : ∀ b o, b ∈ fy → ¬ S1 b o := fun b o hb => by obtain ⟨s, hs⟩ := t5 b hb; exact k1.apart s b o hs
    have hfm : ∀ b, b ∈ fy → b < w.heap.size ∧ (b ∈ C.fp0 ∨ C.w0.heap.size ≤ b) := fun b hb => by obtain ⟨s, hs⟩ := t5 b hb; exact k1.mine s b hs
    have hrun : (execOp a.eval o).run P w = .ok (.enter fid (([a.eval x] ++ rest.map a.eval).toArray)) w := by
      have := run_call (a := a) (w := w) (P := P) (cs := []) ho rfl hA.1
      rw [hargs] at this
      simpa using this
    rw [hrun, Oper.upon_enter]
    refine (hA.2 S1 w _ _ fy t2 t3 hfS (fun b hb => (hfm b hb).1) k3 k1.mem.lt k1.mem.glo).mono ?_
    rintro e w' ⟨v, S', fp, fo', rfl, g1, g2, g3, g4, g5, g6, g7, g8, g9⟩
    have hn2 := List.nodup_append.1 g3
    have hout : Out C Γ2 (.p rr) a w' v := t1.calledT t4 hfm hfS g6 g1 hn2.1 (fun b hb => g4 b (by simp [hb])) (fun b o hb => g5 b o (by simp [hb])) g7 g8 g9
    exact hK _ _ _ (hk (by have := g1.ok; exact this.1)) (hout.put hsz hd)
  · unfold callA at h
    split at h
    rotate_left
    · exact h.elim
    rename_i fid
    split at h
    rotate_left
    · exact h.elim
    rename_i Γ2 os htk
    obtain ⟨rr, os', hA, hk⟩ := h
    obtain ⟨F2, fy, t1, t2, t3, t4, t5, t6⟩ := takA_ok hG htk
    have hfS : ∀ b o, b ∈ fy → ¬ S b o := fun b o hb => by obtain ⟨s, hs⟩ := t5 b hb; exact hG.apart s b o hs
    have hfm : ∀ b, b ∈ fy → b < w.heap.size ∧ (b ∈ C.fp0 ∨ C.w0.heap.size ≤ b) := fun b hb => by obtain ⟨s, hs⟩ := t5 b hb; exact hG.mine s b hs
    have hrun : (execOp a.eval o).run P w = .ok (.enter fid ((args.toList.map a.eval).toArray)) w := by
      have := run_call (a := a) (w := w) (P := P) (cs := []) ho rfl hA.1
      simpa using this
    rw [hrun, Oper.upon_enter]
    have hcall := hA.2 S w _ [] fy t2 t3 hfS (fun b hb => (hfm b hb).1) .nil hG.mem.lt hG.mem.glo
    rw [List.append_nil] at hcall
    refine hcall.mono ?_
    rintro e w' ⟨v, S', fp, fo', rfl, g1, g2, g3, g4, g5, g6, g7, g8, g9⟩
    have hn2 := List.nodup_append.1 g3
    have hout : Out C Γ2 (.p rr) a w' v := t1.calledT t4 hfm hfS g6 g1 hn2.1 (fun b hb => g4 b (by simp [hb])) (fun b o hb => g5 b o (by simp [hb])) g7 g8 g9
    exact hK _ _ _ (hk (by have := g1.ok; exact this.1)) (hout.put hsz hd)
theorem awOp_sound {Q : Exit → Act → World → Prop} {o : Oper} (hd : ∀ d, o.dst = some d → C.lo ≤ d ∧ d < n) {K : Env → Prop} {next : Act → World → Prop} (hG : Gd C n Γ a w) (h : awOp P Γ o K)
    (hK : ∀ Γ' a' w', K Γ' → Gd C n Γ' a' w' → next a' w') : o.wp P a w next Q := by
  unfold awOp at h
  split at h
  · rename_i f args tys ho
    exact awCall_sound ho hd hG h hK
  · split at h
    · rename_i Γ1 e he
      obtain ⟨hsz, S, F, hG'⟩ := hG
      obtain ⟨w', hcc⟩ := ev_ok hG' he
      obtain ⟨hc, _⟩ := hcc
      rcases hc with ⟨v, hr, hO⟩ | ⟨hr, rfl, S', F', hG2⟩
      · unfold Oper.wp; rw [hr, Oper.upon_value]
        exact hK _ _ _ h (hO.put hsz hd)
      · unfold Oper.wp; rw [hr, Oper.upon_skip]
        exact hK _ _ _ h ((Out.ali hG2 rfl trivial : Out C Γ1 dead a w' undef).put hsz hd)
    · exact h.elim
theorem gOf_ok {ops : Array Oper} {o : Oper} {g : Bool} (hG : Gd C n Γ a w) (h : gOf ops Γ o = some g) : Region.wanted o (yielded ops a.tmps) = g := by
  obtain ⟨hsz, S, F, hG⟩ := hG
  unfold gOf at h
  unfold Region.wanted
  split at h
  · rename_i hg; cases h; simp [hg]
  · rename_i j want hg
    simp only [hg]
    split at h
    · rename_i d hd
      split at h
      · rename_i b hb
        cases h
        have hv := lookInt hG hb
        simp only [Act.eval] at hv
        have hlt : d < a.tmps.size := by
          rcases Nat.lt_or_ge d a.tmps.size with h' | h'
          · exact h'
          · simp [Array.getD_eq_getD_getElem?, Array.getElem?_eq_none h', undef] at hv
        have : a.tmps[d]? = some (.bool b) := by
          rw [Array.getD_eq_getD_getElem?, Array.getElem?_eq_getElem hlt] at hv
          rw [Array.getElem?_eq_getElem hlt]; simpa using hv
        simp only [yielded, hd, Option.bind_some, this]
        cases b <;> cases want <;> rfl
      · rename_i hb
        cases h
        have hv := lookInt hG hb
        simp only [Act.eval] at hv
        simp only [yielded, hd, Option.bind_some]
        rw [Array.getD_eq_getD_getElem?] at hv
        cases hq : a.tmps[d]? with
        | none => rfl
        | some q => rw [hq] at hv; simp at hv; subst hv; rfl
      · cases h
    · rename_i hd
      cases h
      simp only [yielded, hd, Option.bind_none]
      rfl
theorem Gd.skp (hG : Gd C n Γ a w) {dst : Option Nat} (hd : ∀ d, dst = some d → C.lo ≤ d ∧ d < n) : Gd C n (putX Γ dst Am.skp) (a.put dst undef) w := by
  obtain ⟨hsz, S, F, hG⟩ := hG
  exact (Out.pure hG (.c .nil) : Out C Γ Am.skp a w undef).put hsz hd
end
end Go.Am
end
section
namespace Go.Am
open Go.RowKit
def killL (U : List Nat) : E → E
  | .p x => .p x
  | .al r q => if r ∈ U then dead else .al r q
  | .pa r q i j => if r ∈ U then dead else .pa r q i j
  | .ag r q i j n => if r ∈ U then dead else .ag r q i j n
  | .cl f l => if ∃ s ∈ l, s ∈ U then dead else .cl f l
  | .bx e => .bx (killL U e)
def hid (U : List Nat) (Γ : Env) : Env := fun t => if t ∈ U then dead else killL U (Γ t)
theorem cont_killL (U : List Nat) (x : E) : (killL U x).cont = x.cont := by
  cases x <;> simp only [killL] <;> (try split) <;> rfl
theorem cont_hid (U : List Nat) (Γ : Env) (t : Nat) : cont (hid U Γ) t = if t ∈ U then .any else cont Γ t := by
  simp only [cont, hid]; split
  · rfl
  · exact cont_killL _ _
theorem killL_kill {U : List Nat} {d : Nat} (hd : d ∈ U) (e : E) : killL U (kill d e) = killL U e := by
  induction e with
  | p x => rfl
  | al r q => simp only [kill]; split <;> rename_i h <;> simp_all [killL, dead]
  | pa r q i j => simp only [kill]; split <;> rename_i h <;> simp_all [killL, dead]
  | ag r q i j n => simp only [kill]; split <;> rename_i h <;> simp_all [killL, dead]
  | cl f l =>
    simp only [kill]; split
    · rename_i h
      have : ∃ s ∈ l, s ∈ U := ⟨d, h, hd⟩
      simp [killL, dead, this]
    · rfl
  | bx e ih => simp only [kill, killL, ih]
theorem hid_put {U : List Nat} {Γ : Env} {d : Nat} {e : E} (hd : d ∈ U) : hid U (put Γ d e) = hid U Γ := by
  funext t
  simp only [hid, put]
  by_cases ht : t ∈ U
  · simp [ht]
  · have : t ≠ d := fun h => ht (h ▸ hd)
    simp only [ht, if_false, if_neg this]
    exact killL_kill hd _
theorem kill_killL {U : List Nat} {d : Nat} (hd : d ∈ U) (e : E) : kill d (killL U e) = killL U e := by
  induction e with
  | p x => rfl
  | al r q => simp only [killL]; split <;> rename_i h <;> simp [kill, dead]; intro h2; exact absurd hd (h2 ▸ h)
  | pa r q i j => simp only [killL]; split <;> rename_i h <;> simp [kill, dead]; intro h2; exact absurd hd (h2 ▸ h)
  | ag r q i j n => simp only [killL]; split <;> rename_i h <;> simp [kill, dead]; intro h2; exact absurd hd (h2 ▸ h)
  | cl f l =>
    simp only [killL]; split <;> rename_i h
    · simp [kill, dead]
    · simp only [kill]
      split
      · rename_i h2; exact absurd ⟨d, h2, hd⟩ h
      · rfl
  | bx e ih => simp only [kill, killL, ih]
theorem kill_comm (d d' : Nat) (e : E) : kill d (kill d' e) = kill d' (kill d e) := by
  induction e with
  | p x => rfl
  | al r q => by_cases h1 : r = d <;> by_cases h2 : r = d' <;> simp [kill, dead, h1, h2] <;> (try split) <;> simp_all [kill, dead]
  | pa r q i j => by_cases h1 : r = d <;> by_cases h2 : r = d' <;> simp [kill, dead, h1, h2] <;> (try split) <;> simp_all [kill, dead]
  | ag r q i j n => by_cases h1 : r = d <;> by_cases h2 : r = d' <;> simp [kill, dead, h1, h2] <;> (try split) <;> simp_all [kill, dead]
  | cl f l => by_cases h1 : d ∈ l <;> by_cases h2 : d' ∈ l <;> simp [kill, dead, h1, h2]
  | bx e ih => simp only [kill, ih]
theorem Ali.ofCont {Γ Γ' : Env} {a : Act} {w : World} (hc : ∀ t, cont Γ' t = cont Γ t) : ∀ (x : E) (v : Value), Ali Γ a w x v → Ali Γ' a w x v := by
  intro x
  induction x with
  | p y => intro v _; trivial
  | al r q => intro v h D hD; rw [hc] at hD ⊢; exact h D hD
  | pa r q i j => intro v h D cs hD; rw [hc] at hD ⊢; exact h D cs hD
  | ag r q i j n => intro v h D cs hD; rw [hc] at hD ⊢; exact h D cs hD
  | cl f l => intro v h; exact h
  | bx e ih => rintro v ⟨y, u, h1, h2, h3, h4⟩; exact ⟨y, u, h1, h2, h3, ih u h4⟩
theorem Ali.killedL {Γ Γ' : Env} {a : Act} {w : World} {U : List Nat} (hc : ∀ r, r ∉ U → cont Γ' r = cont Γ r) : ∀ (x : E) (v : Value), Ali Γ a w x v → Ali Γ' a w (killL U x) v := by
  intro x
  induction x with
  | p y => intro v _; trivial
  | al r q =>
    intro v hA; simp only [killL]; split
    · trivial
    · rename_i hr; intro D hD; rw [hc r hr] at hD ⊢; exact hA D hD
  | pa r q i j =>
    intro v hA; simp only [killL]; split
    · trivial
    · rename_i hr; intro D cs hD; rw [hc r hr] at hD ⊢; exact hA D cs hD
  | ag r q i j m =>
    intro v hA; simp only [killL]; split
    · trivial
    · rename_i hr; intro D cs hD; rw [hc r hr] at hD ⊢; exact hA D cs hD
  | cl f l =>
    intro v hA; simp only [killL]; split
    · trivial
    · exact hA
  | bx e ih =>
    rintro v ⟨y, u, h1, h2, h3, h4⟩
    exact ⟨y, u, h1, h2, by rw [cont_killL]; exact h3, ih u h4⟩
theorem put_comm {Γ : Env} {d d' : Nat} {x y : E} (hne : d ≠ d') (hx : kill d' x = x) (hy : kill d y = y) : put (put Γ d x) d' y = put (put Γ d' y) d x := by
  funext t
  simp only [put]
  by_cases h1 : t = d'
  · subst h1
    have : t ≠ d := fun h => hne h.symm
    simp [this, hy]
  · by_cases h2 : t = d
    · subst h2; simp [h1, hx]
    · simp only [if_neg h1, if_neg h2]; exact kill_comm _ _ _
structure SOp where
  dst : Option Nat
  op : Op
  g : Option (Nat × Bool)
  u : List Nat
  deriving Inhabited
def wr (dst : Option Nat) (op : Op) : Option Nat :=
  match dst with
  | some d => some d
  | none => match op with
    | .store _ (.tmp s) _ => some s
    | _ => none
def gS (Γ : Env) (g : Option (Nat × Bool)) : Option Bool :=
  match g with
  | none => some true
  | some (d, want) => match look Γ (rd Γ (.tmp d)) with
    | .c (.bool b) => some (b == want)
    | .c (.tuple ⟨[]⟩) => some false
    | _ => none
def evFresh (P : Program) (Γ : Env) (t : TypeId) (s : Nat) (y : Operand) : Option V :=
  if (ti P t).ok then
    match Γ s, rd Γ y with
    | .p (.own l), .p z =>
      if pureB z then
        if (ti P t).agg then (match z with | .agg zs => if zs.length = (ti P t).size ∧ 0 + (ti P t).size ≤ l.length then some (setCells (.own l) 0 0 zs) else none | _ => none)
        else if (ti P t).size = 1 then (if leafB z = true ∧ 0 < l.length then some ((V.own l).setCell 0 0 z) else none) else none
      else none
    | _, _ => none
  else none
inductive Oc (P : Program) (Γ : Env) (o : SOp) : Option (Nat × E) → Prop
  | off (h : gS Γ o.g = some false) : Oc P Γ o (o.dst.map fun d => (d, skp))
  | op {e : E} (d : Nat) (h : gS Γ o.g = some true) (hd : o.dst = some d) (hl : loud o.op = false) (he : ev P Γ o.op = some (Γ, e)) : Oc P Γ o (some (d, e))
  | store {D : V} {t : TypeId} {s : Nat} {y : Operand} (h : gS Γ o.g = some true) (hd : o.dst = none) (ho : o.op = .store t (.tmp s) y) (he : evFresh P Γ t s y = some D) : Oc P Γ o (some (s, .p D))
  | callS {f : Operand} {args : Array Operand} {tys : Array TypeId} {fid : FuncId} {caps : List V} {r : V} (d : Nat) (h : gS Γ o.g = some true) (hd : o.dst = some d) (ho : o.op = .call { callee := .value f, args := args, argTypes := tys })
      (ht : target Γ f = some (fid, caps)) (hA : ACall P fid (args.toList.map (fun x => look Γ (rd Γ x)) ++ caps) r) (hs : scalB r = true) : Oc P Γ o (some (d, .p r))
  | callP {fid : FuncId} {args : Array Operand} {tys : Array TypeId} {ys : List V} {r : V} (d : Nat) (h : gS Γ o.g = some true) (hd : o.dst = some d) (ho : o.op = .call { callee := .value (.func fid), args := args, argTypes := tys })
      (hf : frzA Γ args.toList = some (Γ, ys)) (hA : ACall P fid ys r) : Oc P Γ o (some (d, .p r))
def appU (Γ : Env) (U : List Nat) : Option (Nat × E) → Env
  | none => Γ
  | some (d, e) => put Γ d (kill d (killL U e))
def awS (P : Program) (o : SOp) (Γ : Env) (K : Env → Prop) : Prop :=
  match o.u with
  | [] => match gS Γ o.g with
    | some g => (g = true → awOp P Γ { dst := o.dst, op := o.op, type := 0, pos := "", after := #[], guard := none } K) ∧ (g = false → K (putX Γ o.dst skp))
    | none => False
  | _ :: _ => ∃ r, Oc P (hid o.u Γ) o r ∧ K (appU Γ o.u r)
def awL (P : Program) : List SOp → Env → (Env → Prop) → Prop
  | [], Γ, K => K Γ
  | o :: l, Γ, K => awS P o Γ fun Γ' => awL P l Γ' K
theorem Oc.wr {P : Program} {Γ : Env} {o : SOp} {d : Nat} {e : E} {r} (h : Oc P Γ o r) (hr : r = some (d, e)) : Am.wr o.dst o.op = some d := by
  cases h with
  | off h =>
    cases hd : o.dst with
    | none => simp [hd] at hr
    | some d' => simp [hd] at hr; simp [Am.wr, hr.1]
  | op d' h hd hl he => cases hr; simp [Am.wr, hd]
  | store h hd ho he => cases hr; simp [Am.wr, hd, ho]
  | callS d' h hd ho ht hA hs => cases hr; simp [Am.wr, hd]
  | callP d' h hd ho hf hA => cases hr; simp [Am.wr, hd]
theorem appU_hid {U U' : List Nat} {Γ : Env} {o : SOp} {P : Program} {H : Env} {r} (h : Oc P H o r) {d : Nat} (hw : wr o.dst o.op = some d) (hd : d ∈ U') : hid U' (appU Γ U r) = hid U' Γ := by
  cases r with
  | none => rfl
  | some de =>
    obtain ⟨d', e⟩ := de
    have := h.wr rfl
    rw [hw] at this; cases this
    exact hid_put hd
theorem awS_swap {P : Program} {o o' : SOp} {Γ : Env} {K : Env → Prop} {d d' : Nat} (hw : wr o.dst o.op = some d) (hw' : wr o'.dst o'.op = some d') (hd : d ∈ o'.u) (hd' : d' ∈ o.u) (hne : d ≠ d')
    (h : awS P o Γ fun Γ' => awS P o' Γ' K) : awS P o' Γ fun Γ' => awS P o Γ' K := by
  have hu : ∃ x l, o.u = x :: l := by cases hh : o.u with | nil => simp [hh] at hd' | cons x l => exact ⟨x, l, rfl⟩
  have hu' : ∃ x l, o'.u = x :: l := by cases hh : o'.u with | nil => simp [hh] at hd | cons x l => exact ⟨x, l, rfl⟩
  obtain ⟨x, l, hu⟩ := hu
  obtain ⟨x', l', hu'⟩ := hu'
  have e1 : ∀ Γ K, awS P o Γ K = ∃ r, Oc P (hid o.u Γ) o r ∧ K (appU Γ o.u r) := fun Γ K => by simp [awS, hu]
  have e2 : ∀ Γ K, awS P o' Γ K = ∃ r, Oc P (hid o'.u Γ) o' r ∧ K (appU Γ o'.u r) := fun Γ K => by simp [awS, hu']
  rw [e1] at h
  obtain ⟨r, hr, h⟩ := h
  rw [e2] at h
  obtain ⟨r', hr', h⟩ := h
  rw [appU_hid hr hw hd] at hr'
  rw [e2]
  refine ⟨r', hr', ?_⟩
  rw [e1]
  refine ⟨r, by rw [appU_hid hr' hw' hd']; exact hr, ?_⟩
  have : appU (appU Γ o'.u r') o.u r = appU (appU Γ o.u r) o'.u r' := by
    cases r with
    | none => rfl
    | some de =>
      cases r' with
      | none => rfl
      | some de' =>
        obtain ⟨d1, e⟩ := de
        obtain ⟨d2, e'⟩ := de'
        have h1 := hr.wr rfl
        have h2 := hr'.wr rfl
        rw [hw] at h1; cases h1
        rw [hw'] at h2; cases h2
        simp only [appU]
        refine put_comm (fun e => hne e.symm) ?_ ?_
        · rw [kill_comm, kill_killL hd]
        · rw [kill_comm, kill_killL hd']
  rw [this]; exact h
theorem awOp_mono {P : Program} {Γ : Env} {o : Oper} {K K' : Env → Prop} (hK : ∀ Γ, K Γ → K' Γ) (h : awOp P Γ o K) : awOp P Γ o K' := by
  unfold awOp at h ⊢
  split at h
  · rcases h with h | h | h | h | h
    · refine .inl ?_
      unfold callS at h ⊢
      split at h
      · obtain ⟨r, h1, h2, h3⟩ := h; exact ⟨r, h1, h2, fun hh => hK _ (h3 hh)⟩
      · exact h
    rotate_left
    · refine .inr (.inr (.inl ?_))
      unfold callM at h ⊢
      split at h
      · split at h
        · split at h
          · split at h
            · obtain ⟨rr, o', h1, h0, h2⟩ := h; exact ⟨rr, o', h1, h0, fun ha hb => hK _ (h2 ha hb)⟩
            · exact h
          · exact h
        · exact h
      · exact h
    · refine .inr (.inr (.inr (.inl ?_)))
      unfold callT at h ⊢
      split at h
      · split at h
        · split at h
          · obtain ⟨rr, o', h1, h2⟩ := h; exact ⟨rr, o', h1, fun ha => hK _ (h2 ha)⟩
          · exact h
        · exact h
      · exact h
    · refine .inr (.inr (.inr (.inr ?_)))
      unfold callA at h ⊢
      split at h
      · split at h
        · obtain ⟨rr, o', h1, h2⟩ := h; exact ⟨rr, o', h1, fun ha => hK _ (h2 ha)⟩
        · exact h
      · exact h
    · refine .inr (.inl ?_)
      unfold callF at h ⊢
      split at h
      · split at h
        · obtain ⟨r, h1, h2⟩ := h; exact ⟨r, h1, fun hh => hK _ (h2 hh)⟩
        · exact h
      · split at h
        · split at h
          · obtain ⟨r, h1, h2⟩ := h; exact ⟨r, h1, fun hh => hK _ (h2 hh)⟩
          · exact h
        · exact h
  · split at h
    · exact hK _ h
    · exact h
theorem awS_mono {P : Program} {o : SOp} {Γ : Env} {K K' : Env → Prop} (hK : ∀ Γ, K Γ → K' Γ) (h : awS P o Γ K) : awS P o Γ K' := by
  unfold awS at h ⊢
  split at h
  · split at h
    · exact ⟨fun hg => awOp_mono hK (h.1 hg), fun hg => hK _ (h.2 hg)⟩
    · exact h
  · obtain ⟨r, h1, h2⟩ := h; exact ⟨r, h1, hK _ h2⟩
theorem awL_first {P : Program} {o : SOp} {post : List SOp} {K : Env → Prop} : ∀ {pre : List SOp} {Γ : Env},
    (∀ x ∈ pre, ∃ d d', wr x.dst x.op = some d ∧ wr o.dst o.op = some d' ∧ d ∈ o.u ∧ d' ∈ x.u ∧ d ≠ d') → awL P (pre ++ o :: post) Γ K → awL P (o :: (pre ++ post)) Γ K := by
  intro pre
  induction pre with
  | nil => intro Γ _ h; exact h
  | cons x pre ih =>
    intro Γ hx h
    obtain ⟨d, d', h1, h2, h3, h4, h5⟩ := hx x (by simp)
    have : awS P x Γ fun Γ' => awS P o Γ' fun Γ'' => awL P (pre ++ post) Γ'' K :=
      awS_mono (fun Γ' h' => ih (fun y hy => hx y (by simp [hy])) h') h
    exact awS_swap h1 h2 h3 h4 h5 this
section
variable {C : Ctx} {S S' : Nat → Nat → Prop} {F : Nat → List Nat} {Γ Γ1 : Env} {a : Act} {w w' : World} {P : Program} {n : Nat}
theorem G.hidden (h : G C S F Γ a w) (U : List Nat) : ∃ C', G C' S (fun t => if t ∈ U then [] else F t) (hid U Γ) a w ∧ C'.lo = C.lo ∧ C'.w0 = w ∧ C'.S0 = S ∧
    (∀ b, b ∈ C'.fp0 ↔ ∃ t, t ∉ U ∧ b ∈ F t) := by
  have hbig : ∀ t, a.tmps.size ≤ t → F t = [] := by
    intro t ht
    have := h.slots t
    have e : cont Γ t = .any := by simp [cont, h.big t ht, dead, E.cont]
    rw [e] at this
    exact this.pure1 rfl
  have hgl : ∀ b v, gcell = some (b, v) → S b 0 ∧ b ∉ ((List.range a.tmps.size).flatMap fun t => if t ∈ U then [] else F t) ∧ b < w.heap.size ∧ w.cell? ⟨b, 0, none⟩ = some v := by
    intro b v e
    obtain ⟨h1, h2⟩ := h.mem.glo b v e
    refine ⟨h1, ?_, h.mem.lt b 0 h1, h2⟩
    simp only [List.mem_flatMap, List.mem_range, not_exists, not_and]
    intro t _ hb
    split at hb
    · simp at hb
    · exact h.apart t b 0 hb h1
  refine ⟨⟨w, S, (List.range a.tmps.size).flatMap fun t => if t ∈ U then [] else F t, C.lo, C.pin, hgl⟩, ?_, rfl, rfl, rfl, ?_⟩
  rotate_left
  · intro b
    simp only [List.mem_flatMap, List.mem_range]
    constructor
    · rintro ⟨t, _, hb⟩
      split at hb
      · simp at hb
      · exact ⟨t, by assumption, hb⟩
    · rintro ⟨t, ht, hb⟩
      refine ⟨t, ?_, by simp [ht, hb]⟩
      rcases Nat.lt_or_ge t a.tmps.size with h' | h'
      · exact h'
      · rw [hbig t h'] at hb; simp at hb
  have hfp : ∀ t b, t ∉ U → b ∈ F t → b ∈ (List.range a.tmps.size).flatMap fun t => if t ∈ U then [] else F t := by
    intro t b ht hb
    rw [List.mem_flatMap]
    refine ⟨t, ?_, by simp [ht, hb]⟩
    rw [List.mem_range]
    rcases Nat.lt_or_ge t a.tmps.size with h' | h'
    · exact h'
    · rw [hbig t h'] at hb; simp at hb
  refine ⟨⟨fun _ _ h => h, h.mem.lt, fun _ _ h => .inl h, rfl, rfl, rfl, Nat.le_refl _, fun _ _ _ => rfl⟩, ?_, ?_, ?_, ?_, ?_, ?_, ?_, h.defers, h.pins⟩
  · intro s
    rw [cont_hid]
    by_cases hs : s ∈ U
    · simp only [if_pos hs]; exact .any .nil
    · simp only [if_neg hs]; exact h.slots s
  · intro s; (try dsimp only); split
    · exact List.nodup_nil
    · exact h.nodup s
  · intro s t b hst hb
    (try dsimp only at hb ⊢)
    split at hb
    · simp at hb
    · split
      · simp
      · exact h.disj s t b hst hb
  · intro s b o hb
    (try dsimp only at hb)
    split at hb
    · simp at hb
    · exact h.apart s b o hb
  · intro s b hb
    (try dsimp only at hb)
    split at hb
    · simp at hb
    · rename_i hs; exact ⟨(h.mine s b hb).1, .inl (hfp s b hs hb)⟩
  · intro s
    have hA := h.ali s
    have hc : ∀ r, r ∉ U → cont (hid U Γ) r = cont Γ r := fun r hr => by rw [cont_hid, if_neg hr]
    simp only [hid]
    split
    · trivial
    · exact Ali.killedL hc _ _ hA
  · intro s hs
    simp only [hid, h.big s hs]
    split
    · rfl
    · rfl
theorem Out.unhide (h : G C S F Γ a w) {U : List Nat} {C' : Ctx} (hw0 : C'.w0 = w) (hS0 : C'.S0 = S) (hfp : ∀ b, b ∈ C'.fp0 ↔ ∃ t, t ∉ U ∧ b ∈ F t) (hFar : Far [] w w') {e : E} {v : Value} (hO : Out C' (hid U Γ) e a w' v) :
    Out C Γ (killL U e) a w' v := by
  obtain ⟨S', F', fe, h', hR, o1, o2, o3, o4, o5⟩ := hO
  have hS : ∀ b o, S b o → S' b o := fun b o hs => h'.mem.sub b o (by rw [hS0]; exact hs)
  have hsz : w.heap.size ≤ w'.heap.size := hFar.size
  have hblk : ∀ k, k < w.heap.size → w'.heap[k]? = w.heap[k]? := fun k hk => hFar.block k hk (by simp)
  have hcell : ∀ b o, S b o → w'.cell? ⟨b, o, none⟩ = w.cell? ⟨b, o, none⟩ := fun b o hs => World.cell?_of_block (w := w) (a := ⟨b, o, none⟩) (hblk b (h.mem.lt b o hs))
  have hhid : ∀ t b, b ∈ F t → w'.heap[b]? = w.heap[b]? := fun t b hb => hblk b (h.mine t b hb).1
  have hc0 : ∀ b, (b ∈ C'.fp0 ∨ C'.w0.heap.size ≤ b) → (∃ t', t' ∉ U ∧ b ∈ F t') ∨ w.heap.size ≤ b := by
    intro b hb
    rcases hb with hh | hh
    · exact .inl ((hfp b).1 hh)
    · rw [hw0] at hh; exact .inr hh
  have hF' : ∀ t b, b ∈ F' t → (∃ t', t' ∉ U ∧ b ∈ F t') ∨ w.heap.size ≤ b := fun t b hb => hc0 b (h'.mine t b hb).2
  have hSn : ∀ b o, S' b o → S b o ∨ (∃ t', t' ∉ U ∧ b ∈ F t') ∨ w.heap.size ≤ b := by
    intro b o hb
    rcases h'.mem.new b o hb with hh | hh
    · rw [hS0] at hh; exact .inl hh
    · exact .inr (hc0 b hh)
  have hc : ∀ r, r ∉ U → cont (hid U Γ) r = cont Γ r := fun r hr => by rw [cont_hid, if_neg hr]
  have hown : ∀ b, (∃ t', t' ∉ U ∧ b ∈ F t') ∨ w.heap.size ≤ b → b ∈ C.fp0 ∨ C.w0.heap.size ≤ b := by
    rintro b (⟨t', _, hh⟩ | hh)
    · exact (h.mine t' b hh).2
    · have := h.mem.size; exact .inr (by omega)
  have hno : ∀ s b, s ∈ U → b ∈ F s → ¬ ((∃ t', t' ∉ U ∧ b ∈ F t') ∨ w.heap.size ≤ b) := by
    rintro s b hs hb (⟨t', ht', hh⟩ | hh)
    · exact h.disj s t' b (fun e => ht' (e ▸ hs)) hb hh
    · have := (h.mine s b hb).1; omega
  have hG : G C S' (fun t => if t ∈ U then F t else F' t) Γ a w' := by
    refine ⟨⟨fun b o hb => hS b o (h.mem.sub b o hb), h'.mem.lt, ?_, hFar.os.trans h.mem.os, hFar.tape.trans h.mem.tape, hFar.output.trans h.mem.output, ?_, ?_⟩, ?_, ?_, ?_, ?_, ?_, ?_, h.big, h.defers, h.pins⟩
    · intro b o hb
      rcases hSn b o hb with hh | hh
      · exact h.mem.new b o hh
      · exact .inr (hown b hh)
    · have := h.mem.size; omega
    · intro k hk hk'
      have := h.mem.size
      rw [hblk k (by omega)]
      exact h.mem.block k hk hk'
    · intro s
      by_cases hs : s ∈ U
      · simp only [if_pos hs]; exact (h.slots s).mono hS hcell (hhid s)
      · simp only [if_neg hs]; rw [← hc s hs]; exact h'.slots s
    · intro s; (try dsimp only); split
      · exact h.nodup s
      · exact h'.nodup s
    · intro s t b hst hb
      (try dsimp only at hb ⊢)
      split at hb <;> split
      · exact h.disj s t b hst hb
      · rename_i hs ht
        exact fun hb' => hno s b hs hb (hF' t b hb')
      · rename_i hs ht
        exact fun hb' => hno t b ht hb' (hF' s b hb)
      · exact h'.disj s t b hst hb
    · intro s b o hb hs'
      (try dsimp only at hb)
      split at hb
      · rename_i hs
        rcases hSn b o hs' with hh | hh
        · exact h.apart s b o hb hh
        · exact hno s b hs hb hh
      · exact h'.apart s b o hb hs'
    · intro s b hb
      (try dsimp only at hb)
      split at hb
      · have := h.mine s b hb; exact ⟨by omega, this.2⟩
      · exact ⟨(h'.mine s b hb).1, hown b (hF' s b hb)⟩
    · exact fun s => Ali.world h hhid _ _ (h.ali s) (h.boxWorld (hhid s))
  refine ⟨S', _, fe, hG, by rw [cont_killL]; exact hR, o1, ?_, o3, fun b hb => ⟨(o4 b hb).1, hown b (hc0 b (o4 b hb).2)⟩, ?_⟩
  · intro s b hb
    (try dsimp only)
    split
    · rename_i hs
      exact fun hb' => hno s b hs hb' (hc0 b (o4 b hb).2)
    · exact o2 s b hb
  · exact Ali.killedL (fun r hr => (hc r hr).symm) _ _ o5
inductive Les : E → E → Prop
  | refl (e : E) : Les e e
  | dead (e : E) (h : e.cont = .any) : Les e dead
  | bx {e e' : E} : Les e e' → Les (.bx e) (.bx e')
theorem Les.cont {e e' : E} (h : Les e e') : e.cont = e'.cont := by
  cases h with
  | refl => rfl
  | dead _ h => rw [h]; rfl
  | bx => rfl
theorem Les.ali {Γ : Env} {a : Act} {w : World} {e e' : E} (h : Les e e') : ∀ v, Ali Γ a w e v → Ali Γ a w e' v := by
  induction h with
  | refl => exact fun v h => h
  | dead => exact fun v _ => trivial
  | bx h ih => rintro v ⟨y, u, h1, h2, h3, h4⟩; exact ⟨y, u, h1, h2, by rw [← h.cont]; exact h3, ih u h4⟩
theorem Les.ofDead {e : E} (h : Les Am.dead e) : e = Am.dead := by
  generalize hd : Am.dead = d at h ⊢
  cases h with
  | refl => rfl
  | dead => exact hd
  | bx => cases hd
theorem Les.kill_blur (s : Nat) (e : E) : Les (blur s [] e) (kill s e) := by
  induction e with
  | p x => exact .refl _
  | al r q =>
    by_cases hr : r = s
    · simp only [kill, if_pos hr]; exact .dead _ (cont_blur _ _ _)
    · simp only [kill, blur, hr, false_and, if_false]; exact .refl _
  | pa r q i j =>
    by_cases hr : r = s
    · simp only [kill, if_pos hr]; exact .dead _ (cont_blur _ _ _)
    · simp only [kill, blur, hr, false_and, if_false]; exact .refl _
  | ag r q i j n =>
    by_cases hr : r = s
    · simp only [kill, if_pos hr]; exact .dead _ (cont_blur _ _ _)
    · simp only [kill, blur, hr, if_false]; exact .refl _
  | cl f l =>
    simp only [kill, blur]
    split
    · exact .dead _ rfl
    · exact .refl _
  | bx e ih => exact .bx ih
theorem G.weak (h : G C S F Γ a w) {Γ' : Env} (hc : ∀ t, cont Γ' t = cont Γ t) (ht : ∀ t, Les (Γ t) (Γ' t)) : G C S F Γ' a w := by
  refine ⟨h.mem, fun s => by rw [hc]; exact h.slots s, h.nodup, h.disj, h.apart, h.mine, ?_, ?_, h.defers, h.pins⟩
  · intro s
    have hA := h.ali s
    exact (ht s).ali _ (Ali.ofCont hc _ _ hA)
  · intro s hs
    have := ht s
    rw [h.big s hs] at this
    exact this.ofDead
theorem rd_hid {U : List Nat} {y : Operand} {z : V} (h : rd (hid U Γ) y = .p z) (hz : z ≠ .any) : rd Γ y = .p z := by
  cases y with
  | tmp t =>
    simp only [rd, hid] at h ⊢
    by_cases ht : t ∈ U
    · simp [ht, dead, pureB] at h; exact absurd h.symm hz
    · simp only [if_neg ht] at h
      cases hg : Γ t with
      | p x => rw [hg] at h; simpa [killL] using h
      | al r q =>
        rw [hg] at h
        by_cases hr : r ∈ U
        · simp only [killL, if_pos hr, dead, pureB, if_true] at h; exact absurd (E.p.inj h).symm hz
        · simp only [killL, if_neg hr] at h; cases h
      | pa r q i j =>
        rw [hg] at h
        by_cases hr : r ∈ U
        · simp only [killL, if_pos hr, dead, pureB, if_true] at h; exact absurd (E.p.inj h).symm hz
        · simp only [killL, if_neg hr] at h; cases h
      | ag r q i j m =>
        rw [hg] at h
        by_cases hr : r ∈ U
        · simp only [killL, if_pos hr, dead, pureB, if_true] at h; exact absurd (E.p.inj h).symm hz
        · simp only [killL, if_neg hr] at h; cases h
      | cl f l =>
        rw [hg] at h
        by_cases hr : ∃ s ∈ l, s ∈ U
        · simp only [killL, if_pos hr, dead, pureB, if_true] at h; exact absurd (E.p.inj h).symm hz
        · simp only [killL, if_neg hr] at h; cases h
      | bx e => rw [hg] at h; simp only [killL] at h; cases h
  | _ => exact h
theorem evFresh_store {U : List Nat} {t : TypeId} {s : Nat} {y : Operand} {D : V} (he : evFresh P (hid U Γ) t s y = some D) :
    evStore P Γ t (.tmp s) y = some (upd Γ s [] D, dead) ∧ s ∉ U := by
  unfold evFresh at he
  split at he
  rotate_left
  · cases he
  rename_i hok
  split at he
  rotate_left
  · cases he
  rename_i l z hs hy
  have hsU : s ∉ U := by intro hh; simp [hid, hh, dead] at hs
  have hs' : Γ s = .p (.own l) := by
    simp only [hid, if_neg hsU] at hs
    cases hg : Γ s <;> rw [hg] at hs <;> simp only [killL] at hs <;> (try split at hs) <;> first | exact hs | cases hs
  split at he
  rotate_left
  · cases he
  rename_i hp
  have hrs : rd Γ (.tmp s) = .al s [] := by simp [rd, hs', pureB]
  have hcs : cont Γ s = .own l := by simp [cont, hs', E.cont]
  refine ⟨?_, hsU⟩
  have hadr : adr Γ (.al s []) = some (s, [], 0, 0) := by simp [adr, hcs, V.getP]
  unfold evStore
  simp only [hok, if_true, hrs, hadr]
  split at he
  · rename_i hagg
    split at he
    rotate_left
    · cases he
    rename_i zs
    split at he
    rotate_left
    · cases he
    rename_i hl
    cases he
    rw [rd_hid hy (by simp)]
    simp [rootOf, hcs, V.getP, V.row, hagg, tkf, tak, hp, hl]
    have := hl.2; omega
  · rename_i hagg
    split at he
    rotate_left
    · cases he
    rename_i h1
    split at he
    rotate_left
    · cases he
    rename_i hl
    cases he
    rw [rd_hid hy (by intro e; rw [e] at hl; simp [leafB] at hl)]
    simp [rootOf, hcs, V.getP, V.row, hagg, h1, tak, hp, hl]
end
end Go.Am
end
