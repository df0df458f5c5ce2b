/- Part of the proof of a law of the image. -/
import Derived.Test.YtfgfjgbggkdobaaGreatQPD
import Derived.Deep.Slices
import Derived.Carry
set_option linter.all false
section
namespace Go.Am
open Go.RowKit
inductive Lf where
  | int (k : IntKind)
  | bool
  | str
  | sl (agg : Bool) (l : List Lf)
mutual
def Fit : Lf → V → Prop
  | .int k, x => ∃ n, x = .c (.int k n) ∧ (Lit.int k n).wf = true
  | .bool, x => ∃ b, x = .c (.bool b)
  | .str, x => ∃ s, x = .c (.string s) ∧ s.size ≤ maxLen
  | .sl true l, x => ∃ rows, x = .sl rows ∧ ∀ y ∈ rows, ∃ cs, y = .agg cs ∧ FitL l cs
  | .sl false l, x => ∃ rows, x = .sl rows ∧ ∀ y ∈ rows, FitL l [y]
def FitL : List Lf → List V → Prop
  | [], xs => xs = []
  | f :: fs, xs => ∃ y ys, xs = y :: ys ∧ Fit f y ∧ FitL fs ys
end
mutual
def desc (P : Program) : Nat → TypeId → Option (Bool × List Lf)
  | 0, _ => none
  | n + 1, t => match P.underlying t with
    | some (.int k) => some (false, [.int k])
    | some .bool => some (false, [.bool])
    | some .string => some (false, [.str])
    | some (.slice e) => match desc P n e with
      | some (a, l) => if l.length = P.cellsOf e ∧ P.cellsOf e ≠ 0 then some (false, [.sl a l]) else none
      | none => none
    | some (.struct fs) => match descF P n fs.toList 0 with
      | some l => if l.length = P.cellsOf t then some (true, l) else none
      | none => none
    | _ => none
def descF (P : Program) : Nat → List Field → Nat → Option (List Lf)
  | 0, _, _ => none
  | _ + 1, [], _ => some []
  | n + 1, f :: fs, o => match desc P n f.type, descF P n fs (o + P.cellsOf f.type) with
    | some (_, l), some r => if f.offset = o ∧ l.length = P.cellsOf f.type then some (l ++ r) else none
    | _, _ => none
end
theorem FitL.append {l r : List Lf} {xs ys : List V} (h : FitL l xs) (k : FitL r ys) : FitL (l ++ r) (xs ++ ys) := by
  induction l generalizing xs with
  | nil => simp only [FitL] at h; subst h; simpa using k
  | cons f fs ih =>
    simp only [FitL] at h
    obtain ⟨y, zs, rfl, h1, h2⟩ := h
    simp only [List.cons_append, FitL]
    exact ⟨y, _, rfl, h1, ih h2⟩
theorem FitL.length {l : List Lf} {xs : List V} (h : FitL l xs) : xs.length = l.length := by
  induction l generalizing xs with
  | nil => simp only [FitL] at h; subst h; rfl
  | cons f fs ih =>
    simp only [FitL] at h
    obtain ⟨y, zs, rfl, h1, h2⟩ := h
    simp [ih h2]
theorem desc_one {P : Program} {n : Nat} {t : TypeId} {l : List Lf} (h : desc P n t = some (false, l)) : l.length = 1 := by
  cases n with
  | zero => simp [desc] at h
  | succ n =>
    simp only [desc] at h
    split at h
    · simp at h; subst h; rfl
    · simp at h; subst h; rfl
    · simp at h; subst h; rfl
    · split at h
      · split at h
        · simp at h; subst h; rfl
        · simp at h
      · simp at h
    · split at h
      · split at h
        · simp at h
        · simp at h
      · simp at h
    · simp at h
section
variable {H : Type} {enc : TypeId × Value → H} {P : Program} {w : World} {sp : Nat → Bool}
abbrev Old (w : World) : Nat → Nat → Prop := fun b _ => b < w.heap.size
theorem rows_of {S : Nat → Nat → Prop} {es : Nat} {a : Bool} {l : List Lf} (hl : l.length = es) (h1 : a = false → l.length = 1) {b o : Nat} : ∀ (len : Nat), (∀ i, i < len → ∃ cs' xs, cs'.length = es ∧ (∀ j, j < es → S b (o + i * es + j) ∧ w.cell? ⟨b, o + i * es + j, none⟩ = cs'[j]?) ∧ FitL l xs ∧ R S w xs cs' [] ∧ ∀ u ∈ cs', u.oneCell' = true) →
    ∃ rows cs, rows.length = len ∧ (∀ x ∈ rows, x.cells.length = es) ∧ R S w (rows.flatMap V.cells) cs [] ∧ (∀ u ∈ cs, u.oneCell' = true) ∧ cs.length = len * es ∧ (∀ i, i < cs.length → S b (o + i) ∧ w.cell? ⟨b, o + i, none⟩ = cs[i]?) ∧ Fit (.sl a l) (.sl rows) := by
  intro len
  induction len with
  | zero => intro _; exact ⟨[], [], rfl, by simp, .nil, by simp, by simp, by simp, by cases a <;> simp [Fit]⟩
  | succ n ih =>
    intro h
    obtain ⟨rows, cs, g1, g2, g3, g4, g5, g6, g7⟩ := ih fun i hi => h i (by omega)
    obtain ⟨cs', xs, k1, k2, k3, k4, k5⟩ := h n (by omega)
    have hx : ∃ y : V, y.cells = xs ∧ (a = true → y = .agg xs) ∧ (a = false → xs = [y]) := by
      cases a with
      | true => exact ⟨.agg xs, rfl, fun _ => rfl, by simp⟩
      | false =>
        have e := k3.length
        rw [h1 rfl] at e
        match xs, e with
        | [y], _ =>
          refine ⟨y, ?_, by simp, fun _ => rfl⟩
          match cs', k4.length with
          | [u], _ => exact k4.leaf (k5 u (by simp))
    obtain ⟨y, hy, hy1, hy2⟩ := hx
    refine ⟨rows ++ [y], cs ++ cs', by simp [g1], ?_, ?_, ?_, ?_, ?_, ?_⟩
    · intro x hx
      rcases List.mem_append.1 hx with hx | hx
      · exact g2 x hx
      · simp at hx; subst hx; rw [hy, k3.length, hl]
    · rw [List.flatMap_append]; simpa [hy] using g3.append k4
    · intro u hu
      rcases List.mem_append.1 hu with hu | hu
      · exact g4 u hu
      · exact k5 u hu
    · simp [g5, k1, Nat.succ_mul]
    · intro i hi
      rw [List.length_append, g5, k1] at hi
      by_cases hlt : i < n * es
      · rw [List.getElem?_append_left (by omega)]; exact g6 i (by omega)
      · rw [List.getElem?_append_right (by omega), g5]
        have := k2 (i - n * es) (by omega)
        rw [show o + n * es + (i - n * es) = o + i by omega] at this
        exact this
    · cases a with
      | true =>
        simp only [Fit] at g7 ⊢
        obtain ⟨_, e, g7⟩ := g7; cases e
        refine ⟨_, rfl, fun z hz => ?_⟩
        rcases List.mem_append.1 hz with hz | hz
        · exact g7 z hz
        · simp at hz; subst hz; exact ⟨xs, hy1 rfl, k3⟩
      | false =>
        simp only [Fit] at g7 ⊢
        obtain ⟨_, e, g7⟩ := g7; cases e
        refine ⟨_, rfl, fun z hz => ?_⟩
        rcases List.mem_append.1 hz with hz | hz
        · exact g7 z hz
        · simp at hz; subst hz; rw [← hy2 rfl]; exact k3
theorem cell_old {b o : Nat} {u : Value} (h : w.cell? ⟨b, o, none⟩ = some u) : b < w.heap.size := by
  unfold World.cell? at h
  rcases Nat.lt_or_ge b w.heap.size with hlt | hge
  · exact hlt
  · rw [Array.getElem?_eq_none hge] at h; simp at h
theorem spot_none {a : Addr} {u : Value} (h : w.cell? a = some u) : a = ⟨a.block, a.off, none⟩ := by
  unfold World.cell? at h
  split at h
  · split at h
    · cases h
    · rename_i hs
      obtain ⟨b, o, s⟩ := a
      cases s <;> simp_all
  · cases h
theorem open_data : ∀ (n : Nat),
    (∀ (fuel : Nat) (t : TypeId) (cs : List Value) x a l, DataW.trod enc P w 0 sp true fuel t cs = some x → desc P n t = some (a, l) → ∃ xs, FitL l xs ∧ R (Old w) w xs cs [] ∧ ∀ u ∈ cs, u.oneCell' = true) ∧
    (∀ (fuel : Nat) (fs : List Field) (o : Nat) (cs : List Value) l, cs.length = o + l.length → (∀ f ∈ fs, ∃ x, DataW.trod enc P w 0 sp true fuel f.type ((cs.drop f.offset).take (P.cellsOf f.type)) = some x) → descF P n fs o = some l → ∃ xs, FitL l xs ∧ R (Old w) w xs (cs.drop o) [] ∧ ∀ u ∈ cs.drop o, u.oneCell' = true) := by
  intro n
  induction n with
  | zero => exact ⟨fun _ _ _ _ _ _ _ h => by simp [desc] at h, fun _ _ _ _ _ _ _ h => by simp [descF] at h⟩
  | succ n ih =>
    refine ⟨?_, ?_⟩
    · intro fuel t cs x a l h hd
      simp only [desc] at hd
      split at hd
      · rename_i k hk
        obtain ⟨m, rfl, _, hw⟩ := DataW.trod_int hk h
        simp at hd; obtain ⟨rfl, rfl⟩ := hd
        exact ⟨[.c (.int k m)], by simp [FitL, Fit]; exact hw, .c .nil, by simp [Value.oneCell']⟩
      · rename_i hk
        obtain ⟨m, rfl, _⟩ := DataW.trod_bool hk h
        simp at hd; obtain ⟨rfl, rfl⟩ := hd
        exact ⟨[.c (.bool m)], by simp [FitL, Fit], .c .nil, by simp [Value.oneCell']⟩
      · rename_i hk
        obtain ⟨m, rfl, _, hw⟩ := DataW.trod_string hk h
        simp at hd; obtain ⟨rfl, rfl⟩ := hd
        exact ⟨[.c (.string m)], by simp [FitL, Fit]; exact hw, .c .nil, by simp [Value.oneCell']⟩
      · rename_i e he
        split at hd
        rotate_left
        · cases hd
        rename_i a' l' hl'
        split at hd
        rotate_left
        · cases hd
        rename_i hc
        simp at hd; obtain ⟨rfl, rfl⟩ := hd
        rcases Deep.open_slice he h with ⟨rfl, _⟩ | ⟨ad, len, cap, m, k, D, Pl, rfl, _, h2, h3, h4, _, h6⟩
        · refine ⟨[.sl []], ?_, .sl0 .nil, by simp [Value.oneCell']⟩
          simp only [FitL]
          exact ⟨_, _, rfl, by cases a' <;> simp [Fit], rfl⟩
        · have hm : len ≤ m := by rw [h4]; split <;> omega
          rcases Nat.eq_zero_or_pos len with hz | hpos
          · subst hz
            refine ⟨[.sl []], ?_, .sl0 .nil, by simp [Value.oneCell']⟩
            simp only [FitL]
            exact ⟨_, _, rfl, by cases a' <;> simp [Fit], rfl⟩
          · have hsp : ad = ⟨ad.block, ad.off, none⟩ := by
              obtain ⟨cs', g1, g2⟩ := h6 0 (by omega)
              obtain ⟨_, g3, g4⟩ := World.cells?_some g1
              have := g4 0 (by omega)
              simp [Addr.add] at this
              rw [List.getElem?_eq_getElem (by omega)] at this
              exact spot_none this
            obtain ⟨rows, cs, r1, r2, r3, r4, r5, r6, r7⟩ := rows_of (S := Old w) (w := w) (es := P.cellsOf e) (a := a') (l := l') hc.1 (fun e => by subst e; exact desc_one hl') (b := ad.block) (o := ad.off) len (by
              intro i hi
              obtain ⟨cs', g1, g2⟩ := h6 i (by omega)
              obtain ⟨_, g3, g4⟩ := World.cells?_some g1
              obtain ⟨xs, k1, k2, k3⟩ := ih.1 k e cs' _ a' l' g2 hl'
              refine ⟨cs', xs, g3, fun j hj => ?_, k1, k2, k3⟩
              have := g4 j hj
              rw [Deep.add_add, hsp, show (⟨ad.block, ad.off, none⟩ : Addr).add (i * P.cellsOf e + j) = ⟨ad.block, ad.off + i * P.cellsOf e + j, none⟩ by
                rw [Addr.add_lit, Nat.add_assoc]] at this
              refine ⟨?_, this⟩
              rw [List.getElem?_eq_getElem (by omega)] at this
              exact cell_old this)
            refine ⟨[.sl rows], ?_, ?_, by simp [Value.oneCell']⟩
            · simp only [FitL]; exact ⟨_, _, rfl, r7, rfl⟩
            · rw [hsp, ← r1]
              exact R.sl ad.block ad.off cap (P.cellsOf e) (by intro e; rw [e] at r1; simp at r1; omega) (by omega) r2 r3 r4 r6 (by omega) h3 .nil
      · rename_i fs hfs
        split at hd
        rotate_left
        · cases hd
        rename_i l' hd'
        split at hd
        rotate_left
        · cases hd
        rename_i hc
        simp at hd; obtain ⟨rfl, rfl⟩ := hd
        obtain ⟨xs, k, _, rfl, h3, h4, h5⟩ := DataW.trod_struct hfs h
        have hall : ∀ f ∈ fs.toList, ∃ x, DataW.trod enc P w 0 sp true k f.type ((cs.drop f.offset).take (P.cellsOf f.type)) = some x := by
          intro f hf
          obtain ⟨i, hi, he⟩ := List.getElem_of_mem hf
          have hi' : i < fs.size := by simpa using hi
          have := h5 i f (by rw [Array.getElem?_eq_getElem hi']; simpa using he)
          rw [List.getElem?_eq_getElem (by omega)] at this
          exact ⟨_, this⟩
        have := ih.2 k fs.toList 0 cs l' (by omega) hall hd'
        simpa using this
      · cases hd
    · intro fuel fs o cs l hlen hall hd
      cases fs with
      | nil =>
        simp only [descF] at hd
        simp at hd; subst hd
        have e : cs.drop o = [] := by rw [List.drop_eq_nil_iff]; simp at hlen; omega
        rw [e]
        exact ⟨[], by simp [FitL], .nil, by simp⟩
      | cons f fs =>
        simp only [descF] at hd
        split at hd
        rotate_left
        · cases hd
        rename_i a0 l0 r h0 hr
        split at hd
        rotate_left
        · cases hd
        rename_i hc
        simp at hd; subst hd
        obtain ⟨hoff, hsz⟩ := hc
        simp only [List.length_append] at hlen
        obtain ⟨x0, hx0⟩ := hall f (by simp)
        rw [hoff] at hx0
        obtain ⟨ys, k1, k2, k3⟩ := ih.1 fuel f.type _ x0 a0 l0 hx0 h0
        obtain ⟨zs, m1, m2, m3⟩ := ih.2 fuel fs (o + P.cellsOf f.type) cs r (by omega) (fun g hg => hall g (by simp [hg])) hr
        have e : cs.drop o = (cs.drop o).take (P.cellsOf f.type) ++ cs.drop (o + P.cellsOf f.type) := by
          rw [← List.drop_drop, List.take_append_drop]
        refine ⟨ys ++ zs, k1.append m1, ?_, ?_⟩
        · rw [e]; simpa using k2.append m2
        · rw [e]
          intro u hu
          rcases List.mem_append.1 hu with hu | hu
          · exact k3 u hu
          · exact m3 u hu
theorem open_arg {n : Nat} {t : TypeId} {v : Value} {d : DataW H} {ps : List MemPlace} {f : Lf} (h : DataW.Trod enc P w 0 sp true t v d ps) (hv : v.cells = #[v]) (hd : desc P n t = some (false, [f])) :
    ∃ x, Fit f x ∧ R (Old w) w [x] [v] [] := by
  obtain ⟨fuel, hf⟩ := h
  obtain ⟨xs, h1, h2, _⟩ := (open_data (enc := enc) (P := P) (w := w) (sp := sp) n).1 fuel t v.cells.toList _ _ _ hf hd
  simp only [FitL] at h1
  obtain ⟨x, _, rfl, h1, rfl⟩ := h1
  rw [hv] at h2
  exact ⟨x, h1, by simpa using h2⟩
end
theorem Far.below {w w' : World} (h : Far [] w w') : Below w.heap.size w w' := ⟨h.os, h.tape, h.output, h.size, fun k hk => h.block k hk (by simp)⟩
end Go.Am
end
section
namespace Go.Am
open Go.RowKit
section
variable {P : Program} {Γ : Env} {Q : X → Env → Prop} {dst : Option Nat} {l : List SOp} {K : Env → Prop}
theorem awFor {σ : Type} {c k : SC} (N : Nat) (Inv : Nat → σ → Prop) (fr : Nat → σ → List (Nat × E)) (s0 : σ) (hw : Wk Γ (ofA (fr 0 s0))) (h0 : Inv 0 s0)
    (h : ∀ i s, i ≤ N → Inv i s → aw P c (ofA (fr i s)) (thenX (fun Γ1 => i < N ∧ ∃ s', Inv (i + 1) s' ∧ Wk Γ1 (ofA (fr (i + 1) s'))) (thenX (fun Γ' => aw P k Γ' Q) Q))) : aw P (.seq (.loop c) k) Γ Q := by
  refine awLoop (fun n Γ' => ∃ i s, i ≤ N ∧ n = N - i ∧ Inv i s ∧ Γ' = ofA (fr i s)) _ _ hw ⟨0, s0, by omega, rfl, h0, rfl⟩ ?_
  rintro _ _ ⟨i, s, hi, rfl, hs, rfl⟩
  refine aw_mono ?_ (h i s hi hs)
  intro x Γ1 hx
  cases x with
  | norm =>
    obtain ⟨h1, s', h2, h3⟩ := hx
    exact ⟨N - (i + 1), _, by omega, h3, i + 1, s', by omega, rfl, h2, rfl⟩
  | exit id => exact hx
  | ret => exact hx
theorem awWhile {σ : Type} {c k : SC} (μ : σ → Nat) (Inv : σ → Prop) (fr : σ → List (Nat × E)) (s0 : σ) (hw : Wk Γ (ofA (fr s0))) (h0 : Inv s0)
    (h : ∀ s, Inv s → aw P c (ofA (fr s)) (thenX (fun Γ1 => ∃ s', μ s' < μ s ∧ Inv s' ∧ Wk Γ1 (ofA (fr s'))) (thenX (fun Γ' => aw P k Γ' Q) Q))) : aw P (.seq (.loop c) k) Γ Q := by
  refine awLoop (fun n Γ' => ∃ s, n = μ s ∧ Inv s ∧ Γ' = ofA (fr s)) _ _ hw ⟨s0, rfl, h0, rfl⟩ ?_
  rintro _ _ ⟨s, rfl, hs, rfl⟩
  refine aw_mono ?_ (h s hs)
  intro x Γ1 hx
  cases x with
  | norm =>
    obtain ⟨s', h1, h2, h3⟩ := hx
    exact ⟨_, _, h1, h3, s', rfl, h2, rfl⟩
  | exit id => exact hx
  | ret => exact hx
def optV' (x : Option V) (F : V → Prop) (_ : Tok F := ⟨⟩) : Prop := match x with | some D => F D | none => False
@[simp] theorem optV'_some (D : V) (F : V → Prop) : optV' (some D) F = F D := rfl
def cloK (e : E) (F : FuncId → List V → Prop) (_ : Tok F := ⟨⟩) : Prop := match e with | .p (.clo f l) => F f l | _ => False
@[simp] theorem cloK_clo (f : FuncId) (l : List V) (F : FuncId → List V → Prop) : cloK (.p (.clo f l)) F = F f l := rfl
theorem callC' {t : Nat} {args : Array Operand} {tys : Array TypeId} (h : ∀ K2 : FuncId → List V → Env → List V → Prop, (∀ fid caps Γ1 ys r, ACall P fid (ys ++ caps) r → (okV r → awD P l (putX Γ1 dst (.p r)) K) → K2 fid caps Γ1 ys) → cloK (rd Γ (.tmp t)) fun fid caps => evK (frzA Γ args.toList) (K2 fid caps)) :
    awD P (⟨dst, .call { callee := .value (.tmp t), args := args, argTypes := tys }, none, []⟩ :: l) Γ K := by
  simp only [awD, awL, awS, gS]
  refine ⟨fun _ => ?_, fun e => Bool.noConfusion e⟩
  refine .inr (.inl ?_)
  have h' := h (fun fid caps Γ1 ys => ∃ r, ACall P fid (ys ++ caps) r ∧ (okV r → awD P l (putX Γ1 dst (.p r)) K)) (fun fid caps Γ1 ys r h1 h2 => ⟨r, h1, h2⟩)
  unfold callF
  unfold cloK at h'
  split at h'
  · rename_i fid caps hrd
    simp only [hrd]
    unfold evK at h'
    cases hf : frzA Γ args.toList with
    | none => rw [hf] at h'; exact h'.elim
    | some x => rw [hf] at h'; exact h'
  · exact h'.elim
def cloV (x : V) (F : FuncId → List V → Prop) (_ : Tok F := ⟨⟩) : Prop := match x with | .clo f l => F f l | _ => False
@[simp] theorem cloV_clo (f : FuncId) (l : List V) (F : FuncId → List V → Prop) : cloV (.clo f l) F = F f l := rfl
theorem callCS' {t : Nat} {args : Array Operand} {tys : Array TypeId} (h : ∀ K2 : FuncId → List V → List V → Prop, (∀ fid caps ys r, ACall P fid (ys ++ caps) r → scalB r = true → (okV r → awD P l (putX Γ dst (.p r)) K) → K2 fid caps ys) → cloV (look Γ (rd Γ (.tmp t))) fun fid caps => K2 fid caps (lookL Γ args.toList)) :
    awD P (⟨dst, .call { callee := .value (.tmp t), args := args, argTypes := tys }, none, []⟩ :: l) Γ K := by
  simp only [awD, awL, awS, gS]
  refine ⟨fun _ => ?_, fun e => Bool.noConfusion e⟩
  refine .inl ?_
  have h' := h (fun fid caps ys => ∃ r, ACall P fid (ys ++ caps) r ∧ scalB r = true ∧ (okV r → awD P l (putX Γ dst (.p r)) K)) (fun fid caps ys r h1 h2 h3 => ⟨r, h1, h2, h3⟩)
  unfold cloV at h'
  split at h'
  · rename_i fid caps hl
    simp only [callS, target, hl]
    rw [lookL_eq]
    exact h'
  · exact h'.elim
theorem sideCS' {d : Nat} {u : Nat} {us : List Nat} {t : Nat} {args : Array Operand} {tys : Array TypeId} (h : ∀ K2 : FuncId → List V → List V → Prop, (∀ fid caps ys r, ACall P fid (ys ++ caps) r → scalB r = true → awD P l (put Γ d (.p r)) K → K2 fid caps ys) → cloV (look (hid (u :: us) Γ) (rd (hid (u :: us) Γ) (.tmp t))) fun fid caps => K2 fid caps (lookL (hid (u :: us) Γ) args.toList)) :
    awD P (⟨some d, .call { callee := .value (.tmp t), args := args, argTypes := tys }, none, u :: us⟩ :: l) Γ K := by
  have h' := h (fun fid caps ys => ∃ r, ACall P fid (ys ++ caps) r ∧ scalB r = true ∧ awD P l (put Γ d (.p r)) K) (fun fid caps ys r h1 h2 h3 => ⟨r, h1, h2, h3⟩)
  simp only [awD, awL, awS]
  unfold cloV at h'
  split at h'
  · rename_i fid caps hl
    obtain ⟨r, h1, h2, h3⟩ := h'
    refine ⟨some (d, .p r), .callS d rfl rfl rfl (f := .tmp t) (args := args) (tys := tys) (fid := fid) (caps := caps) ?_ ?_ h2, h3⟩
    · simp only [target, hl]
    · rw [lookL_eq]; exact h1
  · exact h'.elim
theorem sideSt' {t : TypeId} {s : Nat} {y : Operand} {u : Nat} {us : List Nat} (h : ∀ K2 : V → Prop, (∀ D, awD P l (put Γ s (.p D)) K → K2 D) → optV' (evFresh P (hid (u :: us) Γ) t s y) K2) :
    awD P (⟨none, .store t (.tmp s) y, none, u :: us⟩ :: l) Γ K := by
  have h' := h (fun D => awD P l (put Γ s (.p D)) K) (fun D h => h)
  unfold optV' at h'
  split at h'
  · rename_i D hD
    simp only [awD, awL, awS]
    exact ⟨some (s, .p D), .store rfl rfl rfl hD, h'⟩
  · exact h'.elim
def lendK (Γ : Env) (x : Operand) (F : Nat → Path → V → Prop) : Prop := match rd Γ x with
  | .al r q => match (cont Γ r).getP q with
    | some D => F r q D
    | none => False
  | _ => False
def lenK (e : E) (F : Nat → Path → Prop) (_ : Tok F := ⟨⟩) : Prop := match e with | .al r q => F r q | _ => False
@[simp] theorem lenK_al (r : Nat) (q : Path) (F : Nat → Path → Prop) : lenK (.al r q) F = F r q := rfl
def optV (x : Option V) (F : V → Prop) (_ : Tok F := ⟨⟩) : Prop := match x with | some D => F D | none => False
@[simp] theorem lenK_p (x : V) (F : Nat → Path → Prop) : lenK (.p x) F = False := rfl
@[simp] theorem lenK_pa (r : Nat) (q : Path) (i j : Nat) (F : Nat → Path → Prop) : lenK (.pa r q i j) F = False := rfl
@[simp] theorem lenK_ag (r : Nat) (q : Path) (i j n : Nat) (F : Nat → Path → Prop) : lenK (.ag r q i j n) F = False := rfl
@[simp] theorem lenK_cl (f : FuncId) (l : List Nat) (F : Nat → Path → Prop) : lenK (.cl f l) F = False := rfl
@[simp] theorem optV_some (D : V) (F : V → Prop) : optV (some D) F = F D := rfl
theorem callM' {fid : FuncId} {args : Array Operand} {x : Operand} {rest : List Operand} {tys : Array TypeId} (hargs : args.toList = x :: rest)
    (h : ∀ K2 : Env → List V → Nat → Path → V → Prop, (∀ Γ1 ys r q D D' rr, ACallM P fid [D] ys rr [D'] → lendOk D D' = true → (okV rr → okV D' → awD P l (putX (upd Γ1 r q D') dst (.p rr)) K) → K2 Γ1 ys r q D) →
      evK (frzA Γ rest) fun Γ1 ys => lenK (rd Γ1 x) fun r q => optV ((cont Γ1 r).getP q) fun D => K2 Γ1 ys r q D) :
    awD P (⟨dst, .call { callee := .value (.func fid), args := args, argTypes := tys }, none, []⟩ :: l) Γ K := by
  simp only [awD, awL, awS, gS]
  refine ⟨fun _ => ?_, fun e => Bool.noConfusion e⟩
  refine .inr (.inr (.inl ?_))
  have h' := h (fun Γ1 ys r q D => ∃ rr D', ACallM P fid [D] ys rr [D'] ∧ lendOk D D' = true ∧ (okV rr → okV D' → awD P l (putX (upd Γ1 r q D') dst (.p rr)) K)) (fun Γ1 ys r q D D' rr h1 h2 h3 => ⟨rr, D', h1, h2, h3⟩)
  rw [hargs]
  simp only [callM]
  unfold evK at h'
  cases hf : frzA Γ rest with
  | none => rw [hf] at h'; exact h'.elim
  | some z =>
    obtain ⟨Γ1, ys⟩ := z
    rw [hf] at h'
    simp only at h' ⊢
    unfold lenK at h'
    split at h'
    · rename_i r q hrd
      simp only [hrd]
      unfold optV at h'
      split at h'
      · rename_i D hD
        simp only [hD]; exact h'
      · exact h'.elim
    · exact h'.elim
end
section
variable {P : Program} {Γ : Env} {dst : Option Nat} {l : List SOp} {K : Env → Prop}
theorem callT' {fid : FuncId} {args : Array Operand} {x : Operand} {rest : List Operand} {tys : Array TypeId} (hargs : args.toList = x :: rest)
    (h : ∀ K2 : List V → Env → V → Prop, (∀ Γ2 ys D D' rr, ACallM P fid [D] ys rr [D'] → (okV rr → awD P l (putX Γ2 dst (.p rr)) K) → K2 ys Γ2 D) →
      evK (frzA Γ rest) fun Γ1 ys => evK (tak Γ1 (rd Γ1 x)) (K2 ys)) :
    awD P (⟨dst, .call { callee := .value (.func fid), args := args, argTypes := tys }, none, []⟩ :: l) Γ K := by
  simp only [awD, awL, awS, gS]
  refine ⟨fun _ => ?_, fun e => Bool.noConfusion e⟩
  refine .inr (.inr (.inr (.inl ?_)))
  have h' := h (fun ys Γ2 D => ∃ rr D', ACallM P fid [D] ys rr [D'] ∧ (okV rr → awD P l (putX Γ2 dst (.p rr)) K)) (fun Γ2 ys D D' rr h1 h2 => ⟨rr, D', h1, h2⟩)
  rw [hargs]
  simp only [callT]
  unfold evK at h'
  cases hf : frzA Γ rest with
  | none => rw [hf] at h'; exact h'.elim
  | some z =>
    obtain ⟨Γ1, ys⟩ := z
    rw [hf] at h'
    simp only at h' ⊢
    cases ht : tak Γ1 (rd Γ1 x) with
    | none => rw [ht] at h'; exact h'.elim
    | some z2 => rw [ht] at h'; exact h'
theorem callA' {fid : FuncId} {args : Array Operand} {tys : Array TypeId}
    (h : ∀ K2 : Env → List V → Prop, (∀ Γ2 os os' rr, ACallM P fid os [] rr os' → (okV rr → awD P l (putX Γ2 dst (.p rr)) K) → K2 Γ2 os) → evK (takA Γ args.toList) K2) :
    awD P (⟨dst, .call { callee := .value (.func fid), args := args, argTypes := tys }, none, []⟩ :: l) Γ K := by
  simp only [awD, awL, awS, gS]
  refine ⟨fun _ => ?_, fun e => Bool.noConfusion e⟩
  refine .inr (.inr (.inr (.inr ?_)))
  have h' := h (fun Γ2 os => ∃ rr os', ACallM P fid os [] rr os' ∧ (okV rr → awD P l (putX Γ2 dst (.p rr)) K)) (fun Γ2 os os' rr h1 h2 => ⟨rr, os', h1, h2⟩)
  simp only [callA]
  unfold evK at h'
  cases hf : takA Γ args.toList with
  | none => rw [hf] at h'; exact h'.elim
  | some z => rw [hf] at h'; exact h'
end
theorem ACall.empty {P : Program} {f : FuncId} {xs : List V} {r : V} (h : ∀ a c, ACall P f (.c (.slice a 0 c) :: xs) r) : ACall P f (.sl [] :: xs) r := by
  refine ⟨(h none 0).1, fun S w vs hR hS hgl => ?_⟩
  obtain ⟨v, us, f1, f2, rfl, hf, h1, h2⟩ := R.uncons hR
  have hf' : f1 = [] ∧ f2 = [] := by
    cases f1 with
    | nil => exact ⟨rfl, hf.symm⟩
    | cons y ys => cases hf
  rw [hf'.2] at h2
  rw [hf'.1] at h1
  have : ∃ a c, v = .slice a 0 c := by
    cases h1 with
    | sl0 hh => exact ⟨_, _, rfl⟩
    | sl b o cap es g1 => exact absurd rfl g1
  obtain ⟨a, c, rfl⟩ := this
  exact (h a c).2 S w _ (.c h2) hS hgl
def quietOp : Op → Bool
  | .move _ | .nilCheck _ | .binOp .. | .unOp .. | .convert .. | .fieldAddr .. | .indexAddr .. | .index .. | .pick .. | .load .. | .lookup .. => true
  | .call { callee := .builtin .len, args := ⟨[_]⟩, argTypes := ⟨[_]⟩ } => true
  | .call { callee := .builtin .max, args := ⟨[_, _]⟩, argTypes := _ } => true
  | _ => false
theorem ev_quiet {P : Program} {Γ Γ1 : Env} {op : Op} {e : E} (h : quietOp op = true) (he : ev P Γ op = some (Γ1, e)) : Γ1 = Γ := by
  unfold quietOp at h
  split at h
  all_goals first | (cases h; done) | skip
  · simp only [ev] at he; cases he; rfl
  · simp only [ev, evNil] at he; (repeat' split at he) <;> first | (cases he; done) | (cases he; rfl)
  · simp only [ev, evBin] at he; (repeat' split at he) <;> first | (cases he; done) | (cases he; rfl)
  · simp only [ev, evUn] at he; (repeat' split at he) <;> first | (cases he; done) | (cases he; rfl)
  · simp only [ev, evConv] at he; (repeat' split at he) <;> first | (cases he; done) | (cases he; rfl)
  · simp only [ev, evFieldAddr] at he; (repeat' split at he) <;> first | (cases he; done) | (cases he; rfl)
  · simp only [ev, evIndexAddr] at he; (repeat' split at he) <;> first | (cases he; done) | (cases he; rfl)
  · simp only [ev, evIndex] at he; (repeat' split at he) <;> first | (cases he; done) | (cases he; rfl)
  · simp only [ev, evPick] at he; (repeat' split at he) <;> first | (cases he; done) | (cases he; rfl)
  · simp only [ev, evLoad] at he; (repeat' split at he) <;> first | (cases he; done) | (cases he; rfl)
  · simp only [ev, evLookup] at he; (repeat' split at he) <;> first | (cases he; done) | (cases he; rfl)
  · simp only [ev, evLen] at he; (repeat' split at he) <;> first | (cases he; done) | (cases he; rfl)
  · simp only [ev, evMax] at he; (repeat' split at he) <;> first | (cases he; done) | (cases he; rfl)
theorem sideQ' {P : Program} {Γ : Env} {l : List SOp} {K : Env → Prop} {op : Op} {d : Nat} {u : Nat} {us : List Nat} (hq : quietOp op = true) (hp : loud op = false) (h : ∀ K2 : Env → E → Prop, (∀ Γ1 e, awD P l (put Γ d (kill d (killL (u :: us) e))) K → K2 Γ1 e) → evK (ev P (hid (u :: us) Γ) op) K2) : awD P (⟨some d, op, none, u :: us⟩ :: l) Γ K := by
  have h' := h (fun Γ1 e => awD P l (put Γ d (kill d (killL (u :: us) e))) K) (fun Γ1 e hk => hk)
  refine side' hp fun K2 hK2 => ?_
  unfold evK at h' ⊢
  cases hev : ev P (hid (u :: us) Γ) op with
  | none => rw [hev] at h'; exact h'.elim
  | some x =>
    obtain ⟨Γ1, e⟩ := x
    rw [hev] at h'
    exact hK2 Γ1 e (ev_quiet hq hev) h'
end Go.Am
end
