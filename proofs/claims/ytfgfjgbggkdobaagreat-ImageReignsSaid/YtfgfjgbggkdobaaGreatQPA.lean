/- Part of the proof of a law of the image. -/
import Derived.Calls
import Derived.Laws.AppendOwn
import Derived.Below
import Derived.Laws.Entries
set_option linter.all false
section
namespace Go.Am
inductive V where
  | c (v : Value)
  | any
  | agg (l : List V)
  | tup (l : List V)
  | sl (l : List V)
  | ip (l : List V) (o : Nat)
  | clo (f : FuncId) (l : List V)
  | uq (l : List V)
  | own (l : List V)
  | mp (es : List (Value × Value))
  | ti (l : List V)
  deriving Inhabited
def V.cells : V → List V
  | .agg l => l
  | x => [x]
mutual
def pureB : V → Bool
  | .c _ | .any | .sl _ | .ip _ _ | .ti _ => true
  | .agg l | .tup l | .clo _ l => pureL l
  | .uq _ | .own _ | .mp _ => false
def pureL : List V → Bool
  | [] => true
  | x :: l => pureB x && pureL l
end
mutual
def pv : V → V
  | .c v => .c v
  | .any => .any
  | .sl l => .sl l
  | .ip l o => .ip l o
  | .agg l => .agg (pvL l)
  | .tup l => .tup (pvL l)
  | .clo f l => .clo f (pvL l)
  | .uq l => .sl (pvL l)
  | .own l => .ip (pvL l) 0
  | .mp _ => .any
  | .ti l => .ti l
def pvL : List V → List V
  | [] => []
  | x :: l => pv x :: pvL l
end
theorem pureL_eq (l : List V) : pureL l = l.all pureB := by induction l <;> simp [pureL, *]
theorem pvL_eq (l : List V) : pvL l = l.map pv := by induction l <;> simp [pvL, *]
def V.row (x : V) (i : Nat) : Option (List V) :=
  match x with
  | .own l => if i = 0 then some l else none
  | .uq l => (l[i]?).map V.cells
  | _ => none
def V.cell (x : V) (i j : Nat) : Option V := (x.row i).bind (·[j]?)
def V.recell (x : V) (cs : List V) : V :=
  match x with
  | .agg _ => .agg cs
  | _ => cs.headD .any
def V.setRow (x : V) (i : Nat) (cs : List V) : V :=
  match x with
  | .own l => if i = 0 then .own cs else .own l
  | .uq l => .uq (l.modify i fun y => y.recell cs)
  | y => y
def V.setCell (x : V) (i j : Nat) (y : V) : V :=
  match x.row i with
  | some cs => x.setRow i (cs.set j y)
  | none => x
abbrev Path := List (Nat × Nat)
def V.getP (x : V) : Path → Option V
  | [] => some x
  | (i, j) :: q => (x.cell i j).bind (·.getP q)
def V.setP (x : V) : Path → V → V
  | [], y => y
  | (i, j) :: q, y => match x.cell i j with
    | some z => x.setCell i j (z.setP q y)
    | none => x
inductive E where
  | p (x : V)
  | al (r : Nat) (q : Path)
  | pa (r : Nat) (q : Path) (i j : Nat)
  | ag (r : Nat) (q : Path) (i j n : Nat)
  | cl (f : FuncId) (l : List Nat)
  | bx (e : E)
  deriving Inhabited
abbrev Env := Nat → E
def dead : E := .p .any
def kill (d : Nat) : E → E
  | .p x => .p x
  | .al r q => if r = d then dead else .al r q
  | .pa r q i j => if r = d then dead else .pa r q i j
  | .ag r q i j n => if r = d then dead else .ag r q i j n
  | .cl f l => if d ∈ l then dead else .cl f l
  | .bx e => .bx (kill d e)
def put (Γ : Env) (d : Nat) (x : E) : Env := fun s => if s = d then x else kill d (Γ s)
def E.cont : E → V
  | .p x => x
  | .bx _ => .own [.any]
  | _ => .any
def cont (Γ : Env) (r : Nat) : V := (Γ r).cont
def blur (r : Nat) (q : Path) : E → E
  | .p x => .p x
  | .al r' q' => if r' = r ∧ q'.isPrefixOf q = false then dead else .al r' q'
  | .pa r' q' i j => if r' = r ∧ q'.isPrefixOf q = false then dead else .pa r' q' i j
  | .ag r' q' i j n => if r' = r then dead else .ag r' q' i j n
  | .cl f l => .cl f l
  | .bx e => .bx (blur r q e)
def upd (Γ : Env) (r : Nat) (q : Path) (y : V) : Env := fun s => if s = r then .p ((cont Γ r).setP q y) else blur r q (Γ s)
def at_ (Γ : Env) (r : Nat) (q : Path) : V := ((cont Γ r).getP q).getD .any
def constV (v : Value) : V :=
  match v with
  | .slice none 0 0 => .uq []
  | v => .c v
def rd (Γ : Env) : Operand → E
  | .const v => .p (constV v)
  | .func f => .p (.clo f [])
  | .global _ => dead
  | .tmp t => match Γ t with
    | .p x => if pureB x then .p x else .al t []
    | .bx _ => .al t []
    | e => e
def lookG (Γ : Env) (g : Nat → V) : E → V
  | .p x => pv x
  | .al r q => pv (at_ Γ r q)
  | .pa r q i j => match (at_ Γ r q).row i with | some cs => .ip (pvL cs) j | none => .any
  | .ag r q i j n => match (at_ Γ r q).row i with | some cs => if j + n ≤ cs.length then .agg (pvL ((cs.drop j).take n)) else .any | none => .any
  | .cl f l => .clo f (l.map g)
  | .bx _ => .any
def slotV (Γ : Env) : Nat → Nat → V
  | 0, s => pv (cont Γ s)
  | n + 1, s => match Γ s with
    | .bx e => .ip [lookG Γ (slotV Γ n) e] 0
    | _ => pv (cont Γ s)
def look (Γ : Env) (e : E) : V := lookG Γ (slotV Γ 2) e
end Go.Am
end
section
namespace Go.Am
open Go.RowKit
inductive R (S : Nat → Nat → Prop) (w : World) : List V → List Value → List Nat → Prop
  | nil : R S w [] [] []
  | c {v : Value} {xs vs fp} : R S w xs vs fp → R S w (.c v :: xs) (v :: vs) fp
  | any {v : Value} {xs vs fp} : R S w xs vs fp → R S w (.any :: xs) (v :: vs) fp
  | agg {l cs fq xs vs fp} : R S w l cs fq → (∀ u ∈ cs, u.oneCell' = true) → R S w xs vs fp → R S w (.agg l :: xs) (.agg cs.toArray :: vs) (fq ++ fp)
  | tup {l cs fq xs vs fp} : R S w l cs fq → R S w xs vs fp → R S w (.tup l :: xs) (.tuple cs.toArray :: vs) (fq ++ fp)
  | clo {f l cs fq xs vs fp} : R S w l cs fq → R S w xs vs fp → R S w (.clo f l :: xs) (.func (.func f) #[] cs.toArray :: vs) (fq ++ fp)
  | sl0 {a cap xs vs fp} : R S w xs vs fp → R S w (.sl [] :: xs) (.slice a 0 cap :: vs) fp
  | sl {l cs xs vs fp} (b o cap es : Nat) : l ≠ [] → 0 < es → (∀ x ∈ l, x.cells.length = es) → R S w (l.flatMap V.cells) cs [] → (∀ u ∈ cs, u.oneCell' = true) →
      (∀ i, i < cs.length → S b (o + i) ∧ w.cell? ⟨b, o + i, none⟩ = cs[i]?) → l.length ≤ cap → cap ≤ maxLen → R S w xs vs fp →
      R S w (.sl l :: xs) (.slice (some ⟨b, o, none⟩) l.length cap :: vs) fp
  | ip {l cs xs vs fp} (b o k : Nat) : R S w l cs [] → (∀ u ∈ cs, u.oneCell' = true) → (∀ i, i < cs.length → S b (o + i) ∧ w.cell? ⟨b, o + i, none⟩ = cs[i]?) →
      R S w xs vs fp → R S w (.ip l k :: xs) (.pointer (some ⟨b, o + k, none⟩) :: vs) fp
  | uq0 {xs vs fp} : R S w xs vs fp → R S w (.uq [] :: xs) (.slice none 0 0 :: vs) fp
  | uq {l cs fq xs vs fp} (b cap e es : Nat) (cur : Array Value) : 0 < es → (∀ x ∈ l, x.cells.length = es) → R S w (l.flatMap V.cells) cs fq → (∀ u ∈ cs, u.oneCell' = true) →
      w.heap[b]? = some (.cells cur e (0, 0)) → l.length ≤ cap → cap ≤ maxLen ∧ (l = [] → cap = 0) → cur.size = cap * es → cur.toList.take (l.length * es) = cs → R S w xs vs fp →
      R S w (.uq l :: xs) (.slice (some ⟨b, 0, none⟩) l.length cap :: vs) (b :: fq ++ fp)
  | own {l cs fq xs vs fp} (b e : Nat) : R S w l cs fq → (∀ u ∈ cs, u.oneCell' = true) → w.heap[b]? = some (.cells cs.toArray e (0, 0)) → R S w xs vs fp →
      R S w (.own l :: xs) (.pointer (some ⟨b, 0, none⟩) :: vs) (b :: fq ++ fp)
  | ti {l cs xs vs fp} (b o es : Nat) : l ≠ [] → 0 < es → (∀ x ∈ l, x.cells.length = es) → R S w (l.flatMap V.cells) cs [] → (∀ u ∈ cs, u.oneCell' = true) →
      (∀ i, i < cs.length → S b (o + i) ∧ w.cell? ⟨b, o + i, none⟩ = cs[i]?) → l.length ≤ maxLen → R S w xs vs fp →
      R S w (.ti l :: xs) (.slice (some ⟨b, o, none⟩) l.length l.length :: vs) fp
  | mp {es xs vs fp} (b k : Nat) (l : Array MapEntry) : w.heap[b]? = some (.map l k) → l.toList.map (fun e => (e.key, e.val)) = es → R S w xs vs fp →
      R S w (.mp es :: xs) (.map (some b) :: vs) (b :: fp)
section
variable {S S' : Nat → Nat → Prop} {w w' : World}
theorem R.length {xs vs fp} (h : R S w xs vs fp) : xs.length = vs.length := by
  induction h <;> simp_all
theorem R.mono {xs vs fp} (h : R S w xs vs fp) (hS : ∀ b o, S b o → S' b o) (hw : ∀ b o, S b o → w'.cell? ⟨b, o, none⟩ = w.cell? ⟨b, o, none⟩)
    (hf : ∀ b ∈ fp, w'.heap[b]? = w.heap[b]?) : R S' w' xs vs fp := by
  induction h with
  | nil => exact .nil
  | c _ ih => exact .c (ih hf)
  | any _ ih => exact .any (ih hf)
  | agg _ h5 _ i1 i2 => exact .agg (i1 fun b hb => hf b (by simp [hb])) h5 (i2 fun b hb => hf b (by simp [hb]))
  | tup _ _ i1 i2 => exact .tup (i1 fun b hb => hf b (by simp [hb])) (i2 fun b hb => hf b (by simp [hb]))
  | clo _ _ i1 i2 => exact .clo (i1 fun b hb => hf b (by simp [hb])) (i2 fun b hb => hf b (by simp [hb]))
  | sl0 _ ih => exact .sl0 (ih hf)
  | sl b o cap es h1 h2 h3 _ h5 h6 h7 h8 _ i1 i2 => exact .sl b o cap es h1 h2 h3 (i1 fun b hb => by simp at hb) h5 (fun i hi => ⟨hS _ _ (h6 i hi).1, (hw _ _ (h6 i hi).1).trans (h6 i hi).2⟩) h7 h8 (i2 hf)
  | ip b o k _ h5 h6 _ i1 i2 => exact .ip b o k (i1 fun b hb => by simp at hb) h5 (fun i hi => ⟨hS _ _ (h6 i hi).1, (hw _ _ (h6 i hi).1).trans (h6 i hi).2⟩) (i2 hf)
  | uq0 _ ih => exact .uq0 (ih hf)
  | uq b cap e es cur h1 h2 _ h4 h5 h6 h7 h8 h9 _ i1 i2 =>
    exact .uq b cap e es cur h1 h2 (i1 fun b hb => hf b (by simp [hb])) h4 ((hf b (by simp)).trans h5) h6 h7 h8 h9 (i2 fun b hb => hf b (by simp [hb]))
  | own b e _ h2 h3 _ i1 i2 => exact .own b e (i1 fun b hb => hf b (by simp [hb])) h2 ((hf b (by simp)).trans h3) (i2 fun b hb => hf b (by simp [hb]))
  | mp b k l h1 h2 _ ih => exact .mp b k l ((hf b (by simp)).trans h1) h2 (ih fun c hc => hf c (by simp [hc]))
  | ti b o es h1 h2 h3 _ h5 h6 h8 _ i1 i2 => exact .ti b o es h1 h2 h3 (i1 fun b hb => by simp at hb) h5 (fun i hi => ⟨hS _ _ (h6 i hi).1, (hw _ _ (h6 i hi).1).trans (h6 i hi).2⟩) h8 (i2 hf)
theorem R.append {xs vs fp ys us fq} (h : R S w xs vs fp) (k : R S w ys us fq) : R S w (xs ++ ys) (vs ++ us) (fp ++ fq) := by
  induction h with
  | nil => exact k
  | c _ ih => exact .c ih
  | any _ ih => exact .any ih
  | agg h1 h5 _ _ i2 => simpa using R.agg h1 h5 i2
  | tup h1 _ _ i2 => simpa using R.tup h1 i2
  | clo h1 _ _ i2 => simpa using R.clo h1 i2
  | sl0 _ ih => exact .sl0 ih
  | sl b o cap es h1 h2 h3 h4 h5 h6 h7 h8 _ _ i2 => exact .sl b o cap es h1 h2 h3 h4 h5 h6 h7 h8 i2
  | ip b o j h4 h5 h6 _ _ i2 => exact .ip b o j h4 h5 h6 i2
  | uq0 _ ih => exact .uq0 ih
  | uq b cap e es cur h1 h2 h3 h4 h5 h6 h7 h8 h9 _ _ i2 => simpa using R.uq b cap e es cur h1 h2 h3 h4 h5 h6 h7 h8 h9 i2
  | own b e h1 h2 h3 _ _ i2 => simpa using R.own b e h1 h2 h3 i2
  | mp b k l h1 h2 _ ih => simpa using R.mp b k l h1 h2 ih
  | ti b o es h1 h2 h3 h4 h5 h6 h8 _ _ i2 => exact .ti b o es h1 h2 h3 h4 h5 h6 h8 i2
theorem R.uncons {x xs vs fp} (h : R S w (x :: xs) vs fp) : ∃ v us f1 f2, vs = v :: us ∧ fp = f1 ++ f2 ∧ R S w [x] [v] f1 ∧ R S w xs us f2 := by
  cases h with
  | c h => exact ⟨_, _, [], _, rfl, rfl, .c .nil, h⟩
  | any h => exact ⟨_, _, [], _, rfl, rfl, .any .nil, h⟩
  | agg h1 h5 h => exact ⟨_, _, _, _, rfl, rfl, by simpa using R.agg h1 h5 .nil, h⟩
  | tup h1 h => exact ⟨_, _, _, _, rfl, rfl, by simpa using R.tup h1 .nil, h⟩
  | clo h1 h => exact ⟨_, _, _, _, rfl, rfl, by simpa using R.clo h1 .nil, h⟩
  | sl0 h => exact ⟨_, _, [], _, rfl, rfl, .sl0 .nil, h⟩
  | sl b o cap es h1 h2 h3 h4 h5 h6 h7 h8 h => exact ⟨_, _, [], _, rfl, rfl, .sl b o cap es h1 h2 h3 h4 h5 h6 h7 h8 .nil, h⟩
  | ip b o j h4 h5 h6 h => exact ⟨_, _, [], _, rfl, rfl, .ip b o j h4 h5 h6 .nil, h⟩
  | uq0 h => exact ⟨_, _, [], _, rfl, rfl, .uq0 .nil, h⟩
  | uq b cap e es cur h1 h2 h3 h4 h5 h6 h7 h8 h9 h => exact ⟨_, _, _, _, rfl, rfl, by simpa using R.uq b cap e es cur h1 h2 h3 h4 h5 h6 h7 h8 h9 .nil, h⟩
  | own b e h1 h2 h3 h => exact ⟨_, _, _, _, rfl, rfl, by simpa using R.own b e h1 h2 h3 .nil, h⟩
  | mp b k l h1 h2 h => exact ⟨_, _, [b], _, rfl, rfl, .mp b k l h1 h2 .nil, h⟩
  | ti b o es h1 h2 h3 h4 h5 h6 h8 h => exact ⟨_, _, [], _, rfl, rfl, .ti b o es h1 h2 h3 h4 h5 h6 h8 .nil, h⟩
theorem R.cons {x v f1 xs us f2} (h : R S w [x] [v] f1) (k : R S w xs us f2) : R S w (x :: xs) (v :: us) (f1 ++ f2) := R.append h k
theorem R.split {xs ys} : ∀ {vs fp}, R S w (xs ++ ys) vs fp → ∃ v1 v2 f1 f2, vs = v1 ++ v2 ∧ fp = f1 ++ f2 ∧ R S w xs v1 f1 ∧ R S w ys v2 f2 := by
  induction xs with
  | nil => intro vs fp h; exact ⟨[], vs, [], fp, rfl, rfl, .nil, h⟩
  | cons x xs ih =>
    intro vs fp h
    obtain ⟨v, us, f1, f2, rfl, rfl, h1, h2⟩ := R.uncons h
    obtain ⟨v1, v2, g1, g2, rfl, rfl, h3, h4⟩ := ih h2
    exact ⟨v :: v1, v2, f1 ++ g1, g2, rfl, by simp, R.cons h1 h3, h4⟩
theorem R.at {xs vs fp} (h : R S w xs vs fp) (i : Nat) (x : V) (hx : xs[i]? = some x) :
    ∃ v f0 f1 f2, vs[i]? = some v ∧ fp = f0 ++ f1 ++ f2 ∧ R S w [x] [v] f1 ∧
      R S w (xs.take i) (vs.take i) f0 ∧ R S w (xs.drop (i + 1)) (vs.drop (i + 1)) f2 := by
  have hi : i < xs.length := by
    rcases Nat.lt_or_ge i xs.length with h' | h'
    · exact h'
    · simp [List.getElem?_eq_none h'] at hx
  have hl := h.length
  have e : xs = xs.take i ++ (x :: xs.drop (i + 1)) := by
    have : xs[i] = x := by simpa [List.getElem?_eq_getElem hi] using hx
    rw [← this, ← List.drop_eq_getElem_cons hi, List.take_append_drop]
  rw [e] at h
  obtain ⟨v1, v2, f0, f', rfl, rfl, h1, h2⟩ := R.split h
  obtain ⟨v, us, f1, f2, rfl, rfl, h3, h4⟩ := R.uncons h2
  have hl1 : v1.length = i := by have := h1.length; simp at this; omega
  refine ⟨v, f0, f1, f2, ?_, by simp, h3, ?_, ?_⟩
  · rw [List.getElem?_append_right (by omega)]; simp [hl1]
  · have e1 : (v1 ++ v :: us).take i = v1 := by rw [← hl1]; exact List.take_left
    rw [e1]; exact h1
  · have e2 : (v1 ++ v :: us).drop (i + 1) = us := by rw [← hl1, List.drop_append]; simp
    rw [e2]; exact h4
theorem R.pure_of : ∀ {xs vs fp}, R S w xs vs fp → pureL xs = true → fp = [] := by
  intro xs vs fp h
  induction h with
  | nil => intro _; rfl
  | c _ ih | any _ ih | sl0 _ ih => intro hp; simp [pureL, pureB] at hp; exact ih hp
  | agg _ _ _ i1 i2 | tup _ _ i1 i2 | clo _ _ i1 i2 => intro hp; simp [pureL, pureB] at hp; rw [i1 hp.1, i2 hp.2]; rfl
  | sl b o cap es h1 h2 h3 _ h5 h6 h7 h8 _ i1 i2 => intro hp; simp [pureL, pureB] at hp; exact i2 hp
  | ip b o k _ h5 h6 _ i1 i2 => intro hp; simp [pureL, pureB] at hp; exact i2 hp
  | uq0 _ ih => intro hp; simp [pureL, pureB] at hp
  | uq b cap e es cur h1 h2 h3 h4 h5 h6 h7 h8 h9 _ _ i2 => intro hp; simp [pureL, pureB] at hp
  | own b e h1 h2 h3 _ _ i2 => intro hp; simp [pureL, pureB] at hp
  | mp b k l h1 h2 _ ih => intro hp; simp [pureL, pureB] at hp
  | ti b o es h1 h2 h3 _ h5 h6 h8 _ i1 i2 => intro hp; simp [pureL, pureB] at hp; exact i2 hp
theorem R.pure1 {x v fp} (h : R S w [x] [v] fp) (hp : pureB x = true) : fp = [] := h.pure_of (by simp [pureL, hp])
end
end Go.Am
end
section
namespace Go.Am
open Go.RowKit
theorem cells_pv (x : V) : (pv x).cells = pvL x.cells := by
  cases x <;> simp [pv, V.cells, pvL]
theorem flat_pv (l : List V) : (pvL l).flatMap V.cells = pvL (l.flatMap V.cells) := by
  induction l with
  | nil => simp [pvL]
  | cons x l ih => simp only [pvL, List.flatMap_cons, ih, cells_pv]; simp [pvL_eq]
theorem pvL_length (l : List V) : (pvL l).length = l.length := by simp [pvL_eq]
theorem pvL_nil {l : List V} : pvL l = [] ↔ l = [] := by cases l <;> simp [pvL]
theorem mem_pvL {x : V} {l : List V} (h : x ∈ pvL l) : ∃ y ∈ l, pv y = x := by simpa [pvL_eq] using h
section
variable {S : Nat → Nat → Prop} {w : World}
theorem R.view {xs vs fp} (h : R S w xs vs fp) : R (fun b o => S b o ∨ b ∈ fp) w (pvL xs) vs [] := by
  induction h with
  | nil => exact .nil
  | c _ ih => exact .c ih
  | any _ ih => exact .any ih
  | @agg l cs fq xs vs fp _ h5 _ i1 i2 =>
    exact .agg (i1.mono (fun b o h => h.elim .inl fun h => .inr (List.mem_append_left fp h)) (fun _ _ _ => rfl) (by simp)) h5
      (i2.mono (fun b o h => h.elim .inl fun h => .inr (List.mem_append_right fq h)) (fun _ _ _ => rfl) (by simp))
  | @tup l cs fq xs vs fp _ _ i1 i2 =>
    exact .tup (i1.mono (fun b o h => h.elim .inl fun h => .inr (List.mem_append_left fp h)) (fun _ _ _ => rfl) (by simp))
      (i2.mono (fun b o h => h.elim .inl fun h => .inr (List.mem_append_right fq h)) (fun _ _ _ => rfl) (by simp))
  | @clo f l cs fq xs vs fp _ _ i1 i2 =>
    exact .clo (i1.mono (fun b o h => h.elim .inl fun h => .inr (List.mem_append_left fp h)) (fun _ _ _ => rfl) (by simp))
      (i2.mono (fun b o h => h.elim .inl fun h => .inr (List.mem_append_right fq h)) (fun _ _ _ => rfl) (by simp))
  | sl0 _ ih => exact .sl0 ih
  | sl b o cap es h1 h2 h3 h4 h5 h6 h7 h8 _ _ i2 =>
    exact .sl b o cap es h1 h2 h3 (h4.mono (fun _ _ h => .inl h) (fun _ _ _ => rfl) (by simp)) h5 (fun i hi => ⟨.inl (h6 i hi).1, (h6 i hi).2⟩) h7 h8 i2
  | ip b o k h4 h5 h6 _ _ i2 =>
    exact .ip b o k (h4.mono (fun _ _ h => .inl h) (fun _ _ _ => rfl) (by simp)) h5 (fun i hi => ⟨.inl (h6 i hi).1, (h6 i hi).2⟩) i2
  | uq0 _ ih => exact .sl0 ih
  | @uq l cs fq xs vs fp b cap e es cur h1 h2 h3 h4 h5 h6 h7 h8 h9 _ i1 i2 =>
    have j2 := i2.mono (S' := fun b' o => S b' o ∨ b' ∈ (b :: fq ++ fp)) (w' := w) (fun b' o h => h.elim .inl fun h => .inr (by simp [h])) (fun _ _ _ => rfl) (by simp)
    rcases Decidable.em (l = []) with rfl | hl
    · exact .sl0 j2
    · have j1 := i1.mono (S' := fun b' o => S b' o ∨ b' ∈ (b :: fq ++ fp)) (w' := w) (fun b' o h => h.elim .inl fun h => .inr (by simp [h])) (fun _ _ _ => rfl) (by simp)
      have e1 : (pvL l).length = l.length := pvL_length l
      have := R.sl (S := fun b' o => S b' o ∨ b' ∈ (b :: fq ++ fp)) (w := w) (l := pvL l) (cs := cs) b 0 cap es (by simpa [pvL_nil] using hl) h1
        (fun x hx => by obtain ⟨y, hy, rfl⟩ := mem_pvL hx; rw [cells_pv, pvL_length]; exact h2 y hy) (by rw [flat_pv]; exact j1) h4
        (fun i hi => ⟨.inr (by simp), by
          have hi' : i < l.length * es := by rw [← h9] at hi; simp at hi; omega
          simp only [World.cell?, h5, Nat.zero_add]
          have : cs[i]? = cur[i]? := by rw [← h9, List.getElem?_take_of_lt hi']; simp
          simpa using this.symm⟩) (by omega) h7.1 j2
      rw [e1] at this
      exact this
  | @own l cs fq xs vs fp b e h1 h2 h3 _ i1 i2 =>
    have j2 := i2.mono (S' := fun b' o => S b' o ∨ b' ∈ (b :: fq ++ fp)) (w' := w) (fun b' o h => h.elim .inl fun h => .inr (by simp [h])) (fun _ _ _ => rfl) (by simp)
    have j1 := i1.mono (S' := fun b' o => S b' o ∨ b' ∈ (b :: fq ++ fp)) (w' := w) (fun b' o h => h.elim .inl fun h => .inr (by simp [h])) (fun _ _ _ => rfl) (by simp)
    have := R.ip (S := fun b' o => S b' o ∨ b' ∈ (b :: fq ++ fp)) (w := w) b 0 0 j1 h2 (fun i hi => ⟨.inr (by simp), by simp [World.cell?, h3]⟩) j2
    exact this
  | ti b o es h1 h2 h3 h4 h5 h6 h8 _ _ i2 =>
    exact .ti b o es h1 h2 h3 (h4.mono (fun _ _ h => .inl h) (fun _ _ _ => rfl) (by simp)) h5 (fun i hi => ⟨.inl (h6 i hi).1, (h6 i hi).2⟩) h8 i2
  | @mp es xs vs fp b k l h1 h2 _ ih => exact .any (ih.mono (fun b' o h => h.elim .inl fun h => .inr (by simp [h])) (fun _ _ _ => rfl) (by simp))
theorem R.view1 {x v fp} (h : R S w [x] [v] fp) : R (fun b o => S b o ∨ b ∈ fp) w [pv x] [v] [] := by simpa [pvL] using h.view
theorem R.leaf {z u fz} (h : R S w [z] [u] fz) (hu : u.oneCell' = true) : z.cells = [z] := by
  cases h <;> simp_all [V.cells, Value.oneCell']
theorem flat_len {l : List V} {es : Nat} (h : ∀ x ∈ l, x.cells.length = es) : (l.flatMap V.cells).length = l.length * es := by
  induction l with
  | nil => simp
  | cons x l ih =>
    simp only [List.flatMap_cons, List.length_append, ih (fun y hy => h y (by simp [hy])), h x (by simp), List.length_cons]
    rw [Nat.add_mul]; omega
theorem flat_get {l : List V} {es : Nat} (h : ∀ x ∈ l, x.cells.length = es) {i j : Nat} {x z : V} (hx : l[i]? = some x) (hz : x.cells[j]? = some z) :
    (l.flatMap V.cells)[i * es + j]? = some z := by
  induction l generalizing i with
  | nil => simp at hx
  | cons y l ih =>
    have hj : j < x.cells.length := by
      rcases Nat.lt_or_ge j x.cells.length with h' | h'
      · exact h'
      · simp [List.getElem?_eq_none h'] at hz
    cases i with
    | zero =>
      simp at hx; subst hx
      simp only [List.flatMap_cons, Nat.zero_mul, Nat.zero_add]
      rw [List.getElem?_append_left hj]; exact hz
    | succ i =>
      simp at hx
      have hy := h y (by simp)
      simp only [List.flatMap_cons]
      rw [List.getElem?_append_right (by rw [hy, Nat.add_mul]; omega), hy]
      have : (i + 1) * es + j - es = i * es + j := by rw [Nat.add_mul]; omega
      rw [this]
      exact ih (fun y hy => h y (by simp [hy])) hx
theorem recell_len {x z' : V} {j : Nat} (hj : j < x.cells.length) (hz : z'.cells = [z']) : (x.recell (x.cells.set j z')).cells = x.cells.set j z' := by
  cases x with
  | agg l => rfl
  | _ =>
    simp only [V.cells, List.length_singleton] at hj
    obtain rfl : j = 0 := by omega
    simpa [V.recell, V.cells] using hz
theorem flat_set {l : List V} {es : Nat} (h : ∀ x ∈ l, x.cells.length = es) {i j : Nat} {x z' : V} (hx : l[i]? = some x) (hj : j < x.cells.length) (hz : z'.cells = [z']) :
    (l.modify i fun y => y.recell (x.cells.set j z')).flatMap V.cells = (l.flatMap V.cells).set (i * es + j) z' := by
  induction l generalizing i with
  | nil => simp at hx
  | cons y l ih =>
    cases i with
    | zero =>
      simp at hx; subst hx
      simp only [List.modify_zero_cons, List.flatMap_cons, Nat.zero_mul, Nat.zero_add]
      rw [List.set_append_left _ _ hj]
      congr 1
      exact recell_len hj hz
    | succ i =>
      simp at hx
      have hy := h y (by simp)
      simp only [List.modify_succ_cons, List.flatMap_cons]
      rw [List.set_append_right _ _ (by rw [hy, Nat.add_mul]; omega), hy]
      have : (i + 1) * es + j - es = i * es + j := by rw [Nat.add_mul]; omega
      rw [this, ih (fun y hy => h y (by simp [hy])) hx]
theorem mem_modify {l : List V} {es i j : Nat} {x z' : V} (h : ∀ x ∈ l, x.cells.length = es) (hx : l[i]? = some x) (hj : j < x.cells.length) (hz : z'.cells = [z']) :
    ∀ y ∈ l.modify i (fun y => y.recell (x.cells.set j z')), y.cells.length = es := by
  intro y hy
  obtain ⟨k, hk, e⟩ := List.mem_iff_getElem.1 hy
  rw [List.getElem_modify] at e
  split at e
  · rename_i e2
    subst e2
    have hil : i < l.length := by simpa using hk
    have hx' : l[i] = x := by simpa [List.getElem?_eq_getElem hil] using hx
    rw [← e, hx', recell_len hj hz, List.length_set]
    exact h x (by rw [← hx']; exact List.getElem_mem _)
  · rw [← e]; exact h _ (List.getElem_mem _)
def addrOf : V → Value → Nat → Nat → Option Addr
  | .own _, .pointer (some ⟨b, o, none⟩), _, j => some ⟨b, o + j, none⟩
  | .uq l, .slice (some ⟨b, o, none⟩) _ _, i, j => match l with | x :: _ => some ⟨b, o + (i * x.cells.length + j), none⟩ | [] => none
  | _, _, _, _ => none
theorem R.focus {X v fp} (h : R S w [X] [v] fp) (hn : fp.Nodup) {i j : Nat} {cs : List V} {z : V} (hr : X.row i = some cs) (hz : cs[j]? = some z) :
    ∃ b o u fz fr, addrOf X v i j = some ⟨b, o, none⟩ ∧ w.cell? ⟨b, o, none⟩ = some u ∧ u.oneCell' = true ∧ w.frozen? ⟨b, o, none⟩ = false ∧ R S w [z] [u] fz ∧ fp.Perm (b :: (fz ++ fr)) ∧
      ∀ (S' : Nat → Nat → Prop) (w' : World) z' u' fz', (∀ b o, S b o → S' b o) → (∀ b o, S b o → w'.cell? ⟨b, o, none⟩ = w.cell? ⟨b, o, none⟩) → (∀ k ∈ fr, w'.heap[k]? = w.heap[k]?) →
        R S' w' [z'] [u'] fz' → u'.oneCell' = true → w'.heap[b]? = (w.setCell ⟨b, o, none⟩ u').heap[b]? →
        ∃ fp', R S' w' [X.setCell i j z'] [v] fp' ∧ fp'.Perm (b :: (fz' ++ fr)) := by
  cases h with
  | c h | any h | agg _ _ h | tup _ h | clo _ h | sl0 h | sl b o cap es h1 h2 h3 h4 h5 h6 h7 h8 h | ip b o j h4 h5 h6 h | uq0 h | mp b k l h1 h2 h | ti b o es h1 h2 h3 h4 h5 h6 h8 h => simp [V.row] at hr
  | @own l us fq xs vs fp b e h1 h2 h3 h =>
    cases h
    simp only [V.row] at hr
    split at hr
    · rename_i hi; subst hi
      cases hr
      obtain ⟨u, f0, f1, f2, hu, rfl, hR, hA, hB⟩ := h1.at j z hz
      have hul : j < us.length := by
        rcases Nat.lt_or_ge j us.length with h' | h'
        · exact h'
        · simp [List.getElem?_eq_none h'] at hu
      have hjl : j < cs.length := by have := h1.length; omega
      refine ⟨b, j, u, f1, f0 ++ f2, by simp [addrOf], by simp [World.cell?, h3, hu], h2 u (List.mem_of_getElem? hu), by simp [World.frozen?, h3], hR, ?_, ?_⟩
      · simp only [List.append_nil]
        refine List.Perm.cons b ?_
        rw [List.append_assoc]
        exact (List.perm_append_comm_assoc f0 f1 f2)
      · intro S' w' z' u' fz' hS hw hk hR' hu' hb
        have hA' := hA.mono hS hw (fun k hk' => hk k (by simp [hk']))
        have hB' := hB.mono hS hw (fun k hk' => hk k (by simp [hk']))
        have hnew := R.append hA' (R.cons hR' hB')
        have e1 : cs.take j ++ z' :: cs.drop (j + 1) = cs.set j z' := (List.set_eq_take_append_cons_drop.trans (if_pos hjl)).symm
        have e2 : us.take j ++ u' :: us.drop (j + 1) = us.set j u' := (List.set_eq_take_append_cons_drop.trans (if_pos hul)).symm
        rw [e1, e2] at hnew
        have hbl : w'.heap[b]? = some (.cells (us.set j u').toArray e (0, 0)) := by
          rw [hb]; simp only [World.setCell, Array.getElem?_modify, h3]; simp
        have hout := R.own b e hnew (fun x hx => by
          rcases List.mem_or_eq_of_mem_set hx with hx | rfl
          · exact h2 x hx
          · exact hu') hbl .nil
        have e3 : V.setCell (.own cs) 0 j z' = .own (cs.set j z') := by simp [V.setCell, V.row, V.setRow]
        rw [e3]
        refine ⟨_, hout, ?_⟩
        simp only [List.append_nil]
        exact List.Perm.cons b (List.perm_append_comm_assoc f0 fz' f2)
    · cases hr
  | @uq l us fq xs vs fp b cap e es cur h1 h2 h3 h4 h5 h6 h7 h8 h9 h =>
    cases h
    simp only [V.row, Option.map_eq_some_iff] at hr
    obtain ⟨x, hx, rfl⟩ := hr
    have hfg := flat_get h2 hx hz
    obtain ⟨u, f0, f1, f2, hu, rfl, hR, hA, hB⟩ := h3.at (i * es + j) z hfg
    have hjl : j < x.cells.length := by
      rcases Nat.lt_or_ge j x.cells.length with h' | h'
      · exact h'
      · simp [List.getElem?_eq_none h'] at hz
    have hul : i * es + j < us.length := by
      rcases Nat.lt_or_ge (i * es + j) us.length with h' | h'
      · exact h'
      · simp [List.getElem?_eq_none h'] at hu
    have hlen := flat_len h2
    have h3l := h3.length
    have hil : i < l.length := by
      rcases Nat.lt_or_ge i l.length with h' | h'
      · exact h'
      · simp [List.getElem?_eq_none h'] at hx
    have hcell : cur[i * es + j]? = some u := by
      have : us[i * es + j]? = cur[i * es + j]? := by rw [← h9, List.getElem?_take_of_lt (by omega)]; simp
      rw [← this, hu]
    have haddr : addrOf (.uq l) (.slice (some ⟨b, 0, none⟩) l.length cap) i j = some ⟨b, i * es + j, none⟩ := by
      cases l with
      | nil => simp at hil
      | cons y l => simp [addrOf, h2 y (by simp)]
    refine ⟨b, i * es + j, u, f1, f0 ++ f2, haddr, by simp [World.cell?, h5, hcell], h4 u (List.mem_of_getElem? hu), by simp [World.frozen?, h5], hR, ?_, ?_⟩
    · simp only [List.append_nil]
      refine List.Perm.cons b ?_
      rw [List.append_assoc]
      exact (List.perm_append_comm_assoc f0 f1 f2)
    · intro S' w' z' u' fz' hS hw hk hR' hu' hb
      have hzl := hR'.leaf hu'
      have hA' := hA.mono hS hw (fun k hk' => hk k (by simp [hk']))
      have hB' := hB.mono hS hw (fun k hk' => hk k (by simp [hk']))
      have hnew := R.append hA' (R.cons hR' hB')
      have e1 : (l.flatMap V.cells).take (i * es + j) ++ z' :: (l.flatMap V.cells).drop (i * es + j + 1) = (l.flatMap V.cells).set (i * es + j) z' :=
        (List.set_eq_take_append_cons_drop.trans (if_pos (by omega))).symm
      have e2 : us.take (i * es + j) ++ u' :: us.drop (i * es + j + 1) = us.set (i * es + j) u' := (List.set_eq_take_append_cons_drop.trans (if_pos hul)).symm
      rw [e1, e2, ← flat_set h2 hx hjl hzl] at hnew
      have hbl : w'.heap[b]? = some (.cells (cur.setIfInBounds (i * es + j) u') e (0, 0)) := by
        rw [hb]; simp only [World.setCell, Array.getElem?_modify, h5]; simp
      have hml : (l.modify i fun y => y.recell (x.cells.set j z')).length = l.length := by simp
      have hout := R.uq (S := S') (w := w') b cap e es (cur.setIfInBounds (i * es + j) u') h1 (mem_modify h2 hx hjl hzl) hnew (fun y hy => by
        rcases List.mem_or_eq_of_mem_set hy with hy | rfl
        · exact h4 y hy
        · exact hu') hbl (by rw [hml]; exact h6) ⟨h7.1, fun e => absurd (congrArg List.length e) (by rw [hml]; simp; intro e2; rw [e2] at hil; simp at hil)⟩ (by simpa using h8) (by
        rw [hml, ← h9]
        simp only [Array.toList_setIfInBounds]
        rw [List.take_set]) R.nil
      rw [hml] at hout
      have e3 : V.setCell (.uq l) i j z' = .uq (l.modify i fun y => y.recell (x.cells.set j z')) := by
        simp [V.setCell, V.row, hx, V.setRow]
      rw [e3]
      refine ⟨_, hout, ?_⟩
      simp only [List.append_nil]
      exact List.Perm.cons b (List.perm_append_comm_assoc f0 fz' f2)
end
end Go.Am
end
section
namespace Go.Am
open Go.RowKit
def fol (w : World) : V → Value → Path → Option Value
  | _, v, [] => some v
  | X, v, (i, j) :: q => (addrOf X v i j).bind fun a => (w.cell? a).bind fun u => (X.cell i j).bind fun z => fol w z u q
theorem recell_set_len {x z' : V} {j : Nat} (hz : z'.cells = [z']) : (x.recell (x.cells.set j z')).cells.length = x.cells.length := by
  rcases Nat.lt_or_ge j x.cells.length with hj | hj
  · rw [recell_len hj hz, List.length_set]
  · rw [List.set_eq_of_length_le hj]
    cases x <;> simp [V.recell, V.cells]
theorem addr_own (l l' : List V) (v : Value) (i j : Nat) : addrOf (.own l) v i j = addrOf (.own l') v i j := by
  cases v <;> (try rfl)
  rename_i a
  rcases a with _ | ⟨b, o, s⟩
  · rfl
  · cases s <;> rfl
theorem addr_uq (y y' : V) (l l' : List V) (h : y.cells.length = y'.cells.length) (v : Value) (i j : Nat) : addrOf (.uq (y :: l)) v i j = addrOf (.uq (y' :: l')) v i j := by
  cases v <;> (try rfl)
  rename_i a n c
  rcases a with _ | ⟨b, o, s⟩
  · rfl
  · cases s
    · simp only [addrOf, h]
    · rfl
theorem addr_setCell {X z' : V} (hz : z'.cells = [z']) (v : Value) (i0 j0 i j : Nat) : addrOf (X.setCell i0 j0 z') v i j = addrOf X v i j := by
  cases X with
  | own l =>
    simp only [V.setCell, V.row]
    by_cases h : i0 = 0
    · simp only [h, ↓reduceIte, V.setRow]; exact addr_own _ _ _ _ _
    · simp only [h, ↓reduceIte]
  | uq l =>
    simp only [V.setCell, V.row]
    cases hx : l[i0]? with
    | none => rfl
    | some x =>
      simp only [Option.map_some, V.setRow]
      cases l with
      | nil => simp at hx
      | cons y l =>
        cases i0 with
        | zero =>
          simp at hx; subst hx
          simp only [List.modify_zero_cons]
          exact addr_uq _ _ _ _ (recell_set_len hz) _ _ _
        | succ i0 => simp only [List.modify_succ_cons]; exact addr_uq _ _ _ _ rfl _ _ _
  | _ => rfl
theorem row_setCell {X z' : V} {i i0 j0 : Nat} {cs : List V} (h : (X.setCell i0 j0 z').row i = some cs) : ∃ cs0, X.row i = some cs0 := by
  cases X with
  | own l =>
    by_cases hi : i = 0
    · exact ⟨l, by simp [V.row, hi]⟩
    · by_cases h0 : i0 = 0
      · simp [V.setCell, V.row, h0, V.setRow, hi] at h
      · simp [V.setCell, V.row, h0, hi] at h
  | uq l =>
    cases hl : l[i]? with
    | some y => exact ⟨_, by simp [V.row, hl]; rfl⟩
    | none =>
      have hn : l.length ≤ i := by simpa using hl
      unfold V.setCell at h
      split at h
      · simp only [V.setRow, V.row, Option.map_eq_some_iff] at h
        obtain ⟨a, ha, _⟩ := h
        rw [List.getElem?_eq_none (by simpa using hn)] at ha
        cases ha
      · simp [V.row, hl] at h
  | _ => simp [V.setCell, V.row] at h
theorem cell_row {X : V} {i j : Nat} {z : V} (h : X.cell i j = some z) : ∃ cs, X.row i = some cs ∧ cs[j]? = some z := by
  simp only [V.cell, Option.bind_eq_some_iff] at h
  exact h
theorem setCell_cell {X z z' : V} {i j : Nat} (hz : z'.cells = [z']) (h : X.cell i j = some z) : (X.setCell i j z').cell i j = some z' := by
  obtain ⟨cs, hr, hc⟩ := cell_row h
  have hj : j < cs.length := by
    rcases Nat.lt_or_ge j cs.length with h' | h'
    · exact h'
    · simp [List.getElem?_eq_none h'] at hc
  simp only [V.setCell, hr]
  cases X with
  | own l =>
    simp only [V.row] at hr
    split at hr
    · rename_i hi; subst hi; cases hr; simp [V.cell, V.row, V.setRow, hj]
    · cases hr
  | uq l =>
    simp only [V.row, Option.map_eq_some_iff] at hr
    obtain ⟨x, hx, rfl⟩ := hr
    simp only [V.setRow, V.cell, V.row, List.getElem?_modify, hx]
    have : (x.recell (x.cells.set j z')).cells = x.cells.set j z' := recell_len hj hz
    simp [this, hj]
  | _ => simp [V.row] at hr
theorem setP_leaf {z C' : V} {q : Path} (h : q = [] → C'.cells = [C']) (hz : z.cells = [z]) : (z.setP q C').cells = [z.setP q C'] := by
  cases q with
  | nil => simpa [V.setP] using h rfl
  | cons ij q =>
    obtain ⟨i, j⟩ := ij
    simp only [V.setP]
    cases hc : z.cell i j with
    | none => exact hz
    | some y =>
      simp only
      obtain ⟨cs, hr, _⟩ := cell_row hc
      simp only [V.setCell, hr]
      cases z with
      | own l => simp only [V.setRow]; split <;> rfl
      | uq l => rfl
      | _ => simp [V.row] at hr
theorem setCell_same_heap (w : World) (a : Addr) (u : Value) (h : w.cell? a = some u) : (w.setCell a u).heap[a.block]? = w.heap[a.block]? := by
  unfold World.cell? at h
  simp only [World.setCell, Array.getElem?_modify, ↓reduceIte]
  cases hb : w.heap[a.block]? with
  | none => rfl
  | some o =>
    rw [hb] at h
    cases o <;> simp at h ⊢
    obtain ⟨h1, h2⟩ := h
    simp only [h1, Option.isSome_none, Bool.false_eq_true, if_false]
    rename_i c e f
    have hlt : a.off < c.size := by
      rcases Nat.lt_or_ge a.off c.size with h' | h'
      · exact h'
      · simp [Array.getElem?_eq_none h'] at h2
    intro _
    apply Array.ext_getElem?
    intro k
    rw [Array.getElem?_setIfInBounds]
    split
    · rename_i e1; subst e1; exact h2.symm
    · rfl
section
variable {S : Nat → Nat → Prop} {w : World}
theorem R.path {q : Path} : ∀ {X v fp}, R S w [X] [v] fp → fp.Nodup → ∀ {C : V}, X.getP q = some C →
    ∃ u fc fr, fol w X v q = some u ∧ R S w [C] [u] fc ∧ fp.Perm (fc ++ fr) ∧ (q ≠ [] → u.oneCell' = true) ∧
      ∀ (S' : Nat → Nat → Prop) (w' : World) C' fc', (∀ b o, S b o → S' b o) → (∀ b o, S b o → w'.cell? ⟨b, o, none⟩ = w.cell? ⟨b, o, none⟩) → (∀ k ∈ fr, w'.heap[k]? = w.heap[k]?) →
        R S' w' [C'] [u] fc' →
        (∃ fp', R S' w' [X.setP q C'] [v] fp' ∧ fp'.Perm (fc' ++ fr)) ∧ fol w' (X.setP q C') v q = some u ∧
        ∀ q', q'.isPrefixOf q = true → q' ≠ q → fol w' (X.setP q C') v q' = fol w X v q' ∧
          ∀ u', fol w X v q' = some u' → ∀ D', (X.setP q C').getP q' = some D' → ∃ D, X.getP q' = some D ∧ (∀ i cs, D'.row i = some cs → ∃ cs0, D.row i = some cs0) ∧ ∀ i j, addrOf D' u' i j = addrOf D u' i j := by
  induction q with
  | nil =>
    intro X v fp h hn C hC
    simp only [V.getP, Option.some.injEq] at hC
    subst hC
    refine ⟨v, fp, [], rfl, h, by simp, fun h => absurd rfl h, ?_⟩
    intro S' w' C' fc' hS hw hk hR
    refine ⟨⟨fc', by simpa [V.setP] using hR, by simp⟩, rfl, ?_⟩
    intro q' hq' hne
    cases q' with
    | nil => exact absurd rfl hne
    | cons a q' => simp at hq'
  | cons ij q ih =>
    obtain ⟨i, j⟩ := ij
    intro X v fp h hn C hC
    simp only [V.getP, Option.bind_eq_some_iff] at hC
    obtain ⟨z, hz, hzC⟩ := hC
    obtain ⟨cs, hr, hcs⟩ := cell_row hz
    obtain ⟨b, o, u, fz, fr, ha, hu, hu1, hfz, hRz, hperm, hre⟩ := h.focus hn hr hcs
    have hnz : fz.Nodup := by
      have := hperm.nodup_iff.1 hn
      rw [List.nodup_cons] at this
      exact (List.nodup_append.1 this.2).1
    obtain ⟨u2, fc, fr2, hf2, hRC, hp2, ho2, hre2⟩ := ih hRz hnz hzC
    have hfolX : ∀ q'', fol w X v ((i, j) :: q'') = fol w z u q'' := by
      intro q''; simp [fol, ha, hu, hz]
    refine ⟨u2, fc, b :: (fr2 ++ fr), ?_, hRC, ?_, ?_, ?_⟩
    · rw [hfolX]; exact hf2
    · refine hperm.trans ?_
      refine ((hp2.append_right fr).cons b).trans ?_
      rw [List.append_assoc]
      exact List.perm_middle.symm
    · intro _
      cases q with
      | nil => simp only [fol, Option.some.injEq] at hf2; rw [← hf2]; exact hu1
      | cons a q => exact ho2 (by simp)
    · intro S' w' C' fc' hS hw hk hR
      obtain ⟨⟨fz', hRz', hpz'⟩, hfz', hpre⟩ := hre2 S' w' C' fc' hS hw (fun k hk' => hk k (by simp [hk'])) hR
      have hzl : (z.setP q C').cells = [z.setP q C'] := hRz'.leaf hu1
      have hb : w'.heap[b]? = (w.setCell ⟨b, o, none⟩ u).heap[b]? := by
        rw [setCell_same_heap w ⟨b, o, none⟩ u hu]; exact hk b (by simp)
      obtain ⟨fp', hR', hp'⟩ := hre S' w' (z.setP q C') u fz' hS hw (fun k hk' => hk k (by simp [hk'])) hRz' hu1 hb
      have hset : X.setP ((i, j) :: q) C' = X.setCell i j (z.setP q C') := by simp [V.setP, hz]
      have hcellw : w'.cell? ⟨b, o, none⟩ = some u := by
        rw [World.cell?_of_block (w := w) (a := ⟨b, o, none⟩) (hk b (by simp))]; exact hu
      have hfolX' : ∀ q'', fol w' (X.setP ((i, j) :: q) C') v ((i, j) :: q'') = fol w' (z.setP q C') u q'' := by
        intro q''
        rw [hset]
        simp only [fol]
        rw [addr_setCell hzl, ha]
        simp only [Option.bind_some, hcellw, setCell_cell hzl hz]
      refine ⟨⟨fp', by rw [hset]; exact hR', ?_⟩, ?_, ?_⟩
      · refine hp'.trans ?_
        refine ((hpz'.append_right fr).cons b).trans ?_
        rw [List.append_assoc]
        exact List.perm_middle.symm
      · rw [hfolX']; exact hfz'
      · intro q' hq' hne
        cases q' with
        | nil =>
          refine ⟨rfl, ?_⟩
          intro u' hu' D' hD'
          simp only [fol, Option.some.injEq] at hu'
          subst hu'
          simp only [V.getP, Option.some.injEq] at hD'
          subst hD'
          refine ⟨X, rfl, ?_, ?_⟩
          · intro i1 cs1 h1
            rw [hset] at h1
            exact row_setCell h1
          · intro i1 j1
            rw [hset]
            exact addr_setCell hzl _ _ _ _ _
        | cons a q' =>
          simp only [List.isPrefixOf, Bool.and_eq_true, beq_iff_eq] at hq'
          obtain ⟨rfl, hq'⟩ := hq'
          have hne' : q' ≠ q := fun e => hne (by rw [e])
          obtain ⟨h1, h2⟩ := hpre q' hq' hne'
          refine ⟨by rw [hfolX', hfolX]; exact h1, ?_⟩
          intro u' hu' D' hD'
          rw [hfolX] at hu'
          rw [hset] at hD'
          simp only [V.getP, setCell_cell hzl hz, Option.bind_some] at hD'
          obtain ⟨D, hD, h3, h4⟩ := h2 u' hu' D' hD'
          exact ⟨D, by simp [V.getP, hz, hD], h3, h4⟩
theorem fol_mono {w' : World} {q : Path} : ∀ {X v fp}, R S w [X] [v] fp → fp.Nodup → (∀ b ∈ fp, w'.heap[b]? = w.heap[b]?) → ∀ {C : V}, X.getP q = some C → fol w' X v q = fol w X v q := by
  induction q with
  | nil => intros; rfl
  | cons ij q ih =>
    obtain ⟨i, j⟩ := ij
    intro X v fp h hn hk C hC
    simp only [V.getP, Option.bind_eq_some_iff] at hC
    obtain ⟨z, hz, hzC⟩ := hC
    obtain ⟨cs, hr, hcs⟩ := cell_row hz
    obtain ⟨b, o, u, fz, fr, ha, hu, hu1, hfz, hRz, hperm, hre⟩ := h.focus hn hr hcs
    have hnz : fz.Nodup := by
      have := hperm.nodup_iff.1 hn
      rw [List.nodup_cons] at this
      exact (List.nodup_append.1 this.2).1
    have hcellw : w'.cell? ⟨b, o, none⟩ = some u := by
      rw [World.cell?_of_block (w := w) (a := ⟨b, o, none⟩) (hk b (hperm.mem_iff.2 (by simp)))]; exact hu
    simp only [fol, ha, Option.bind_some, hcellw, hu, hz]
    exact ih hRz hnz (fun k hk' => hk k (hperm.mem_iff.2 (by simp [hk']))) hzC
end
end Go.Am
end
section
namespace Go.Am
def gcell : Option (Nat × Value) := none
def Glo (S : Nat → Nat → Prop) (w : World) : Prop := ∀ b v, gcell = some (b, v) → S b 0 ∧ w.cell? ⟨b, 0, none⟩ = some v
theorem Glo.mono {S S' : Nat → Nat → Prop} {w w' : World} (h : Glo S w) (hS : ∀ b o, S b o → S' b o) (hw : ∀ b o, S b o → w'.cell? ⟨b, o, none⟩ = w.cell? ⟨b, o, none⟩) : Glo S' w' :=
  fun b v e => ⟨hS b 0 (h b v e).1, (hw b 0 (h b v e).1).trans (h b v e).2⟩
theorem Glo.none (S : Nat → Nat → Prop) (w : World) (h : gcell = none) : Glo S w := fun b v e => by rw [h] at e; cases e
end Go.Am
end
section
set_option maxHeartbeats 0
namespace Go.Am
open Go.RowKit
structure Ctx where
  w0 : World
  S0 : Nat → Nat → Prop
  fp0 : List Nat
  lo : Nat := 0
  pin : Nat → Value := fun _ => undef
  glo : ∀ b v, gcell = some (b, v) → S0 b 0 ∧ b ∉ fp0 ∧ b < w0.heap.size ∧ w0.cell? ⟨b, 0, none⟩ = some v
structure Mem (C : Ctx) (S : Nat → Nat → Prop) (w : World) : Prop where
  sub : ∀ b o, C.S0 b o → S b o
  lt : ∀ b o, S b o → b < w.heap.size
  new : ∀ b o, S b o → C.S0 b o ∨ b ∈ C.fp0 ∨ C.w0.heap.size ≤ b
  os : w.os = C.w0.os
  tape : w.tape = C.w0.tape
  output : w.output = C.w0.output
  size : C.w0.heap.size ≤ w.heap.size
  block : ∀ k, k < C.w0.heap.size → k ∉ C.fp0 → w.heap[k]? = C.w0.heap[k]?
theorem Mem.glo {C : Ctx} {S : Nat → Nat → Prop} {w : World} (h : Mem C S w) : Glo S w := fun b v e => by
  obtain ⟨h1, h2, h3, h4⟩ := C.glo b v e
  exact ⟨h.sub b 0 h1, by rw [World.cell?_of_block (w := C.w0) (a := ⟨b, 0, none⟩) (h.block b h3 h2)]; exact h4⟩
abbrev tm (a : Act) (s : Nat) : Value := a.tmps.getD s undef
def Ali (Γ : Env) (a : Act) (w : World) : E → Value → Prop
  | .p _, _ => True
  | .al r q, v => ∀ D, (cont Γ r).getP q = some D → fol w (cont Γ r) (tm a r) q = some v
  | .pa r q i j, v => ∀ D cs, (cont Γ r).getP q = some D → D.row i = some cs → ∃ u x, fol w (cont Γ r) (tm a r) q = some u ∧ addrOf D u i j = some x ∧ v = .pointer (some x)
  | .ag r q i j n, v => ∀ D cs, (cont Γ r).getP q = some D → D.row i = some cs → j + n ≤ cs.length → ∃ u us, fol w (cont Γ r) (tm a r) q = some u ∧ v = .agg us ∧ us.size = n ∧
      ∀ k, k < n → ∃ x, addrOf D u i (j + k) = some x ∧ w.cell? x = us[k]?
  | .cl f l, v => v = .func (.func f) #[] (l.map (tm a)).toArray
  | .bx e, v => ∃ y u, v = .pointer (some y) ∧ w.cell? y = some u ∧ e.cont = .any ∧ Ali Γ a w e u
structure G (C : Ctx) (S : Nat → Nat → Prop) (F : Nat → List Nat) (Γ : Env) (a : Act) (w : World) : Prop where
  mem : Mem C S w
  slots : ∀ s, R S w [cont Γ s] [tm a s] (F s)
  nodup : ∀ s, (F s).Nodup
  disj : ∀ s t b, s ≠ t → b ∈ F s → b ∉ F t
  apart : ∀ s b o, b ∈ F s → ¬ S b o
  mine : ∀ s b, b ∈ F s → b < w.heap.size ∧ (b ∈ C.fp0 ∨ C.w0.heap.size ≤ b)
  ali : ∀ s, Ali Γ a w (Γ s) (tm a s)
  big : ∀ s, a.tmps.size ≤ s → Γ s = dead
  defers : a.defers = []
  pins : ∀ s, s < C.lo → tm a s = C.pin s
theorem cont_bx {e e' : E} (h : e.cont = .any) : e ≠ .bx e' := by rintro rfl; cases h
theorem kill_kill (d : Nat) (x : E) : kill d (kill d x) = kill d x := by
  induction x with
  | p y => rfl
  | al r q => simp only [kill]; split <;> rename_i h <;> simp [kill, dead, h]
  | pa r q i j => simp only [kill]; split <;> rename_i h <;> simp [kill, dead, h]
  | ag r q i j n => simp only [kill]; split <;> rename_i h <;> simp [kill, dead, h]
  | cl f l => simp only [kill]; split <;> rename_i h <;> simp [kill, dead, h]
  | bx e ih => simp only [kill, ih]
theorem cont_kill (d : Nat) (x : E) : (kill d x).cont = x.cont := by
  cases x <;> simp only [kill] <;> (try split) <;> rfl
theorem cont_blur (r : Nat) (q : Path) (x : E) : (blur r q x).cont = x.cont := by
  cases x <;> simp only [blur] <;> (try split) <;> rfl
theorem cont_put (Γ : Env) (d : Nat) (x : E) (s : Nat) : cont (put Γ d x) s = if s = d then x.cont else cont Γ s := by
  simp only [cont, put]; split
  · rfl
  · exact cont_kill _ _
theorem cont_upd (Γ : Env) (r : Nat) (q : Path) (y : V) (s : Nat) : cont (upd Γ r q y) s = if s = r then (cont Γ r).setP q y else cont Γ s := by
  simp only [cont, upd]; split
  · rfl
  · exact cont_blur _ _ _
theorem tm_set (a : Act) (d : Nat) (v : Value) (hd : d < a.tmps.size) (s : Nat) : tm { a with tmps := a.tmps.setIfInBounds d v } s = if s = d then v else tm a s := by
  simp only [tm, Array.getD_eq_getD_getElem?, Array.getElem?_setIfInBounds]
  by_cases h : d = s
  · subst h; simp [hd]
  · rw [if_neg h, if_neg (fun e => h e.symm)]
theorem getP_any {q : Path} {D : V} (h : V.any.getP q = some D) : q = [] ∧ D = .any := by
  cases q with
  | nil => simp [V.getP] at h; exact ⟨rfl, h.symm⟩
  | cons a q => simp [V.getP, V.cell, V.row] at h
section
variable {C : Ctx} {S S' : Nat → Nat → Prop} {F : Nat → List Nat} {Γ : Env} {a : Act} {w w' : World}
theorem Ali.killed {Γ' : Env} {a' : Act} {d : Nat} (hroot : ∀ r, r ≠ d → cont Γ' r = cont Γ r ∧ tm a' r = tm a r) : ∀ (x : E) (v : Value), Ali Γ a w x v → Ali Γ' a' w (kill d x) v := by
  intro x
  induction x with
  | p y => intro v _; trivial
  | al r q =>
    intro v hA
    simp only [kill]
    split
    · trivial
    · rename_i hr
      obtain ⟨e1, e2⟩ := hroot r hr
      intro D hD; rw [e1] at hD ⊢; rw [e2]; exact hA D hD
  | pa r q i j =>
    intro v hA
    simp only [kill]
    split
    · trivial
    · rename_i hr
      obtain ⟨e1, e2⟩ := hroot r hr
      intro D cs hD hcs; rw [e1] at hD ⊢; rw [e2]; exact hA D cs hD hcs
  | ag r q i j n =>
    intro v hA
    simp only [kill]
    split
    · trivial
    · rename_i hr
      obtain ⟨e1, e2⟩ := hroot r hr
      intro D cs hD hcs; rw [e1] at hD ⊢; rw [e2]; exact hA D cs hD hcs
  | cl f l =>
    intro v hA
    simp only [kill]
    split
    · trivial
    · rename_i hr
      refine Eq.trans hA ?_
      congr 2
      apply List.map_congr_left
      intro s' hs'
      exact (hroot s' (fun e => hr (e ▸ hs'))).2.symm
  | bx e ih =>
    intro v hA
    obtain ⟨y, u, h1, h2, h3, h4⟩ := hA
    exact ⟨y, u, h1, h2, by rw [cont_kill]; exact h3, ih u h4⟩
theorem G.set (h : G C S F Γ a w) {d : Nat} {x : E} {v : Value} {fd : List Nat} (hlo : C.lo ≤ d) (hd : d < a.tmps.size) (hR : R S w [x.cont] [v] fd) (hn : fd.Nodup)
    (hdis : ∀ s b, s ≠ d → b ∈ fd → b ∉ F s) (hap : ∀ b o, b ∈ fd → ¬ S b o) (hm : ∀ b, b ∈ fd → b < w.heap.size ∧ (b ∈ C.fp0 ∨ C.w0.heap.size ≤ b))
    (hali : Ali Γ a w x v) (hcl : kill d x = x) :
    G C S (fun s => if s = d then fd else F s) (put Γ d x) { a with tmps := a.tmps.setIfInBounds d v } w where
  mem := h.mem
  slots s := by
    rw [cont_put, tm_set a d v hd]
    split
    · exact hR
    · exact h.slots s
  nodup s := by
    split
    · exact hn
    · exact h.nodup s
  disj s t b hst hb := by
    split at hb <;> split
    · omega
    · rename_i h1 h2; exact hdis t b h2 hb
    · rename_i h1 h2; exact fun hb' => hdis s b h1 hb' hb
    · exact h.disj s t b hst hb
  apart s b o hb := by
    split at hb
    · exact hap b o hb
    · exact h.apart s b o hb
  mine s b hb := by
    split at hb
    · exact hm b hb
    · exact h.mine s b hb
  ali s := by
    have hroot : ∀ r, r ≠ d → cont (put Γ d x) r = cont Γ r ∧ tm { a with tmps := a.tmps.setIfInBounds d v } r = tm a r := by
      intro r hr; rw [cont_put, tm_set a d v hd, if_neg hr, if_neg hr]; exact ⟨rfl, rfl⟩
    rw [tm_set a d v hd]
    simp only [put]
    split
    · have := Ali.killed hroot x v hali
      rw [hcl] at this; exact this
    · exact Ali.killed hroot _ _ (h.ali s)
  big s hs := by
    have : s ≠ d := by simp only [Array.size_setIfInBounds] at hs; omega
    simp only [put, if_neg this]
    rw [h.big s (by simpa using hs)]
    rfl
  defers := h.defers
  pins s hs := by rw [tm_set a d v hd, if_neg (by omega)]; exact h.pins s hs
theorem G.boxAt (h : G C S F Γ a w) {s : Nat} {e : E} (hs : Γ s = .bx e) : ∃ b, tm a s = .pointer (some ⟨b, 0, none⟩) ∧ b ∈ F s := by
  have h1 := h.slots s
  rw [show cont Γ s = .own [.any] by simp [cont, hs, E.cont]] at h1
  generalize hv : tm a s = v at h1
  generalize hf : F s = f at h1
  cases h1 with
  | own b e h1 h2 h3 h4 => exact ⟨b, by cases h4; rfl, by simp⟩
theorem G.at (h : G C S F Γ a w) {r : Nat} {q : Path} {D : V} (hD : (cont Γ r).getP q = some D) :
    ∃ u fc fr, fol w (cont Γ r) (tm a r) q = some u ∧ R S w [D] [u] fc ∧ (F r).Perm (fc ++ fr) := by
  obtain ⟨u, fc, fr, h1, h2, h3, _⟩ := (h.slots r).path (h.nodup r) hD
  exact ⟨u, fc, fr, h1, h2, h3⟩
theorem G.cellAt (h : G C S F Γ a w) {r : Nat} {q : Path} {D : V} (hD : (cont Γ r).getP q = some D) {i j : Nat} {z : V} (hz : D.cell i j = some z) :
    ∃ u b o uz fz, fol w (cont Γ r) (tm a r) q = some u ∧ addrOf D u i j = some ⟨b, o, none⟩ ∧ w.cell? ⟨b, o, none⟩ = some uz ∧ uz.oneCell' = true ∧ w.frozen? ⟨b, o, none⟩ = false ∧ R S w [z] [uz] fz ∧ b ∈ F r ∧ ∀ k ∈ fz, k ∈ F r := by
  obtain ⟨u, fc, fr, h1, h2, h3⟩ := h.at hD
  have hn : fc.Nodup := (List.nodup_append.1 (h3.nodup_iff.1 (h.nodup r))).1
  obtain ⟨cs, hr, hc⟩ := cell_row hz
  obtain ⟨b, o, uz, fz, fr', ha, hu, h1', hfz, hRz, hp, _⟩ := h2.focus hn hr hc
  exact ⟨u, b, o, uz, fz, h1, ha, hu, h1', hfz, hRz, h3.mem_iff.2 (List.mem_append_left _ (hp.mem_iff.2 (by simp))), fun k hk => h3.mem_iff.2 (List.mem_append_left _ (hp.mem_iff.2 (by simp [hk])))⟩
theorem Ali.world (h : G C S F Γ a w) (hf : ∀ s b, b ∈ F s → w'.heap[b]? = w.heap[b]?) : ∀ (x : E) (v : Value), Ali Γ a w x v → (∀ e, x = .bx e → ∀ y, v = .pointer (some y) → w'.cell? y = w.cell? y) → Ali Γ a w' x v := by
  intro x
  induction x with
  | p y => intro v hx hb; trivial
  | al r q =>
    intro v hx hb
    intro D hD
    rw [fol_mono (h.slots r) (h.nodup r) (hf r) hD]; exact hx D hD
  | pa r q i j =>
    intro v hx hb
    intro D cs hD hcs
    rw [fol_mono (h.slots r) (h.nodup r) (hf r) hD]; exact hx D cs hD hcs
  | ag r q i j n =>
    intro v hx hb
    intro D cs hD hcs hjn
    obtain ⟨u, us, h1, h2, h3, h4⟩ := hx D cs hD hcs hjn
    rw [fol_mono (h.slots r) (h.nodup r) (hf r) hD]
    refine ⟨u, us, h1, h2, h3, fun k hk => ?_⟩
    obtain ⟨y, h5, h6⟩ := h4 k hk
    refine ⟨y, h5, ?_⟩
    obtain ⟨z, hz⟩ : ∃ z, cs[j + k]? = some z := ⟨cs[j + k]'(by omega), List.getElem?_eq_getElem (by omega)⟩
    obtain ⟨u', b, o, uz, fz, g1, g2, g3, _, _, _, g4, _⟩ := h.cellAt hD (z := z) (i := i) (j := j + k) (by simp [V.cell, hcs, hz])
    rw [h1] at g1; cases g1
    rw [g2] at h5; cases h5
    rw [World.cell?_of_block (w := w) (a := ⟨b, o, none⟩) (hf r b g4)]; exact h6
  | cl f l => intro v hx hb; exact hx
  | bx e ih =>
    intro v hx hb
    obtain ⟨y, u, h1, h2, h3, h4⟩ := hx
    exact ⟨y, u, h1, (hb e rfl y h1).trans h2, h3, ih u h4 (fun e' he => absurd he (cont_bx h3))⟩
theorem G.boxWorld (h : G C S F Γ a w) {s : Nat} (hf : ∀ b, b ∈ F s → w'.heap[b]? = w.heap[b]?) : ∀ e, Γ s = .bx e → ∀ y, tm a s = .pointer (some y) → w'.cell? y = w.cell? y := by
  intro e he y hy
  obtain ⟨b, h1, h2⟩ := h.boxAt he
  rw [h1] at hy; cases hy
  exact World.cell?_of_block (w := w) (a := ⟨b, 0, none⟩) (hf b h2)
theorem G.world (h : G C S F Γ a w) (hm : Mem C S' w') (hS : ∀ b o, S b o → S' b o) (hw : ∀ b o, S b o → w'.cell? ⟨b, o, none⟩ = w.cell? ⟨b, o, none⟩)
    (hf : ∀ s b, b ∈ F s → w'.heap[b]? = w.heap[b]?) (hs : w.heap.size ≤ w'.heap.size) (hap : ∀ s b o, b ∈ F s → ¬ S' b o) : G C S' F Γ a w' where
  mem := hm
  slots s := (h.slots s).mono hS hw (hf s)
  nodup := h.nodup
  disj := h.disj
  apart := hap
  mine s b hb := ⟨Nat.lt_of_lt_of_le (h.mine s b hb).1 hs, (h.mine s b hb).2⟩
  ali s := Ali.world h hf _ _ (h.ali s) (h.boxWorld (hf s))
  big := h.big
  defers := h.defers
  pins := h.pins
theorem G.upd (h : G C S F Γ a w) {r : Nat} {q : Path} {D D' : V} (hD : (cont Γ r).getP q = some D) (hr : r < a.tmps.size) :
    ∃ u fc fr, fol w (cont Γ r) (tm a r) q = some u ∧ R S w [D] [u] fc ∧ (F r).Perm (fc ++ fr) ∧ (q ≠ [] → u.oneCell' = true) ∧
      ∀ (S' : Nat → Nat → Prop) (w' : World) fc', Mem C S' w' → (∀ b o, S b o → S' b o) → (∀ b o, S b o → w'.cell? ⟨b, o, none⟩ = w.cell? ⟨b, o, none⟩) →
        (∀ k ∈ fr, w'.heap[k]? = w.heap[k]?) → (∀ s k, s ≠ r → k ∈ F s → w'.heap[k]? = w.heap[k]?) → w.heap.size ≤ w'.heap.size → R S' w' [D'] [u] fc' → fc'.Nodup →
        (∀ b, b ∈ fc' → b ∉ fr) → (∀ s b, s ≠ r → b ∈ fc' → b ∉ F s) → (∀ b o, b ∈ fc' → ¬ S' b o) → (∀ b o, b ∈ fr → ¬ S' b o) → (∀ s b o, s ≠ r → b ∈ F s → ¬ S' b o) →
        (∀ b, b ∈ fc' → b < w'.heap.size ∧ (b ∈ C.fp0 ∨ C.w0.heap.size ≤ b)) →
        (∀ i cs, D'.row i = some cs → (∃ cs0, D.row i = some cs0) ∧ ∀ j, addrOf D' u i j = addrOf D u i j) →
        ∃ fp', fp'.Perm (fc' ++ fr) ∧ G C S' (fun s => if s = r then fp' else F s) (upd Γ r q D') a w' := by
  obtain ⟨u, fc, fr, h1, h2, h3, h4, h5⟩ := (h.slots r).path (h.nodup r) hD
  refine ⟨u, fc, fr, h1, h2, h3, h4, ?_⟩
  intro S' w' fc' hm hS hw hk hk' hsz hR hn hd1 hd2 ha1 ha2 ha3 hmine hsh
  obtain ⟨⟨fp', hR', hp⟩, hfq, hpre⟩ := h5 S' w' D' fc' hS hw hk hR
  have hnr : fr.Nodup := (List.nodup_append.1 (h3.nodup_iff.1 (h.nodup r))).2.1
  have hmem : ∀ b, b ∈ fp' ↔ b ∈ fc' ∨ b ∈ fr := fun b => by rw [hp.mem_iff, List.mem_append]
  have hfrF : ∀ b, b ∈ fr → b ∈ F r := fun b hb => h3.mem_iff.2 (List.mem_append_right _ hb)
  refine ⟨fp', hp, ?_⟩
  have hother : ∀ s, s ≠ r → (R S' w' [cont Γ s] [tm a s] (F s)) := fun s hs => (h.slots s).mono hS hw (fun k hk'' => hk' s k hs hk'')
  refine ⟨hm, ?_, ?_, ?_, ?_, ?_, ?_, ?_, h.defers, h.pins⟩
  · intro s
    rw [cont_upd]
    split
    · rename_i e; subst e; exact hR'
    · rename_i hs; exact hother s hs
  · intro s
    split
    · rw [hp.nodup_iff, List.nodup_append]
      exact ⟨hn, hnr, fun b hb c hc e => hd1 b hb (e ▸ hc)⟩
    · exact h.nodup s
  · intro s t b hst hb
    split at hb <;> split
    · omega
    · rename_i e1 e2
      rcases (hmem b).1 hb with hb | hb
      · exact hd2 t b e2 hb
      · exact h.disj r t b (fun e => e2 e.symm) (hfrF b hb)
    · rename_i e1 e2
      intro hb'
      rcases (hmem b).1 hb' with hb' | hb'
      · exact hd2 s b e1 hb' hb
      · exact h.disj s r b e1 hb (hfrF b hb')
    · exact h.disj s t b hst hb
  · intro s b o hb
    split at hb
    · rcases (hmem b).1 hb with hb | hb
      · exact ha1 b o hb
      · exact ha2 b o hb
    · rename_i e; exact ha3 s b o e hb
  · intro s b hb
    split at hb
    · rcases (hmem b).1 hb with hb | hb
      · exact hmine b hb
      · have := h.mine r b (hfrF b hb); exact ⟨by omega, this.2⟩
    · have := h.mine s b hb; exact ⟨by omega, this.2⟩
  · intro s
    have hcr : cont (Am.upd Γ r q D') r = (cont Γ r).setP q D' := by rw [cont_upd, if_pos rfl]
    have hco : ∀ r', r' ≠ r → cont (Am.upd Γ r q D') r' = cont Γ r' := fun r' hr' => by rw [cont_upd, if_neg hr']
    by_cases hs : s = r
    · subst hs; simp only [Am.upd, if_pos]; trivial
    simp only [Am.upd, if_neg hs]
    refine (?key : ∀ (x : E) (v : Value), Ali Γ a w x v → (∀ e, x = .bx e → ∀ y, v = .pointer (some y) → w'.cell? y = w.cell? y) → Ali (Am.upd Γ r q D') a w' (blur r q x) v) _ _ (h.ali s) (h.boxWorld (fun b hb => hk' s b hs hb))
    intro x
    induction x with
    | p y => intro v hA hbb; trivial
    | al r' q' =>
      intro v hA hbb
      simp only [blur]
      split
      · trivial
      · rename_i hc
        intro E hE
        by_cases hr' : r' = r
        · subst hr'
          have hpf : q'.isPrefixOf q = true := by simpa using hc
          rw [hcr] at hE ⊢
          by_cases hqq : q' = q
          · subst hqq
            rw [hfq]
            have := hA D hD
            rw [h1] at this; exact this
          · obtain ⟨e1, e2⟩ := hpre q' hpf hqq
            rw [e1]
            cases hfo : fol w (cont Γ r') (tm a r') q' with
            | some u' =>
              obtain ⟨D0, hD0, _⟩ := e2 u' hfo E hE
              have := hA D0 hD0
              rw [hfo] at this; exact this
            | none =>
              exfalso
              have hex : ∃ E0, (cont Γ r').getP q' = some E0 := by
                obtain ⟨t, ht⟩ := List.isPrefixOf_iff_prefix.1 hpf
                clear hA hE hfo e1 e2 hqq hpf hfq hpre
                subst ht
                have : ∀ (X : V) (q' t : Path) (D : V), X.getP (q' ++ t) = some D → ∃ E0, X.getP q' = some E0 := by
                  intro X q'
                  induction q' generalizing X with
                  | nil => intro t D _; exact ⟨X, rfl⟩
                  | cons ij q' ih =>
                    obtain ⟨i, j⟩ := ij
                    intro t D hD
                    simp only [List.cons_append, V.getP, Option.bind_eq_some_iff] at hD ⊢
                    obtain ⟨z, hz, hzD⟩ := hD
                    obtain ⟨E0, hE0⟩ := ih z t D hzD
                    exact ⟨E0, z, hz, hE0⟩
                exact this _ _ _ _ hD
              obtain ⟨E0, hE0⟩ := hex
              have := hA E0 hE0
              rw [hfo] at this; cases this
        · rw [hco r' hr'] at hE ⊢
          rw [fol_mono (h.slots r') (h.nodup r') (fun b hb => hk' r' b hr' hb) hE]; exact hA E hE
    | pa r' q' i j =>
      intro v hA hbb
      simp only [blur]
      split
      · trivial
      · rename_i hc
        intro E cs hE hcs
        by_cases hr' : r' = r
        · subst hr'
          have hpf : q'.isPrefixOf q = true := by simpa using hc
          rw [hcr] at hE ⊢
          by_cases hqq : q' = q
          · subst hqq
            have hED : E = D' := by
              have : ∀ (q : Path) (X D D' : V), X.getP q = some D → (q ≠ [] → D'.cells = [D']) → (X.setP q D').getP q = some D' := by
                intro q
                induction q with
                | nil => intro X D D' _ _; rfl
                | cons ij q ih =>
                  obtain ⟨i, j⟩ := ij
                  intro X D D' hX hl
                  simp only [V.getP, Option.bind_eq_some_iff] at hX
                  obtain ⟨z, hz, hzD⟩ := hX
                  simp only [V.setP, hz, V.getP]
                  have hzl : (z.setP q D').cells = [z.setP q D'] := by
                    cases q with
                    | nil => simpa [V.setP] using hl (by simp)
                    | cons kl q =>
                      obtain ⟨k, l⟩ := kl
                      simp only [V.getP, Option.bind_eq_some_iff] at hzD
                      obtain ⟨y, hy, _⟩ := hzD
                      obtain ⟨cs, hr, _⟩ := cell_row hy
                      refine setP_leaf (fun e => by simp at e) ?_
                      cases z <;> simp_all [V.row, V.cells]
                  rw [setCell_cell hzl hz]
                  simp only [Option.bind_some]
                  refine ih z D D' hzD (fun hq => hl (by simp))
              have h6 := this q' (cont Γ r') D D' hD (fun hq => hR.leaf (h4 hq))
              rw [h6] at hE; cases hE; rfl
            subst hED
            obtain ⟨⟨cs0, hcs0⟩, had⟩ := hsh i cs hcs
            obtain ⟨u', x, g1, g2, g3⟩ := hA D cs0 hD hcs0
            rw [h1] at g1; cases g1
            exact ⟨_, x, hfq, by rw [had]; exact g2, g3⟩
          · obtain ⟨e1, e2⟩ := hpre q' hpf hqq
            obtain ⟨E0, hE0⟩ : ∃ E0, (cont Γ r').getP q' = some E0 := by
              obtain ⟨t, ht⟩ := List.isPrefixOf_iff_prefix.1 hpf
              clear hA hE e1 e2 hqq hpf hfq hpre
              subst ht
              have : ∀ (X : V) (q' t : Path) (D : V), X.getP (q' ++ t) = some D → ∃ E0, X.getP q' = some E0 := by
                intro X q'
                induction q' generalizing X with
                | nil => intro t D _; exact ⟨X, rfl⟩
                | cons ij q' ih =>
                  obtain ⟨i, j⟩ := ij
                  intro t D hD
                  simp only [List.cons_append, V.getP, Option.bind_eq_some_iff] at hD ⊢
                  obtain ⟨z, hz, hzD⟩ := hD
                  obtain ⟨E0, hE0⟩ := ih z t D hzD
                  exact ⟨E0, z, hz, hE0⟩
              exact this _ _ _ _ hD
            obtain ⟨u0, f0, f1, k1, _⟩ := h.at hE0
            obtain ⟨D0, hD0, k2, k3⟩ := e2 u0 k1 E hE
            obtain ⟨cs0, hcs0⟩ := k2 i cs hcs
            obtain ⟨u', x, g1, g2, g3⟩ := hA D0 cs0 hD0 hcs0
            rw [k1] at g1; cases g1
            exact ⟨u0, x, by rw [e1]; exact k1, by rw [k3]; exact g2, g3⟩
        · rw [hco r' hr'] at hE ⊢
          rw [fol_mono (h.slots r') (h.nodup r') (fun b hb => hk' r' b hr' hb) hE]; exact hA E cs hE hcs
    | ag r' q' i j n =>
      intro v hA hbb
      simp only [blur]
      split
      · trivial
      · rename_i hr'
        intro E cs hE hcs hjn
        rw [hco r' hr'] at hE ⊢
        obtain ⟨u', us, g1, g2, g3, g4⟩ := hA E cs hE hcs hjn
        rw [fol_mono (h.slots r') (h.nodup r') (fun b hb => hk' r' b hr' hb) hE]
        refine ⟨u', us, g1, g2, g3, fun k hk0 => ?_⟩
        obtain ⟨y, h5', h6'⟩ := g4 k hk0
        refine ⟨y, h5', ?_⟩
        obtain ⟨z, hz⟩ : ∃ z, cs[j + k]? = some z := ⟨cs[j + k]'(by omega), List.getElem?_eq_getElem (by omega)⟩
        obtain ⟨u2, b, o, uz, fz, k1, k2, k3, _, _, _, k4, _⟩ := h.cellAt hE (z := z) (i := i) (j := j + k) (by simp [V.cell, hcs, hz])
        rw [g1] at k1; cases k1
        rw [k2] at h5'; cases h5'
        rw [World.cell?_of_block (w := w) (a := ⟨b, o, none⟩) (hk' r' b hr' k4)]; exact h6'
    | cl f l => intro v hA hbb; exact hA
    | bx e ih =>
      intro v hA hbb
      obtain ⟨y, u, h1, h2, h3, h4⟩ := hA
      exact ⟨y, u, h1, (hbb e rfl y h1).trans h2, by rw [cont_blur]; exact h3, ih u h4 (fun e' he => absurd he (cont_bx h3))⟩
  · intro s hs
    have : s ≠ r := by omega
    simp only [Am.upd, if_neg this, h.big s hs]
    rfl
end
end Go.Am
end
section
namespace Go.Am
open Go.RowKit
section
variable {S : Nat → Nat → Prop} {w : World}
theorem R.oneRow {l : List V} {es : Nat} {us : List Value} {fq : List Nat} (hl : ∀ x ∈ l, x.cells.length = es) (h : R S w (l.flatMap V.cells) us fq) {i : Nat} {x : V} (hx : l[i]? = some x) :
    ∃ f0 f1 f2, fq = f0 ++ f1 ++ f2 ∧ R S w x.cells ((us.drop (i * es)).take es) f1 := by
  induction l generalizing i us fq with
  | nil => simp at hx
  | cons y l ih =>
    simp only [List.flatMap_cons] at h
    obtain ⟨v1, v2, f1, f2, rfl, rfl, h1, h2⟩ := R.split h
    have hy := hl y (by simp)
    have hv1 : v1.length = es := by rw [← h1.length, hy]
    cases i with
    | zero =>
      simp at hx; subst hx
      refine ⟨[], f1, f2, by simp, ?_⟩
      simp only [Nat.zero_mul, List.drop_zero]
      rw [← hv1, List.take_left]; exact h1
    | succ i =>
      simp at hx
      obtain ⟨g0, g1, g2, rfl, hR⟩ := ih (fun x hx => hl x (by simp [hx])) h2 hx
      refine ⟨f1 ++ g0, g1, g2, by simp, ?_⟩
      have : (v1 ++ v2).drop ((i + 1) * es) = v2.drop (i * es) := by
        rw [List.drop_append, List.drop_eq_nil_of_le (by rw [hv1, Nat.add_mul]; omega), List.nil_append, hv1]
        congr 1
        rw [Nat.add_mul]; omega
      rw [this]; exact hR
theorem R.rowAt {X v fp} (h : R S w [X] [v] fp) {i : Nat} {cs : List V} (hr : X.row i = some cs) :
    ∃ b o us f0 f1 f2, (∀ j, addrOf X v i j = some ⟨b, o + j, none⟩) ∧ R S w cs us f1 ∧ fp = b :: (f0 ++ f1 ++ f2) ∧ (∀ u ∈ us, u.oneCell' = true) ∧ ∀ k, k < us.length → w.cell? ⟨b, o + k, none⟩ = us[k]? := by
  cases h with
  | c h | any h | agg _ _ h | tup _ h | clo _ h | sl0 h | sl b o cap es h1 h2 h3 h4 h5 h6 h7 h8 h | ip b o j h4 h5 h6 h | uq0 h | mp b k l h1 h2 h | ti b o es h1 h2 h3 h4 h5 h6 h8 h => simp [V.row] at hr
  | @own l us fq xs vs fp b e h1 h2 h3 h =>
    cases h
    simp only [V.row] at hr
    split at hr
    · cases hr
      exact ⟨b, 0, us, [], fq, [], fun j => by simp [addrOf], h1, by simp, h2, fun k hk => by simp [World.cell?, h3]⟩
    · cases hr
  | @uq l us fq xs vs fp b cap e es cur h1 h2 h3 h4 h5 h6 h7 h8 h9 h =>
    cases h
    simp only [V.row, Option.map_eq_some_iff] at hr
    obtain ⟨x, hx, rfl⟩ := hr
    obtain ⟨f0, f1, f2, rfl, hR⟩ := R.oneRow h2 h3 hx
    have hlen := flat_len h2
    have h3l := h3.length
    have hil : i < l.length := by
      rcases Nat.lt_or_ge i l.length with h' | h'
      · exact h'
      · simp [List.getElem?_eq_none h'] at hx
    have hie : (i + 1) * es ≤ l.length * es := Nat.mul_le_mul_right es hil
    have haddr : ∀ j, addrOf (.uq l) (.slice (some ⟨b, 0, none⟩) l.length cap) i j = some ⟨b, i * es + j, none⟩ := by
      intro j
      cases l with
      | nil => simp at hil
      | cons y l => simp [addrOf, h2 y (by simp)]
    refine ⟨b, i * es, _, f0, f1, f2, haddr, hR, by simp, fun u hu => h4 u (List.mem_of_mem_drop (List.mem_of_mem_take hu)), fun k hk => ?_⟩
    have hk' : k < es := by simp at hk; omega
    rw [Nat.add_mul] at hie
    have e1 : us[i * es + k]? = cur[i * es + k]? := by rw [← h9, List.getElem?_take_of_lt (by omega)]; simp
    rw [List.getElem?_take_of_lt hk', List.getElem?_drop, e1]
    simp [World.cell?, h5]
end
section
variable {C : Ctx} {S S' : Nat → Nat → Prop} {F : Nat → List Nat} {Γ : Env} {a : Act} {w w' : World}
def T (S : Nat → Nat → Prop) (F : Nat → List Nat) : Nat → Nat → Prop := fun b o => S b o ∨ ∃ s, b ∈ F s
theorem R.toT {x v fp} (h : R S w [x] [v] fp) (hf : ∀ b ∈ fp, ∃ s, b ∈ F s) : R (T S F) w [pv x] [v] [] :=
  h.view1.mono (fun b o h => h.elim .inl fun h => .inr (hf b h)) (fun _ _ _ => rfl) (by simp)
theorem G.rdAli (h : G C S F Γ a w) (x : Operand) : Ali Γ a w (rd Γ x) (a.eval x) ∧ R S w [(rd Γ x).cont] [a.eval x] [] := by
  cases x with
  | const v =>
    refine ⟨trivial, ?_⟩
    simp only [rd, E.cont, constV, Act.eval]
    split
    · exact .uq0 .nil
    · exact .c .nil
  | func f => exact ⟨trivial, by simpa [rd, E.cont, Act.eval] using R.clo (f := f) (R.nil (S := S) (w := w)) R.nil⟩
  | global g => exact ⟨trivial, .any .nil⟩
  | tmp t =>
    have hs := h.slots t
    have ha := h.ali t
    simp only [rd, Act.eval]
    cases hg : Γ t with
    | p x =>
      simp only
      have hc : cont Γ t = x := by simp [cont, hg, E.cont]
      rw [hc] at hs
      split
      · rename_i hp
        refine ⟨trivial, ?_⟩
        rw [hs.pure1 hp] at hs; exact hs
      · refine ⟨?_, .any .nil⟩
        intro D hD
        simp [fol]
    | al r q => rw [hg] at ha; exact ⟨ha, .any .nil⟩
    | pa r q i j => rw [hg] at ha; exact ⟨ha, .any .nil⟩
    | ag r q i j n => rw [hg] at ha; exact ⟨ha, .any .nil⟩
    | cl f l => rw [hg] at ha; exact ⟨ha, .any .nil⟩
    | bx e => exact ⟨fun D hD => by simp [fol], .any .nil⟩
theorem G.lookG (h : G C S F Γ a w) (g : Nat → V) (hg : ∀ s, R (T S F) w [g s] [tm a s] []) (e : E) (v : Value) (ha : Ali Γ a w e v) (hc : R S w [e.cont] [v] []) : R (T S F) w [Am.lookG Γ g e] [v] [] := by
  cases e with
  | p x => exact R.toT hc (by simp)
  | al r q =>
    simp only [Am.lookG, at_]
    cases hD : (cont Γ r).getP q with
    | none => exact .any .nil
    | some D =>
      obtain ⟨u, fc, fr, h1, h2, h3⟩ := h.at hD
      have := ha D hD
      rw [h1] at this; cases this
      exact h2.toT fun b hb => ⟨r, h3.mem_iff.2 (List.mem_append_left _ hb)⟩
  | pa r q i j =>
    simp only [Am.lookG, at_]
    cases hD : (cont Γ r).getP q with
    | none => exact .any .nil
    | some D =>
      simp only [Option.getD_some]
      cases hcs : D.row i with
      | none => exact .any .nil
      | some cs =>
        obtain ⟨u, fc, fr, h1, h2, h3⟩ := h.at hD
        obtain ⟨u', x, g1, g2, g3⟩ := ha D cs hD hcs
        rw [h1] at g1; cases g1
        obtain ⟨b, o, us, f0, f1, f2, k1, k2, k3, k4, k5⟩ := h2.rowAt hcs
        rw [k1 j] at g2; cases g2
        subst g3
        have hbF : ∀ k, k ∈ b :: (f0 ++ f1 ++ f2) → ∃ s, k ∈ F s := fun k hk => ⟨r, h3.mem_iff.2 (List.mem_append_left _ (k3 ▸ hk))⟩
        have hv : R (T S F) w (pvL cs) us [] := k2.view.mono (fun b' o' h' => h'.elim .inl fun h' => .inr (hbF b' (by simp [h']))) (fun _ _ _ => rfl) (by simp)
        exact R.ip b o j hv k4 (fun k hk => ⟨.inr (hbF b (by simp)), k5 k hk⟩) .nil
  | ag r q i j n =>
    simp only [Am.lookG, at_]
    cases hD : (cont Γ r).getP q with
    | none => exact .any .nil
    | some D =>
      simp only [Option.getD_some]
      cases hcs : D.row i with
      | none => exact .any .nil
      | some cs =>
        by_cases hjn : j + n ≤ cs.length
        · simp only [if_pos hjn]
          obtain ⟨u, fc, fr, h1, h2, h3⟩ := h.at hD
          obtain ⟨u', us', g1, g2, g3, g4⟩ := ha D cs hD hcs hjn
          rw [h1] at g1; cases g1
          obtain ⟨b, o, us, f0, f1, f2, k1, k2, k3, k4, k5⟩ := h2.rowAt hcs
          have hbF : ∀ k, k ∈ b :: (f0 ++ f1 ++ f2) → ∃ s, k ∈ F s := fun k hk => ⟨r, h3.mem_iff.2 (List.mem_append_left _ (k3 ▸ hk))⟩
          have hv : R (T S F) w (pvL cs) us [] := k2.view.mono (fun b' o' h' => h'.elim .inl fun h' => .inr (hbF b' (by simp [h']))) (fun _ _ _ => rfl) (by simp)
          have hul : us.length = cs.length := k2.length.symm
          have e1 : us'.toList = (us.drop j).take n := by
            apply List.ext_getElem?
            intro k
            by_cases hk : k < n
            · obtain ⟨y, h5, h6⟩ := g4 k hk
              rw [k1] at h5; cases h5
              rw [List.getElem?_take_of_lt hk, List.getElem?_drop, ← k5 (j + k) (by omega)]
              have : o + (j + k) = o + (j + k) := rfl
              rw [h6]; simp
            · rw [List.getElem?_eq_none (by simp; omega), List.getElem?_eq_none (by simp; omega)]
          have hsub : R (T S F) w (pvL ((cs.drop j).take n)) ((us.drop j).take n) [] := by
            have e2 : pvL cs = pvL (cs.take j) ++ (pvL ((cs.drop j).take n) ++ pvL ((cs.drop j).drop n)) := by
              simp only [pvL_eq, ← List.map_append, List.take_append_drop]
            rw [e2] at hv
            obtain ⟨v1, v2, q1, q2, e3, e4, r1, r2⟩ := R.split hv
            obtain ⟨v3, v4, q3, q4, e5, e6, r3, r4⟩ := R.split r2
            have l1 : v1.length = j := by have := r1.length; simp [pvL_length] at this; omega
            have l3 : v3.length = n := by have := r3.length; simp [pvL_length] at this; omega
            have e7 : (us.drop j).take n = v3 := by
              rw [e3, e5, ← l1, List.drop_left, ← l3, List.take_left]
            rw [e7]
            have e8 : q3 = [] := by
              have : ([] : List Nat) = q1 ++ (q3 ++ q4) := by rw [← e6]; exact e4
              simp at this; exact this.2.1
            rw [e8] at r3; exact r3
          subst g2
          have := R.agg hsub (fun u hu => k4 u (List.mem_of_mem_drop (List.mem_of_mem_take hu))) (R.nil (S := T S F) (w := w))
          rw [← e1] at this
          simpa using this
        · simp only [if_neg hjn]; exact .any .nil
  | cl f l =>
    simp only [Am.lookG]
    have hl : ∀ l : List Nat, R (T S F) w (l.map g) (l.map (tm a)) [] := by
      intro l
      induction l with
      | nil => exact .nil
      | cons s l ih => exact R.cons (hg s) ih
    rw [show v = .func (.func f) #[] (l.map (tm a)).toArray from ha]
    simpa using R.clo (f := f) (hl l) (R.nil (S := T S F) (w := w))
  | bx e => exact .any .nil
theorem G.slotV (h : G C S F Γ a w) (n s : Nat) : R (T S F) w [slotV Γ n s] [tm a s] [] := by
  induction n generalizing s with
  | zero => exact (h.slots s).toT fun b hb => ⟨s, hb⟩
  | succ n ih =>
    simp only [Am.slotV]
    split
    · rename_i e he
      have hA := h.ali s
      rw [he] at hA
      obtain ⟨y, u, h1, h2, h3, h4⟩ := hA
      obtain ⟨b, k1, k2⟩ := h.boxAt he
      rw [h1] at k1; cases k1
      have hu : u.oneCell' = true := by
        have h5 := h.slots s
        rw [show cont Γ s = .own [.any] by simp [cont, he, E.cont], h1] at h5
        generalize F s = f at h5
        cases h5 with
        | @own l cs fq xs vs fp b e g1 g2 g3 g4 =>
          have gl := g1.length
          simp only [List.length_cons, List.length_nil] at gl
          obtain ⟨c, rfl⟩ : ∃ c, cs = [c] := by
            cases cs with
            | nil => simp at gl
            | cons c cs => cases cs with
              | nil => exact ⟨c, rfl⟩
              | cons => simp at gl
          simp [World.cell?, g3] at h2
          exact g2 u (by simp [h2])
      have hv := h.lookG (Am.slotV Γ n) ih e u h4 (by rw [h3]; exact .any .nil)
      rw [h1]
      exact R.ip b 0 0 hv (by simpa using hu) (fun i hi => by
        simp only [List.length_cons, List.length_nil] at hi
        obtain rfl : i = 0 := by omega
        exact ⟨.inr ⟨s, k2⟩, by simpa using h2⟩) .nil
    · exact (h.slots s).toT fun b hb => ⟨s, hb⟩
theorem G.lookE (h : G C S F Γ a w) (e : E) (v : Value) (ha : Ali Γ a w e v) (hc : R S w [e.cont] [v] []) : R (T S F) w [Am.look Γ e] [v] [] :=
  h.lookG _ (fun s => h.slotV 2 s) e v ha hc
theorem G.look (h : G C S F Γ a w) (x : Operand) : R (T S F) w [look Γ (rd Γ x)] [a.eval x] [] :=
  h.lookE _ _ (h.rdAli x).1 (h.rdAli x).2
end
end Go.Am
end
section
namespace Go.Am
open Go.RowKit
inductive K where
  | bool | int (k : IntKind) | string | struct | array | slice (e : TypeId) | pointer | iface | other
  deriving DecidableEq, Inhabited
structure TI where
  ok : Bool := false
  k : K := .other
  size : Nat := 0
  bytes : Nat := 0
  zero : List Value := []
  flds : List (Nat × Nat) := []
  deriving Inhabited
def TI.agg (t : TI) : Bool := match t.k with | .struct | .array => true | _ => false
def kOf : TypeDesc → K
  | .bool => .bool | .int k => .int k | .string => .string | .struct _ => .struct | .array _ _ => .array | .slice e => .slice e | .pointer _ => .pointer | .interface _ => .iface | _ => .other
def places (P : Program) (fs : List Field) : Option (List (Nat × Nat)) := fs.mapM (fun f => (P.info? f.type).map fun i => (f.offset, i.size))
theorem places_eq {P : Program} : ∀ {fs : List Field} {l : List (Nat × Nat)}, places P fs = some l → l = fs.map (fun f => (f.offset, P.cellsOf f.type))
  | [], l, h => by simp [places] at h; subst h; rfl
  | f :: fs, l, h => by
    simp only [places, List.mapM_cons, Option.bind_eq_bind, Option.pure_def] at h
    cases hi : P.info? f.type with
    | none => simp [hi] at h
    | some i =>
      cases hr : fs.mapM (fun f => (P.info? f.type).map fun i => (f.offset, i.size)) with
      | none => simp [hi, hr] at h
      | some rest =>
        simp [hi, hr] at h
        subst h
        have := places_eq (P := P) (fs := fs) (l := rest) hr
        rw [this]
        simp [Program.cellsOf, hi]
def ti (P : Program) (t : TypeId) : TI :=
  match P.info? t, P.underlying t with
  | some i, some d =>
    match i.zero with
    | some z =>
      if z.cells.toList.all Value.oneCell' && z.cells.size == i.size then
        match d with
        | .struct fs => match places P fs.toList with
          | some l => { ok := true, k := .struct, size := i.size, bytes := i.bytes, zero := z.cells.toList, flds := l }
          | none => {}
        | d => { ok := true, k := kOf d, size := i.size, bytes := i.bytes, zero := z.cells.toList, flds := [] }
      else {}
    | none => {}
  | _, _ => {}
theorem ti_ok {P : Program} {t : TypeId} (h : (ti P t).ok = true) : ∃ i d z, P.info? t = some i ∧ P.underlying t = some d ∧ i.zero = some z ∧ (ti P t).k = kOf d ∧ (ti P t).size = i.size ∧ (ti P t).bytes = i.bytes ∧ (ti P t).zero = z.cells.toList ∧
    (∀ u ∈ z.cells.toList, u.oneCell' = true) ∧ z.cells.size = i.size ∧ (∀ fs, d = .struct fs → (ti P t).flds = fs.toList.map (fun f => (f.offset, P.cellsOf f.type)) ∧ places P fs.toList = some (ti P t).flds) := by
  unfold ti at h ⊢
  cases hi : P.info? t with
  | none => simp [hi] at h
  | some i =>
    cases hd : P.underlying t with
    | none => simp [hi, hd] at h
    | some d =>
      cases hz : i.zero with
      | none => simp [hi, hd, hz] at h
      | some z =>
        simp only [hi, hd, hz] at h ⊢
        split at h
        · rename_i hc
          have hc' := hc
          simp only [Bool.and_eq_true, List.all_eq_true, beq_iff_eq] at hc
          rw [if_pos hc']
          cases d
          case struct fs =>
            cases hp : places P fs.toList with
            | none => simp [hp] at h
            | some l =>
              simp only [hp]
              exact ⟨i, _, z, rfl, rfl, hz, rfl, rfl, rfl, rfl, hc.1, hc.2, fun fs' hfs => by cases hfs; exact ⟨places_eq hp, hp⟩⟩
          all_goals exact ⟨i, _, z, rfl, rfl, hz, rfl, rfl, rfl, rfl, hc.1, hc.2, fun fs hfs => by cases hfs⟩
        · simp at h
section
variable {C : Ctx} {S S' : Nat → Nat → Prop} {F : Nat → List Nat} {Γ Γ1 : Env} {a : Act} {w w' : World} {P : Program}
theorem run_size {t : TypeId} (h : (ti P t).ok = true) (w : World) : (sizeOf t).run P w = .ok (ti P t).size w := by
  obtain ⟨i, d, z, h1, h2, h3, h4, h5, _⟩ := ti_ok h
  simp [sizeOf, typeInfo, h1, h5]
theorem run_agg {t : TypeId} (h : (ti P t).ok = true) (w : World) : (isAgg t).run P w = .ok (ti P t).agg w := by
  obtain ⟨i, d, z, h1, h2, h3, h4, h5, _⟩ := ti_ok h
  simp only [isAgg, Sem.run_bind, run_underlying h2, Result.andThen_ok, TI.agg, h4]
  cases d <;> simp [kOf]
def Out (C : Ctx) (Γ : Env) (e : E) (a : Act) (w : World) (v : Value) : Prop :=
  ∃ S F fe, G C S F Γ a w ∧ R S w [e.cont] [v] fe ∧ fe.Nodup ∧ (∀ s b, b ∈ fe → b ∉ F s) ∧ (∀ b o, b ∈ fe → ¬ S b o) ∧ (∀ b, b ∈ fe → b < w.heap.size ∧ (b ∈ C.fp0 ∨ C.w0.heap.size ≤ b)) ∧ Ali Γ a w e v
def putX (Γ : Env) (dst : Option Nat) (e : E) : Env := match dst with | some d => put Γ d (kill d e) | none => Γ
def Gd (C : Ctx) (n : Nat) (Γ : Env) (a : Act) (w : World) : Prop := a.tmps.size = n ∧ ∃ S F, G C S F Γ a w
theorem Ali.kill {d : Nat} {e : E} {v : Value} (h : Ali Γ a w e v) : Ali Γ a w (kill d e) v :=
  Ali.killed (d := d) (fun _ _ => ⟨rfl, rfl⟩) e v h
theorem Out.put {e : E} {v : Value} (h : Out C Γ e a w v) {n : Nat} (hn : a.tmps.size = n) {dst : Option Nat} (hd : ∀ d, dst = some d → C.lo ≤ d ∧ d < n) : Gd C n (putX Γ dst e) (a.put dst v) w := by
  obtain ⟨S, F, fe, hG, hR, h1, h2, h3, h4, h5⟩ := h
  cases dst with
  | none => exact ⟨hn, S, F, hG⟩
  | some d =>
    refine ⟨by simpa [Act.put] using hn, S, _, hG.set (d := d) (x := kill d e) (hd d rfl).1 (by rw [hn]; exact (hd d rfl).2) (by rw [cont_kill]; exact hR) h1 (fun s b _ hb => h2 s b hb) h3 h4 h5.kill (kill_kill d e)⟩
theorem Out.pure (h : G C S F Γ a w) {y : V} {v : Value} (hR : R S w [y] [v] []) : Out C Γ (.p y) a w v :=
  ⟨S, F, [], h, hR, List.nodup_nil, by simp, by simp, by simp, trivial⟩
theorem Out.ofRd (h : G C S F Γ a w) (x : Operand) : Out C Γ (rd Γ x) a w (a.eval x) :=
  ⟨S, F, [], h, (h.rdAli x).2, List.nodup_nil, by simp, by simp, by simp, (h.rdAli x).1⟩
theorem Out.ali (h : G C S F Γ a w) {e : E} {v : Value} (he : e.cont = .any) (ha : Ali Γ a w e v) : Out C Γ e a w v :=
  ⟨S, F, [], h, by rw [he]; exact .any .nil, List.nodup_nil, by simp, by simp, by simp, ha⟩
theorem G.drew (h : G C S F Γ a w) : G C S F Γ a { w with drawn := w.drawn + 1 } :=
  h.world ⟨h.mem.sub, h.mem.lt, h.mem.new, h.mem.os, h.mem.tape, h.mem.output, h.mem.size, h.mem.block⟩ (fun _ _ h => h) (fun _ _ _ => rfl) (fun _ _ _ => rfl) (Nat.le_refl _) h.apart
theorem Mem.alloc (h : Mem C S w) (o : Obj) : Mem C S (w.alloc o) where
  sub := h.sub
  lt b o' hb := by have := h.lt b o' hb; simp; omega
  new := h.new
  os := h.os
  tape := h.tape
  output := h.output
  size := by have := h.size; simp; omega
  block k hk hf := by
    have := h.size
    rw [Below.heap_alloc w o k (by omega)]; exact h.block k hk hf
theorem cell_alloc_lt (w : World) (o : Obj) (b k : Nat) (h : b < w.heap.size) : (w.alloc o).cell? ⟨b, k, none⟩ = w.cell? ⟨b, k, none⟩ :=
  World.cell?_alloc_lt w o ⟨b, k, none⟩ h
theorem G.alloc (h : G C S F Γ a w) (o : Obj) : G C S F Γ a (w.alloc o) :=
  h.world (h.mem.alloc o) (fun _ _ h => h) (fun b k hb => cell_alloc_lt w o b k (h.mem.lt b k hb)) (fun s b hb => Below.heap_alloc w o b (h.mine s b hb).1) (by simp) h.apart
theorem Out.new (h : G C S F Γ a w) {l : List V} {cs : List Value} (hR : R S w l cs []) (h1 : ∀ u ∈ cs, u.oneCell' = true) (e : TypeId) :
    Out C Γ (.p (.own l)) a (w.alloc (.cells cs.toArray e)) (.pointer (some ⟨w.heap.size, 0, none⟩)) := by
  have hG := h.alloc (.cells cs.toArray e)
  refine ⟨S, F, [w.heap.size], hG, ?_, by simp, ?_, ?_, ?_, trivial⟩
  · have hR' := hR.mono (S' := S) (w' := w.alloc (.cells cs.toArray e)) (fun _ _ h => h) (fun b k hb => cell_alloc_lt w _ b k (h.mem.lt b k hb)) (by simp)
    simpa [E.cont] using R.own (xs := []) (vs := []) (fp := []) w.heap.size e hR' h1 (by show (w.heap.push _)[w.heap.size]? = _; simp) .nil
  · intro s b hb hb'
    simp at hb; subst hb
    have := (h.mine s _ hb').1; omega
  · intro b o hb hs
    simp at hb; subst hb
    have := h.mem.lt _ _ hs; omega
  · intro b hb
    simp at hb; subst hb
    exact ⟨by simp, .inr h.mem.size⟩
theorem G.rlt (h : G C S F Γ a w) {r : Nat} {q : Path} {D : V} (hD : (cont Γ r).getP q = some D) (hp : D ≠ .any) : r < a.tmps.size := by
  rcases Nat.lt_or_ge r a.tmps.size with h' | h'
  · exact h'
  · have := h.big r h'
    simp only [cont, this, dead, E.cont] at hD
    exact absurd (getP_any hD).2 hp
theorem G.take (h : G C S F Γ a w) {r : Nat} {q : Path} {D : V} (hD : (cont Γ r).getP q = some D) (hp : D ≠ .any) :
    ∃ u fc F', fol w (cont Γ r) (tm a r) q = some u ∧ R S w [D] [u] fc ∧ fc.Nodup ∧ (∀ b ∈ fc, b ∈ F r) ∧ (q ≠ [] → u.oneCell' = true) ∧
      G C S F' (Am.upd Γ r q .any) a w ∧ (∀ s b, b ∈ fc → b ∉ F' s) ∧ (∀ s b, b ∈ F' s → b ∈ F s) := by
  obtain ⟨u, fc, fr, h1, h2, h3, h4, h5⟩ := h.upd (D' := .any) hD (h.rlt hD hp)
  have hnd := h3.nodup_iff.1 (h.nodup r)
  have hn := List.nodup_append.1 hnd
  have hin : ∀ b, b ∈ fr → b ∈ F r := fun b hb => h3.mem_iff.2 (List.mem_append_right _ hb)
  have hin' : ∀ b, b ∈ fc → b ∈ F r := fun b hb => h3.mem_iff.2 (List.mem_append_left _ hb)
  obtain ⟨fp', hp', hG⟩ := h5 S w [] h.mem (fun _ _ h => h) (fun _ _ _ => rfl) (fun _ _ => rfl) (fun _ _ _ _ => rfl) (Nat.le_refl _) (.any .nil) List.nodup_nil (by simp) (by simp) (by simp)
    (fun b o hb => h.apart r b o (hin b hb)) (fun s b o _ hb => h.apart s b o hb) (by simp) (by simp [V.row])
  refine ⟨u, fc, _, h1, h2, hn.1, hin', h4, hG, ?_, ?_⟩
  · intro s b hb hb'
    split at hb'
    · have : b ∈ fr := by simpa using hp'.mem_iff.1 hb'
      exact hn.2.2 b hb b this rfl
    · rename_i hs
      exact h.disj r s b (fun e => hs e.symm) (hin' b hb) hb'
  · intro s b hb
    split at hb
    · rename_i hs; subst hs
      exact hin b (by simpa using hp'.mem_iff.1 hb)
    · exact hb
theorem pv_row (x : V) (i : Nat) : (pv x).row i = none := by cases x <;> simp [pv, V.row]
mutual
theorem pure_pv (x : V) : pureB (pv x) = true := by
  cases x with
  | c v | any | sl l | ip l o | uq l | own l | mp es | ti l => simp [pv, pureB]
  | agg l | tup l | clo f l => simp only [pv, pureB]; exact pureL_pvL l
theorem pureL_pvL (l : List V) : pureL (pvL l) = true := by
  cases l with
  | nil => simp [pvL, pureL]
  | cons x l => simp only [pvL, pureL, pure_pv x, pureL_pvL l, Bool.and_self]
end
theorem G.freeze (h : G C S F Γ a w) {r : Nat} {q : Path} {D : V} (hD : (cont Γ r).getP q = some D) (hp : D ≠ .any) :
    ∃ u S' F', fol w (cont Γ r) (tm a r) q = some u ∧ R S' w [pv D] [u] [] ∧ (q ≠ [] → u.oneCell' = true) ∧ G C S' F' (Am.upd Γ r q (pv D)) a w ∧ (∀ b o, S b o → S' b o) := by
  obtain ⟨u, fc, fr, h1, h2, h3, h4, h5⟩ := h.upd (D' := pv D) hD (h.rlt hD hp)
  have hnd := h3.nodup_iff.1 (h.nodup r)
  have hn := List.nodup_append.1 hnd
  have hin : ∀ b, b ∈ fr → b ∈ F r := fun b hb => h3.mem_iff.2 (List.mem_append_right _ hb)
  have hin' : ∀ b, b ∈ fc → b ∈ F r := fun b hb => h3.mem_iff.2 (List.mem_append_left _ hb)
  have hR := h2.view1
  refine ⟨u, fun b o => S b o ∨ b ∈ fc, ?_⟩
  obtain ⟨fp', hp', hG⟩ := h5 (fun b o => S b o ∨ b ∈ fc) w [] ⟨fun b o hb => .inl (h.mem.sub b o hb), fun b o hb => hb.elim (h.mem.lt b o) fun hb => (h.mine r b (hin' b hb)).1,
      fun b o hb => hb.elim (h.mem.new b o) fun hb => .inr (h.mine r b (hin' b hb)).2, h.mem.os, h.mem.tape, h.mem.output, h.mem.size, h.mem.block⟩
    (fun _ _ h => .inl h) (fun _ _ _ => rfl) (fun _ _ => rfl) (fun _ _ _ _ => rfl) (Nat.le_refl _) hR List.nodup_nil (by simp) (by simp) (by simp)
    (fun b o hb hs => hs.elim (h.apart r b o (hin b hb)) fun hs => hn.2.2 b hs b hb rfl) (fun s b o hs hb hs' => hs'.elim (h.apart s b o hb) fun hs' => h.disj r s b (fun e => hs e.symm) (hin' b hs') hb) (by simp) (by simp [pv_row])
  exact ⟨_, h1, hR, h4, hG, fun _ _ h => .inl h⟩
def frz (Γ : Env) (e : E) : Option (Env × V) :=
  match e with
  | .p x => if pureB x then some (Γ, x) else none
  | .al r q => match (cont Γ r).getP q with
    | some y => if pureB y then some (Γ, y) else some (upd Γ r q (pv y), pv y)
    | none => none
  | .ag r q i j n => match (cont Γ r).getP q with
    | some y => match y.row i with
      | some cs => if j + n ≤ cs.length then some (upd Γ r q (pv y), .agg (pvL ((cs.drop j).take n))) else none
      | none => none
    | none => none
  | _ => none
def tak (Γ : Env) (e : E) : Option (Env × V) :=
  match e with
  | .p x => some (Γ, x)
  | .al r q => match (cont Γ r).getP q with
    | some y => if pureB y then some (Γ, y) else some (upd Γ r q .any, y)
    | none => none
  | .ag r q i j n => match (cont Γ r).getP q with
    | some (.own cs) => if i = 0 ∧ j = 0 ∧ n = cs.length then some (upd Γ r q (.own (cs.map fun _ => .any)), .agg cs) else none
    | _ => none
  | .cl f l => if l.all (fun s => pureB (cont Γ s)) then some (Γ, .clo f (l.map fun s => cont Γ s)) else none
  | _ => none
end
end Go.Am
end
section
namespace Go.Am
open Go.RowKit
section
variable {C : Ctx} {S S' : Nat → Nat → Prop} {F : Nat → List Nat} {Γ Γ1 : Env} {a : Act} {w w' : World} {P : Program}
theorem R.agView {D : V} {u : Value} {fc : List Nat} (h2 : R S w [D] [u] fc) {i j n : Nat} {cs : List V} (hcs : D.row i = some cs) (hjn : j + n ≤ cs.length) {us' : Array Value} (g3 : us'.size = n)
    (g4 : ∀ k, k < n → ∃ x, addrOf D u i (j + k) = some x ∧ w.cell? x = us'[k]?) :
    R (fun b o => S b o ∨ b ∈ fc) w [.agg (pvL ((cs.drop j).take n))] [.agg us'] [] := by
  obtain ⟨b, o, us, f0, f1, f2, k1, k2, k3, k4, k5⟩ := h2.rowAt hcs
  have hv : R (fun b o => S b o ∨ b ∈ fc) w (pvL cs) us [] := k2.view.mono (fun b' o' h' => h'.elim .inl fun h' => .inr (by rw [k3]; simp [h'])) (fun _ _ _ => rfl) (by simp)
  have hul : us.length = cs.length := k2.length.symm
  have e1 : us'.toList = (us.drop j).take n := by
    apply List.ext_getElem?
    intro k
    by_cases hk : k < n
    · obtain ⟨y, h5, h6⟩ := g4 k hk
      rw [k1] at h5; cases h5
      rw [List.getElem?_take_of_lt hk, List.getElem?_drop, ← k5 (j + k) (by omega)]
      rw [h6]; simp
    · rw [List.getElem?_eq_none (by simp; omega), List.getElem?_eq_none (by simp; omega)]
  have hsub : R (fun b o => S b o ∨ b ∈ fc) w (pvL ((cs.drop j).take n)) ((us.drop j).take n) [] := by
    have e2 : pvL cs = pvL (cs.take j) ++ (pvL ((cs.drop j).take n) ++ pvL ((cs.drop j).drop n)) := by
      simp only [pvL_eq, ← List.map_append, List.take_append_drop]
    rw [e2] at hv
    obtain ⟨v1, v2, q1, q2, e3, e4, r1, r2⟩ := R.split hv
    obtain ⟨v3, v4, q3, q4, e5, e6, r3, r4⟩ := R.split r2
    have l1 : v1.length = j := by have := r1.length; simp [pvL_length] at this; omega
    have l3 : v3.length = n := by have := r3.length; simp [pvL_length] at this; omega
    have e7 : (us.drop j).take n = v3 := by
      rw [e3, e5, ← l1, List.drop_left, ← l3, List.take_left]
    rw [e7]
    have e8 : q3 = [] := by
      have : ([] : List Nat) = q1 ++ (q3 ++ q4) := by rw [← e6]; exact e4
      simp at this; exact this.2.1
    rw [e8] at r3; exact r3
  have := R.agg hsub (fun u hu => k4 u (List.mem_of_mem_drop (List.mem_of_mem_take hu))) (R.nil (S := fun b o => S b o ∨ b ∈ fc) (w := w))
  rw [← e1] at this
  simpa using this
theorem frz_ok (h : G C S F Γ a w) {e : E} {v : Value} {y : V} (hf : frz Γ e = some (Γ1, y)) (ha : Ali Γ a w e v) (hc : R S w [e.cont] [v] []) :
    ∃ S' F', G C S' F' Γ1 a w ∧ R S' w [y] [v] [] ∧ ∀ b o, S b o → S' b o := by
  cases e with
  | p x =>
    simp only [frz] at hf
    split at hf
    · cases hf; exact ⟨S, F, h, hc, fun _ _ h => h⟩
    · cases hf
  | al r q =>
    simp only [frz] at hf
    split at hf
    · rename_i D hD
      obtain ⟨u0, fc0, fr0, k1, k2, _⟩ := h.at hD
      have hv := ha D hD
      rw [k1] at hv; cases hv
      split at hf
      · rename_i hp
        cases hf
        rw [k2.pure1 hp] at k2
        exact ⟨S, F, h, k2, fun _ _ h => h⟩
      · rename_i hp
        cases hf
        obtain ⟨u, S', F', h1, h2, h3, h4, h5⟩ := h.freeze hD (fun e => hp (by rw [e]; rfl))
        rw [k1] at h1; cases h1
        exact ⟨S', F', h4, h2, h5⟩
    · cases hf
  | ag r q i j n =>
    simp only [frz] at hf
    split at hf
    · rename_i D hD
      split at hf
      · rename_i cs hcs
        split at hf
        · rename_i hjn
          cases hf
          obtain ⟨u, fc, fr, h1, h2, h3, h4, h5⟩ := h.upd (D' := pv D) hD (h.rlt hD (fun e => by rw [e] at hcs; simp [V.row] at hcs))
          have hnd := h3.nodup_iff.1 (h.nodup r)
          have hn := List.nodup_append.1 hnd
          have hin : ∀ b, b ∈ fr → b ∈ F r := fun b hb => h3.mem_iff.2 (List.mem_append_right _ hb)
          have hin' : ∀ b, b ∈ fc → b ∈ F r := fun b hb => h3.mem_iff.2 (List.mem_append_left _ hb)
          have hR := h2.view1
          obtain ⟨fp', hp', hG⟩ := h5 (fun b o => S b o ∨ b ∈ fc) w [] ⟨fun b o hb => .inl (h.mem.sub b o hb), fun b o hb => hb.elim (h.mem.lt b o) fun hb => (h.mine r b (hin' b hb)).1,
              fun b o hb => hb.elim (h.mem.new b o) fun hb => .inr (h.mine r b (hin' b hb)).2, h.mem.os, h.mem.tape, h.mem.output, h.mem.size, h.mem.block⟩
            (fun _ _ h => .inl h) (fun _ _ _ => rfl) (fun _ _ => rfl) (fun _ _ _ _ => rfl) (Nat.le_refl _) hR List.nodup_nil (by simp) (by simp) (by simp)
            (fun b o hb hs => hs.elim (h.apart r b o (hin b hb)) fun hs => hn.2.2 b hs b hb rfl) (fun s b o hs hb hs' => hs'.elim (h.apart s b o hb) fun hs' => h.disj r s b (fun e => hs e.symm) (hin' b hs') hb) (by simp) (by simp [pv_row])
          obtain ⟨u', us', g1, g2, g3, g4⟩ := ha D cs hD hcs hjn
          rw [h1] at g1; cases g1
          subst g2
          exact ⟨_, _, hG, R.agView h2 hcs hjn g3 g4, fun _ _ h => .inl h⟩
        · cases hf
      · cases hf
    · cases hf
  | pa r q i j => simp [frz] at hf
  | cl f l => simp [frz] at hf
  | bx e => simp [frz] at hf
theorem tak_ok (h : G C S F Γ a w) {e : E} {v : Value} {y : V} (hf : tak Γ e = some (Γ1, y)) (ha : Ali Γ a w e v) (hc : R S w [e.cont] [v] []) :
    ∃ F' fy, G C S F' Γ1 a w ∧ R S w [y] [v] fy ∧ fy.Nodup ∧ (∀ s b, b ∈ fy → b ∉ F' s) ∧ (∀ b, b ∈ fy → ∃ s, b ∈ F s) ∧ (∀ s b, b ∈ F' s → b ∈ F s) := by
  cases e with
  | p x =>
    simp only [tak] at hf
    cases hf; exact ⟨F, [], h, hc, List.nodup_nil, by simp, by simp, fun _ _ h => h⟩
  | al r q =>
    simp only [tak] at hf
    split at hf
    · rename_i D hD
      obtain ⟨u0, fc0, fr0, k1, k2, _⟩ := h.at hD
      have hv := ha D hD
      rw [k1] at hv; cases hv
      split at hf
      · rename_i hp
        cases hf
        rw [k2.pure1 hp] at k2
        exact ⟨F, [], h, k2, List.nodup_nil, by simp, by simp, fun _ _ h => h⟩
      · rename_i hp
        cases hf
        obtain ⟨u, fc, F', h1, h2, h3, h4, h5, h6, h7, h8⟩ := h.take hD (fun e => hp (by rw [e]; rfl))
        rw [k1] at h1; cases h1
        exact ⟨F', fc, h6, h2, h3, h7, fun b hb => ⟨r, h4 b hb⟩, h8⟩
    · cases hf
  | ag r q i j n =>
    simp only [tak] at hf
    split at hf
    rotate_left
    · cases hf
    rename_i cs hD
    split at hf
    rotate_left
    · cases hf
    rename_i hc0
    obtain ⟨rfl, rfl, rfl⟩ := hc0
    cases hf
    obtain ⟨u, fc, fr, h1, h2, h3, h4, h5⟩ := h.upd (D' := .own (cs.map fun _ => V.any)) hD (h.rlt hD (by intro e; cases e))
    obtain ⟨u', us, k1, k2, k3, k4⟩ := ha (.own cs) cs hD rfl (by simp)
    rw [h1] at k1; cases k1
    cases h2 with
    | @own _ vals fq _ _ _ b e hR hone hheap hnil =>
      cases hnil
      simp only [List.append_nil] at h3
      have hnd := h3.nodup_iff.1 (h.nodup r)
      have hn := List.nodup_append.1 hnd
      have hbF : b ∈ F r := h3.mem_iff.2 (by simp)
      have hin : ∀ x, x ∈ fr → x ∈ F r := fun x hx => h3.mem_iff.2 (List.mem_append_right _ hx)
      have hinq : ∀ x, x ∈ fq → x ∈ F r := fun x hx => h3.mem_iff.2 (by simp [hx])
      have hlen := hR.length
      have hany : ∀ (l : List V) (vs : List Value), l.length = vs.length → R S w (l.map fun _ => V.any) vs [] := by
        intro l
        induction l with
        | nil => intro vs hl; cases vs with
          | nil => exact .nil
          | cons y ys => simp at hl
        | cons x l ih => intro vs hl; cases vs with
          | nil => simp at hl
          | cons y ys => exact .any (ih ys (by simpa using hl))
      have hus : us = vals.toArray := by
        apply Array.ext'
        apply List.ext_getElem?
        intro k
        simp only [Array.getElem?_toList, List.toList_toArray]
        by_cases hk : k < cs.length
        · obtain ⟨x, e1, e2⟩ := k4 k hk
          simp only [addrOf, Option.some.injEq] at e1
          subst e1
          rw [← e2, World.cell?]
          simp [hheap]
        · rw [Array.getElem?_eq_none (by omega), List.getElem?_eq_none (by omega)]
      obtain ⟨fp', hp', hG⟩ := h5 S w [b] h.mem (fun _ _ h => h) (fun _ _ _ => rfl) (fun _ _ => rfl) (fun _ _ _ _ => rfl) (Nat.le_refl _) (by simpa using R.own (xs := []) (vs := []) b e (hany cs vals hlen) hone hheap .nil) (by simp)
        (fun x hx hx' => by simp at hx; subst hx; exact hn.2.2 x (by simp) x hx' rfl) (fun s x hs hx hx' => by simp at hx; subst hx; exact h.disj r s x (fun e => hs e.symm) hbF hx')
        (fun x o hx => by simp at hx; subst hx; exact h.apart r x o hbF) (fun x o hx => h.apart r x o (hin x hx)) (fun s x o hs hx => h.apart s x o hx)
        (fun x hx => by simp at hx; subst hx; exact h.mine r x hbF)
        (fun i0 cs0 h0 => by
          simp only [V.row] at h0 ⊢
          split at h0
          · rename_i hi; exact ⟨⟨cs, by simp [hi]⟩, fun j => by simp [addrOf]⟩
          · cases h0)
      have hmem : ∀ x, x ∈ fp' ↔ x = b ∨ x ∈ fr := fun x => by rw [hp'.mem_iff]; simp
      refine ⟨_, fq, hG, by rw [k2, hus]; simpa using R.agg hR hone .nil, (List.nodup_cons.1 hn.1).2, ?_, fun x hx => ⟨r, hinq x hx⟩, ?_⟩
      · intro s x hx hx'
        split at hx'
        · rcases (hmem x).1 hx' with e | e
          · subst e; exact (List.nodup_cons.1 hn.1).1 hx
          · exact hn.2.2 x (by simp [hx]) x e rfl
        · rename_i hs; exact h.disj r s x (fun e => hs e.symm) (hinq x hx) hx'
      · intro s x hx
        split at hx
        · rename_i hs; subst hs
          rcases (hmem x).1 hx with e | e
          · subst e; exact hbF
          · exact hin x e
        · exact hx
  | pa r q i j => simp [tak] at hf
  | bx e => simp [tak] at hf
  | cl f l =>
    simp only [tak] at hf
    split at hf
    rotate_left
    · cases hf
    rename_i hp
    cases hf
    rw [List.all_eq_true] at hp
    refine ⟨F, [], h, ?_, List.nodup_nil, by simp, by simp, fun _ _ h => h⟩
    rw [show v = .func (.func f) #[] (l.map (tm a)).toArray from ha]
    have hR : ∀ l : List Nat, (∀ s ∈ l, pureB (cont Γ s) = true) → R S w (l.map fun s => cont Γ s) (l.map (tm a)) [] := by
      intro l
      induction l with
      | nil => intro _; exact .nil
      | cons s l ih =>
        intro hp
        have := h.slots s
        rw [this.pure1 (hp s (by simp))] at this
        exact R.cons (f1 := []) (f2 := []) this (ih fun t ht => hp t (by simp [ht]))
    simpa using R.clo (f := f) (hR l hp) (R.nil (S := S) (w := w))
theorem Out.taken (h : G C S F Γ a w) {e : E} {v : Value} {y : V} (hf : tak Γ e = some (Γ1, y)) (ha : Ali Γ a w e v) (hc : R S w [e.cont] [v] []) : Out C Γ1 (.p y) a w v := by
  obtain ⟨F', fy, h1, h2, h3, h4, h5, h6⟩ := tak_ok h hf ha hc
  exact ⟨S, F', fy, h1, h2, h3, h4, fun b o hb => by obtain ⟨s, hs⟩ := h5 b hb; exact h.apart s b o hs, fun b hb => by obtain ⟨s, hs⟩ := h5 b hb; exact h.mine s b hs, trivial⟩
def adr (Γ : Env) (e : E) : Option (Nat × Path × Nat × Nat) :=
  match e with
  | .al r q => match (cont Γ r).getP q with
    | some (.own _) => some (r, q, 0, 0)
    | _ => none
  | .pa r q i j => some (r, q, i, j)
  | _ => none
theorem adr_ok (h : G C S F Γ a w) {e : E} {v : Value} {r : Nat} {q : Path} {i j : Nat} (he : adr Γ e = some (r, q, i, j)) (ha : Ali Γ a w e v) {D : V} {cs : List V} (hD : (cont Γ r).getP q = some D) (hcs : D.row i = some cs) :
    ∃ u x, fol w (cont Γ r) (tm a r) q = some u ∧ addrOf D u i j = some x ∧ v = .pointer (some x) := by
  cases e with
  | al r' q' =>
    simp only [adr] at he
    split at he
    · rename_i l hl
      cases he
      rw [hl] at hD; cases hD
      have hv := ha _ hl
      obtain ⟨u, fc, fr, k1, k2, k3⟩ := h.at hl
      rw [k1] at hv; cases hv
      obtain ⟨b, o, us, f0, f1, f2, g1, g2, g3, g4, g5⟩ := k2.rowAt hcs
      cases k2 with
      | own b' e h1 h2 h3 hh =>
        cases hh
        exact ⟨_, _, k1, by simp [addrOf], rfl⟩
    · cases he
  | pa r' q' i' j' =>
    simp only [adr, Option.some.injEq, Prod.mk.injEq] at he
    obtain ⟨rfl, rfl, rfl, rfl⟩ := he
    exact ha D cs hD hcs
  | _ => simp [adr] at he
theorem R.ipCells {l : List V} {o : Nat} {v : Value} (h : R S w [.ip l o] [v] []) :
    ∃ b o0 cs, v = .pointer (some ⟨b, o0 + o, none⟩) ∧ R S w l cs [] ∧ (∀ u ∈ cs, u.oneCell' = true) ∧ ∀ i, i < cs.length → S b (o0 + i) ∧ w.cell? ⟨b, o0 + i, none⟩ = cs[i]? := by
  cases h with
  | ip b o0 k h1 h2 h3 h4 => cases h4; exact ⟨b, o0, _, rfl, h1, h2, h3⟩
theorem R.sub {xs : List V} {vs : List Value} (h : R S w xs vs []) (o n : Nat) : R S w ((xs.drop o).take n) ((vs.drop o).take n) [] := by
  have hl := h.length
  have e2 : xs = xs.take o ++ ((xs.drop o).take n ++ (xs.drop o).drop n) := by rw [List.take_append_drop, List.take_append_drop]
  rw [e2] at h
  obtain ⟨v1, v2, q1, q2, e3, e4, r1, r2⟩ := R.split h
  obtain ⟨v3, v4, q3, q4, e5, e6, r3, r4⟩ := R.split r2
  have e8 : q1 = [] ∧ q2 = [] := by simpa using e4.symm
  have e9 : q3 = [] ∧ q4 = [] := by rw [e8.2] at e6; simpa using e6.symm
  rw [e9.1] at r3
  have l1 := r1.length
  have l3 := r3.length
  have l4 := r4.length
  simp only [List.length_take, List.length_drop] at l1 l3 l4
  have hvl : vs.length = v1.length + (v3.length + v4.length) := by rw [e3, e5]; simp
  have e7 : (vs.drop o).take n = v3 := by
    rcases Nat.lt_or_ge xs.length o with ho | ho
    · have z3 : v3 = [] := List.eq_nil_of_length_eq_zero (by omega)
      rw [z3, List.drop_eq_nil_of_le (by omega)]; simp
    · have : v1.length = o := by omega
      rw [e3, e5, ← this, List.drop_left]
      rcases Nat.lt_or_ge (xs.length - o) n with hn | hn
      · have z4 : v4 = [] := List.eq_nil_of_length_eq_zero (by omega)
        rw [z4, List.append_nil, List.take_of_length_le (by omega)]
      · have : v3.length = n := by omega
        rw [← this, List.take_left]
  rw [e7]; exact r3
theorem R.one {xs : List V} {vs : List Value} (h : R S w xs vs []) {i : Nat} {x : V} (hx : xs[i]? = some x) : ∃ v, vs[i]? = some v ∧ R S w [x] [v] [] := by
  obtain ⟨v, f0, f1, f2, h1, h2, h3, _⟩ := h.at i x hx
  have : f0 = [] ∧ f1 = [] ∧ f2 = [] := by simpa [and_assoc] using h2.symm
  rw [this.2.1] at h3
  exact ⟨v, h1, h3⟩
theorem run_loadCells_at (b o n : Nat) (cs : List Value) (w : World) (h : ∀ k, k < n → w.cell? ⟨b, o + k, none⟩ = cs[k]?) (hl : cs.length = n) : (loadCells ⟨b, o, none⟩ n).run P w = .ok cs.toArray w := by
  subst hl
  refine run_loadCells_list w ⟨b, o, none⟩ cs ?_
  intro j v hv
  have hj : j < cs.length := by
    rcases Nat.lt_or_ge j cs.length with h' | h'
    · exact h'
    · simp [List.getElem?_eq_none h'] at hv
  rw [Addr.add_lit, h j hj, hv]
theorem run_loadAt_agg {t : TypeId} (ht : (ti P t).ok = true) (hg : (ti P t).agg = true) (b o : Nat) (cs : List Value) (w : World) (h : ∀ k, k < (ti P t).size → w.cell? ⟨b, o + k, none⟩ = cs[k]?) (hl : cs.length = (ti P t).size) :
    (Instr.loadAt t (.pointer (some ⟨b, o, none⟩))).run P w = .ok (.agg cs.toArray) w := by
  have e : (Instr.sureAddr (.pointer (some ⟨b, o, none⟩))).run P w = .ok ⟨b, o, none⟩ w := rfl
  simp only [Instr.loadAt, Sem.run_bind, e, Result.andThen_ok, loadVar, run_agg ht, hg, if_true, run_size ht, Sem.run_ite]
  rw [run_loadCells_at b o _ cs w h hl]
  rfl
theorem run_loadAt_leaf {t : TypeId} (ht : (ti P t).ok = true) (hg : (ti P t).agg = false) (b o : Nat) (u : Value) (w : World) (h : w.cell? ⟨b, o, none⟩ = some u) :
    (Instr.loadAt t (.pointer (some ⟨b, o, none⟩))).run P w = .ok u w := by
  have e : (Instr.sureAddr (.pointer (some ⟨b, o, none⟩))).run P w = .ok ⟨b, o, none⟩ w := rfl
  simp only [Instr.loadAt, Sem.run_bind, e, Result.andThen_ok, loadVar, run_agg ht, hg, Sem.run_ite, run_load, h]
  rfl
def unbx : E → Option E
  | .bx e => some e
  | _ => none
def boxE (Γ : Env) : E → Option E
  | .al s [] => unbx (Γ s)
  | _ => none
theorem boxE_ok {e e' : E} (h : boxE Γ e = some e') : ∃ s, e = .al s [] ∧ Γ s = .bx e' := by
  unfold boxE at h
  split at h
  · rename_i s
    cases hs : Γ s <;> rw [hs] at h <;> simp [unbx] at h
    exact ⟨s, rfl, by rw [hs, h]⟩
  · cases h
def evLoad (P : Program) (Γ : Env) (t : TypeId) (x : Operand) : Option (Env × E) :=
  let T := ti P t
  if T.ok then
    match rd Γ x with
    | .p (.ip l o) =>
      if T.agg then (if o + T.size ≤ l.length then some (Γ, .p (.agg ((l.drop o).take T.size))) else none)
      else match l[o]? with
        | some z => some (Γ, .p z)
        | none => none
    | e => match boxE Γ e with
      | some e' => if T.agg then none else some (Γ, e')
      | none => match adr Γ e with
      | some (r, q, i, j) => match (cont Γ r).getP q with
        | some D => match D.row i with
          | some cs =>
            if T.agg then
              (if j + T.size ≤ cs.length then
                (if pureL ((cs.drop j).take T.size) then some (Γ, .p (.agg ((cs.drop j).take T.size))) else some (Γ, .ag r q i j T.size))
              else none)
            else match cs[j]? with
              | some z => if pureB z then some (Γ, .p z) else some (Γ, .al r (q ++ [(i, j)]))
              | none => none
          | none => none
        | none => none
      | none => none
  else none
theorem getP_snoc {X : V} {q : Path} {i j : Nat} {D : V} (h : X.getP q = some D) : X.getP (q ++ [(i, j)]) = D.cell i j := by
  induction q generalizing X with
  | nil => simp [V.getP] at h ⊢; subst h; cases X.cell i j <;> simp [V.getP]
  | cons kl q ih =>
    obtain ⟨k, l⟩ := kl
    simp only [List.cons_append, V.getP, Option.bind_eq_some_iff] at h ⊢
    obtain ⟨z, hz, hzD⟩ := h
    rw [hz]; exact ih hzD
theorem fol_snoc {X : V} {v : Value} {q : Path} {i j : Nat} {D : V} {u : Value} {x : Addr} {uz : Value} {z : V} (hX : X.getP q = some D) (h : fol w X v q = some u) (ha : addrOf D u i j = some x) (hc : w.cell? x = some uz) (hz : D.cell i j = some z) :
    fol w X v (q ++ [(i, j)]) = some uz := by
  induction q generalizing X v with
  | nil =>
    simp [V.getP] at hX; subst hX
    simp only [fol, Option.some.injEq] at h; subst h
    simp [fol, ha, hc, hz]
  | cons kl q ih =>
    obtain ⟨k, l⟩ := kl
    simp only [V.getP, Option.bind_eq_some_iff] at hX
    obtain ⟨z', hz', hzD⟩ := hX
    simp only [List.cons_append, fol, Option.bind_eq_some_iff] at h ⊢
    obtain ⟨x', hx', u', hu', z2, hz2, h⟩ := h
    rw [hz'] at hz2; cases hz2
    exact ⟨x', hx', u', hu', z', hz', ih hzD h⟩
theorem evLoad_ok (h : G C S F Γ a w) {t : TypeId} {x : Operand} {e : E} (he : evLoad P Γ t x = some (Γ1, e)) : ∃ v, (Instr.loadAt t (a.eval x)).run P w = .ok v w ∧ Out C Γ1 e a w v := by
  obtain ⟨ha, hc⟩ := h.rdAli x
  simp only [evLoad] at he
  split at he
  rotate_left
  · cases he
  rename_i ht
  split at he
  · rename_i l o hrd
    rw [hrd] at hc
    obtain ⟨b, o0, cs, hv, hR, h1, hS⟩ := R.ipCells (by simpa [E.cont] using hc)
    have hlen := hR.length
    rw [hv]
    split at he
    · rename_i hg
      split at he
      · rename_i hle
        cases he
        refine ⟨_, run_loadAt_agg ht hg b (o0 + o) ((cs.drop o).take (ti P t).size) w (fun k hk => ?_) (by simp; omega), ?_⟩
        · rw [List.getElem?_take_of_lt hk, List.getElem?_drop, ← (hS (o + k) (by omega)).2, Nat.add_assoc]
        · refine Out.pure h ?_
          exact R.agg (hR.sub o (ti P t).size) (fun u hu => h1 u (List.mem_of_mem_drop (List.mem_of_mem_take hu))) .nil
      · cases he
    · rename_i hg
      split at he
      · rename_i z hz
        cases he
        obtain ⟨u, hu, hRz⟩ := hR.one hz
        have ho : o < cs.length := by
          rcases Nat.lt_or_ge o cs.length with h' | h'
          · exact h'
          · simp [List.getElem?_eq_none h'] at hu
        exact ⟨u, run_loadAt_leaf ht (by simpa using hg) b (o0 + o) u w (by rw [(hS o ho).2, hu]), Out.pure h hRz⟩
      · cases he
  · split at he
    · rename_i e' hbx
      split at he
      · cases he
      rename_i hg
      cases he
      obtain ⟨s, hs1, hs2⟩ := boxE_ok hbx
      rw [hs1] at ha
      have hA := h.ali s
      rw [hs2] at hA
      obtain ⟨y, u, g1, g2, g3, g4⟩ := hA
      have hv : a.eval x = tm a s := by
        have := ha _ rfl
        simp only [fol, Option.some.injEq] at this; exact this.symm
      obtain ⟨b, k1, k2⟩ := h.boxAt hs2
      rw [hv, g1]
      rw [g1] at k1; cases k1
      exact ⟨u, run_loadAt_leaf ht (by simpa using hg) b 0 u w g2, Out.ali h g3 g4⟩
    split at he
    rotate_left
    · cases he
    rename_i r q i j hadr
    split at he
    rotate_left
    · cases he
    rename_i D hD
    split at he
    rotate_left
    · cases he
    rename_i cs hcs
    obtain ⟨u, x', hu, hx', hv⟩ := adr_ok h hadr ha hD hcs
    rw [hv]
    obtain ⟨u0, fc, fr, k1, k2, k3⟩ := h.at hD
    rw [k1] at hu; cases hu
    obtain ⟨b, o, us, f0, f1, f2, g1, g2, g3, g4, g5⟩ := k2.rowAt hcs
    have hlen := g2.length
    rw [g1] at hx'; cases hx'
    split at he
    · rename_i hg
      split at he
      rotate_left
      · cases he
      rename_i hle
      have hrun := run_loadAt_agg ht hg b (o + j) ((us.drop j).take (ti P t).size) w (fun k hk => by
        rw [List.getElem?_take_of_lt hk, List.getElem?_drop, ← g5 (j + k) (by omega), Nat.add_assoc]) (by simp; omega)
      split at he
      · rename_i hp
        cases he
        refine ⟨_, hrun, Out.pure h ?_⟩
        have e2 : cs = cs.take j ++ ((cs.drop j).take (ti P t).size ++ (cs.drop j).drop (ti P t).size) := by rw [List.take_append_drop, List.take_append_drop]
        have g2' := g2
        rw [e2] at g2'
        obtain ⟨v1, v2, q1, q2, e3, e4, r1, r2⟩ := R.split g2'
        obtain ⟨v3, v4, q3, q4, e5, e6, r3, r4⟩ := R.split r2
        have l1 : v1.length = j := by have := r1.length; simp at this; omega
        have l3 : v3.length = (ti P t).size := by have := r3.length; simp at this; omega
        have e7 : (us.drop j).take (ti P t).size = v3 := by
          rw [e3, e5, ← l1, List.drop_left, ← l3, List.take_left]
        rw [e7]
        rw [r3.pure_of hp] at r3
        refine R.agg r3 (fun u hu => g4 u ?_) .nil
        rw [← e7] at hu
        exact List.mem_of_mem_drop (List.mem_of_mem_take hu)
      · cases he
        refine ⟨_, hrun, Out.ali h rfl ?_⟩
        intro D' cs' hD' hcs' _
        rw [hD] at hD'; cases hD'
        rw [hcs] at hcs'; cases hcs'
        refine ⟨_, _, k1, rfl, by simp; omega, fun k hk => ⟨_, g1 (j + k), ?_⟩⟩
        simp only [List.getElem?_toArray]
        rw [List.getElem?_take_of_lt hk, List.getElem?_drop, ← g5 (j + k) (by omega)]
    · rename_i hg
      split at he
      rotate_left
      · cases he
      rename_i z hz
      have hcell : D.cell i j = some z := by simp [V.cell, hcs, hz]
      obtain ⟨u', b', o', uz, fz, m1, m2, m3, m4, m5, m6, m7, m8⟩ := h.cellAt hD hcell
      rw [k1] at m1; cases m1
      rw [g1] at m2
      simp only [Option.some.injEq, Addr.mk.injEq, and_true] at m2
      obtain ⟨rfl, rfl⟩ := m2
      have hrun := run_loadAt_leaf (P := P) ht (by simpa using hg) b (o + j) uz w m3
      split at he
      · rename_i hp
        cases he
        rw [m6.pure1 hp] at m6
        exact ⟨_, hrun, Out.pure h m6⟩
      · cases he
        refine ⟨_, hrun, Out.ali h rfl ?_⟩
        intro D' hD'
        rw [getP_snoc hD] at hD'
        exact fol_snoc hD k1 (g1 j) m3 hcell
end
end Go.Am
end
section
namespace Go.Am
open Go.RowKit
structure But (b : Nat) (w w' : World) : Prop where
  os : w'.os = w.os
  tape : w'.tape = w.tape
  output : w'.output = w.output
  size : w'.heap.size = w.heap.size
  block : ∀ k, k ≠ b → w'.heap[k]? = w.heap[k]?
theorem But.refl (b : Nat) (w : World) : But b w w := ⟨rfl, rfl, rfl, rfl, fun _ _ => rfl⟩
theorem But.trans {b : Nat} {w w' w'' : World} (h : But b w w') (k : But b w' w'') : But b w w'' :=
  ⟨k.os.trans h.os, k.tape.trans h.tape, k.output.trans h.output, k.size.trans h.size, fun i hi => (k.block i hi).trans (h.block i hi)⟩
theorem But.setCell (w : World) (a : Addr) (u : Value) : But a.block w (w.setCell a u) :=
  ⟨rfl, rfl, rfl, by simp, fun k hk => Below.heap_setCell w a u k hk⟩
def leafB : V → Bool
  | .c v => v.oneCell'
  | .sl _ | .ip _ _ | .clo _ _ | .uq _ | .own _ | .mp _ => true
  | _ => false
def setCells (D : V) (i : Nat) : Nat → List V → V
  | _, [] => D
  | j, z :: zs => setCells (D.setCell i j z) i (j + 1) zs
section
variable {S : Nat → Nat → Prop} {w : World} {P : Program}
theorem R.leafV {z : V} {v : Value} {f : List Nat} (h : R S w [z] [v] f) (hl : leafB z = true) : v.oneCell' = true := by
  cases h <;> simp_all [leafB, Value.oneCell']
theorem But.cell {b : Nat} {w w' : World} (h : But b w w') {k o : Nat} (hk : k ≠ b) : w'.cell? ⟨k, o, none⟩ = w.cell? ⟨k, o, none⟩ :=
  World.cell?_of_block (w := w) (a := ⟨k, o, none⟩) (h.block k hk)
theorem R.store1 {D u fc} (h : R S w [D] [u] fc) (hn : fc.Nodup) (hS : ∀ b o, b ∈ fc → ¬ S b o) {i j : Nat} {cs : List V} (hcs : D.row i = some cs) (hj : j < cs.length) {z v fz} (hz : R S w [z] [v] fz) (hv : v.oneCell' = true)
    (hd : ∀ b, b ∈ fz → b ∉ fc) :
    ∃ b o fc', addrOf D u i j = some ⟨b, o, none⟩ ∧ b ∈ fc ∧ (store ⟨b, o, none⟩ v).run P w = .ok () (w.setCell ⟨b, o, none⟩ v) ∧ R S (w.setCell ⟨b, o, none⟩ v) [D.setCell i j z] [u] fc' ∧
      (∀ k, k ∈ fc' → k ∈ fc ∨ k ∈ fz) ∧ (fz.Nodup → fc'.Nodup) := by
  obtain ⟨z0, hz0⟩ : ∃ z0, cs[j]? = some z0 := ⟨cs[j], List.getElem?_eq_getElem hj⟩
  obtain ⟨b, o, u0, f0, fr, ha, hu, hu1, hfz, hR0, hp, hre⟩ := h.focus hn hcs hz0
  have hbfc : b ∈ fc := hp.mem_iff.2 (by simp)
  have hnd := hp.nodup_iff.1 hn
  rw [List.nodup_cons] at hnd
  have hB := But.setCell w ⟨b, o, none⟩ v
  have hne : ∀ b' o', S b' o' → b' ≠ b := fun b' o' hs e => hS b o' hbfc (e ▸ hs)
  have hRz : R S (w.setCell ⟨b, o, none⟩ v) [z] [v] fz := hz.mono (fun _ _ h => h) (fun b' o' hs => hB.cell (hne b' o' hs)) (fun k hk => hB.block k (fun e => hd k hk (e ▸ hbfc)))
  obtain ⟨fc', hR', hp'⟩ := hre S (w.setCell ⟨b, o, none⟩ v) z v fz (fun _ _ h => h) (fun b' o' hs => hB.cell (hne b' o' hs)) (fun k hk => hB.block k (fun e => hnd.1 (List.mem_append_right _ ((show k = b from e) ▸ hk)))) hRz hv rfl
  refine ⟨b, o, fc', ha, hbfc, ?_, hR', ?_, ?_⟩
  · rw [run_store P w _ v _ hv]; simp [hu, hfz]
  · intro k hk
    rcases List.mem_cons.1 (hp'.mem_iff.1 hk) with rfl | hk
    · exact .inl hbfc
    · rcases List.mem_append.1 hk with hk | hk
      · exact .inr hk
      · exact .inl (hp.mem_iff.2 (by simp [hk]))
  · intro hnz
    rw [hp'.nodup_iff, List.nodup_cons, List.nodup_append]
    refine ⟨?_, hnz, (List.nodup_append.1 hnd.2).2.1, ?_⟩
    · intro hk
      rcases List.mem_append.1 hk with hk | hk
      · exact hd b hk hbfc
      · exact hnd.1 (List.mem_append_right _ hk)
    · intro x hx y hy e
      subst e
      exact hd x hx (hp.mem_iff.2 (by simp [hy]))
theorem setCell_row_len {D z : V} {i j : Nat} (hz : z.cells = [z]) {cs : List V} (hcs : D.row i = some cs) : ∃ cs', (D.setCell i j z).row i = some cs' ∧ cs'.length = cs.length := by
  simp only [V.setCell, hcs]
  cases D with
  | own l =>
    simp only [V.row] at hcs
    split at hcs
    · rename_i hi; cases hcs; exact ⟨cs.set j z, by simp [V.setRow, V.row, hi], by simp⟩
    · cases hcs
  | uq l =>
    simp only [V.row, Option.map_eq_some_iff] at hcs
    obtain ⟨x, hx, rfl⟩ := hcs
    refine ⟨(x.recell (x.cells.set j z)).cells, by simp [V.setRow, V.row, List.getElem?_modify, hx], recell_set_len hz⟩
  | _ => simp [V.row] at hcs
theorem R.stores {i : Nat} : ∀ {zs : List V} {vs : List Value} {w : World} {D u fc} {j : Nat} {cs : List V}, R S w [D] [u] fc → fc.Nodup → (∀ b o, b ∈ fc → ¬ S b o) → D.row i = some cs → j + zs.length ≤ cs.length →
    ∀ {fz : List Nat}, R S w zs vs fz → fz.Nodup → (∀ k, k ∈ fz → k ∉ fc) → (∀ k o, k ∈ fz → ¬ S k o) → (∀ v ∈ vs, v.oneCell' = true) → ∀ (b o n : Nat), addrOf D u i j = some ⟨b, o + n, none⟩ → b ∈ fc → (∀ k, addrOf D u i (j + k) = some ⟨b, o + n + k, none⟩) →
    ∃ w' fc', (storeCells ⟨b, o, none⟩ vs n).run P w = .ok () w' ∧ But b w w' ∧ R S w' [setCells D i j zs] [u] fc' ∧ (∀ k, k ∈ fc' → k ∈ fc ∨ k ∈ fz) ∧ fc'.Nodup ∧
      (∀ i0 cs0, (setCells D i j zs).row i0 = some cs0 → ∃ cs1, D.row i0 = some cs1) ∧ (∀ i0 j0, addrOf (setCells D i j zs) u i0 j0 = addrOf D u i0 j0) := by
  intro zs
  induction zs with
  | nil =>
    intro vs w D u fc j cs h hn hS hcs hj fz hz hfn hfd hfS hv b o n ha hb hk
    have : vs = [] := List.eq_nil_of_length_eq_zero (by rw [← hz.length]; rfl)
    subst this
    exact ⟨w, fc, rfl, But.refl _ _, h, fun _ h => .inl h, hn, fun i0 cs0 h => ⟨cs0, h⟩, fun _ _ => rfl⟩
  | cons z zs ih =>
    intro vs w D u fc j cs h hn hS hcs hj fz hz hfn hfd hfS hv b o n ha hb hk
    obtain ⟨v, us, f1, f2, rfl, rfl, hz1, hz2⟩ := R.uncons hz
    have hfn2 := List.nodup_append.1 hfn
    have hv1 := hv v (by simp)
    obtain ⟨b', o', fc', ha', hb', hrun, hR', hsub, hnd⟩ := h.store1 (P := P) hn hS hcs (j := j) (by simp at hj; omega) hz1 hv1 (fun k hk => hfd k (by simp [hk]))
    rw [ha] at ha'; cases ha'
    have hzl : z.cells = [z] := hz1.leaf hv1
    have hsub' : ∀ k, k ∈ fc' → k ∈ fc ∨ k ∈ f1 := fun k hk => hsub k hk
    have hB := But.setCell w ⟨b, o + n, none⟩ v
    have hne : ∀ b' o', S b' o' → b' ≠ b := fun b' o' hs e => hS b o' hb (e ▸ hs)
    obtain ⟨cs', hcs', hl'⟩ := setCell_row_len (j := j) hzl hcs
    have hz2' : R S (w.setCell ⟨b, o + n, none⟩ v) zs us f2 := hz2.mono (fun _ _ h => h) (fun b' o' hs => hB.cell (hne b' o' hs)) (fun k hk => hB.block k (fun e => hfd k (by simp [hk]) (e ▸ hb)))
    have hbfc' : b ∈ fc' := by
      obtain ⟨z0, hz0⟩ : ∃ z0, cs'[j]? = some z0 := ⟨cs'[j]'(by simp at hj; omega), List.getElem?_eq_getElem (by simp at hj; omega)⟩
      obtain ⟨b2, o2, _, _, _, ha2, _, _, _, _, hp2, _⟩ := hR'.focus (hnd hfn2.1) hcs' hz0
      rw [addr_setCell hzl, ha] at ha2
      cases ha2
      exact hp2.mem_iff.2 (by simp)
    have hk1 : ∀ k, addrOf (D.setCell i j z) u i (j + 1 + k) = some ⟨b, o + (n + 1) + k, none⟩ := by
      intro k
      rw [addr_setCell hzl, show j + 1 + k = j + (1 + k) by omega, hk]
      congr 2; omega
    obtain ⟨w', fc2, g1, g2, g3, g4, g5, g6, g7⟩ := ih (D := D.setCell i j z) (j := j + 1) hR' (hnd hfn2.1) (fun k o hk' => (hsub' k hk').elim (hS k o) fun h => hfS k o (by simp [h])) hcs' (by simp at hj; omega) hz2' hfn2.2.1 (fun k hk' hk2 => (hsub' k hk2).elim (hfd k (by simp [hk'])) fun h => hfn2.2.2 k h k hk' rfl) (fun k o hk' => hfS k o (by simp [hk'])) (fun v hv' => hv v (by simp [hv'])) b o (n + 1)
      (by have := hk1 0; simpa using this) hbfc' hk1
    refine ⟨w', fc2, ?_, hB.trans g2, g3, fun k hk' => (g4 k hk').elim (fun h => (hsub' k h).elim .inl fun h => .inr (by simp [h])) (fun h => .inr (by simp [h])), g5, ?_, ?_⟩
    · simp only [storeCells, Sem.run_bind]
      rw [Addr.add_lit, hrun]
      exact g1
    · intro i0 cs0 h0
      obtain ⟨cs1, h1⟩ := g6 i0 cs0 h0
      exact row_setCell h1
    · intro i0 j0
      show addrOf (setCells (D.setCell i j z) i (j + 1) zs) u i0 j0 = _
      rw [g7, addr_setCell hzl]
end
def rootOf : E → Option Nat
  | .al r _ => some r
  | .pa r _ _ _ => some r
  | .ag r _ _ _ _ => some r
  | _ => none
def tkf (Γ : Env) (e : E) : Option (Env × V) :=
  match tak Γ e with
  | some x => some x
  | none => frz Γ e
def bxOk (Γ : Env) (r : Nat) : E → Bool
  | .pa r' q' i' _ => r' != r && (match (cont Γ r').getP q' with | some D => (D.row i').isSome | none => false)
  | .cl _ l => !(l.contains r)
  | _ => false
def bxU (Γ : Env) (r : Nat) (e : E) : Env := fun s => if s = r then .bx e else blur r [] (Γ s)
def evBx (Γ : Env) (r : Nat) (q : Path) (D : V) (j : Nat) (e : E) : Option (Env × E) :=
  match q, D, j with
  | [], .own [_], 0 => if bxOk Γ r e then some (bxU Γ r e, dead) else none
  | _, _, _ => none
def evStore (P : Program) (Γ : Env) (t : TypeId) (x y : Operand) : Option (Env × E) :=
  let T := ti P t
  if T.ok then
    match adr Γ (rd Γ x) with
    | some (r, q, i, j) =>
      if rootOf (rd Γ y) = some r then none else
      match (cont Γ r).getP q with
      | some D => match D.row i with
        | some cs =>
          if T.agg then
            match tkf Γ (rd Γ y) with
            | some (Γ1, .agg zs) => if zs.length = T.size ∧ j + T.size ≤ cs.length then some (upd Γ1 r q (setCells D i j zs), dead) else none
            | _ => none
          else if T.size = 1 then
            match tak Γ (rd Γ y) with
            | some (Γ1, z) => if leafB z = true ∧ j < cs.length then some (upd Γ1 r q (D.setCell i j z), dead) else none
            | none => evBx Γ r q D j (rd Γ y)
          else none
        | none => none
      | none => none
    | none => none
  else none
section
variable {C : Ctx} {S S' : Nat → Nat → Prop} {F : Nat → List Nat} {Γ Γ1 : Env} {a : Act} {w w' : World} {P : Program}
theorem frz_cont {e : E} {y : V} (h : frz Γ e = some (Γ1, y)) {r : Nat} (hr : rootOf e ≠ some r) : cont Γ1 r = cont Γ r := by
  cases e with
  | p x => simp only [frz] at h; split at h <;> cases h; rfl
  | al r' q =>
    simp only [frz] at h
    split at h
    · split at h
      · cases h; rfl
      · cases h; rw [cont_upd, if_neg (fun e => hr (by rw [e]; rfl))]
    · cases h
  | ag r' q i j n =>
    simp only [frz] at h
    split at h
    · split at h
      · split at h
        · cases h; rw [cont_upd, if_neg (fun e => hr (by rw [e]; rfl))]
        · cases h
      · cases h
    · cases h
  | pa r' q i j => simp [frz] at h
  | cl f l => simp [frz] at h
  | bx e => simp [frz] at h
theorem tak_cont {e : E} {y : V} (h : tak Γ e = some (Γ1, y)) {r : Nat} (hr : rootOf e ≠ some r) : cont Γ1 r = cont Γ r := by
  cases e with
  | p x => simp only [tak] at h; cases h; rfl
  | al r' q =>
    simp only [tak] at h
    split at h
    · split at h
      · cases h; rfl
      · cases h; rw [cont_upd, if_neg (fun e => hr (by rw [e]; rfl))]
    · cases h
  | ag r' q i j n =>
    simp only [tak] at h
    split at h
    · split at h
      · cases h; rw [cont_upd, if_neg (fun e => hr (by rw [e]; rfl))]
      · cases h
    · cases h
  | pa r' q i j => simp [tak] at h
  | bx e => simp [tak] at h
  | cl f l =>
    simp only [tak] at h
    split at h
    · cases h; rfl
    · cases h
theorem tkf_cont {e : E} {y : V} (h : tkf Γ e = some (Γ1, y)) {r : Nat} (hr : rootOf e ≠ some r) : cont Γ1 r = cont Γ r := by
  unfold tkf at h
  split at h
  · rename_i x hx; cases h; exact tak_cont hx hr
  · exact frz_cont h hr
theorem tkf_ok (h : G C S F Γ a w) {e : E} {v : Value} {y : V} (hf : tkf Γ e = some (Γ1, y)) (ha : Ali Γ a w e v) (hc : R S w [e.cont] [v] []) :
    ∃ S' F' fy, G C S' F' Γ1 a w ∧ R S' w [y] [v] fy ∧ fy.Nodup ∧ (∀ s b, b ∈ fy → b ∉ F' s) ∧ (∀ b o, b ∈ fy → ¬ S' b o) ∧ (∀ b, b ∈ fy → b < w.heap.size ∧ (b ∈ C.fp0 ∨ C.w0.heap.size ≤ b)) := by
  unfold tkf at hf
  split at hf
  · rename_i x hx
    cases hf
    obtain ⟨F', fy, h1, h2, h3, h4, h5, h6⟩ := tak_ok h hx ha hc
    exact ⟨S, F', fy, h1, h2, h3, h4, fun b o hb => by obtain ⟨s, hs⟩ := h5 b hb; exact h.apart s b o hs, fun b hb => by obtain ⟨s, hs⟩ := h5 b hb; exact h.mine s b hs⟩
  · obtain ⟨S', F', h1, h2, _⟩ := frz_ok h hf ha hc
    exact ⟨S', F', [], h1, h2, by simp, by simp, by simp, by simp⟩
theorem Mem.but {b : Nat} (h : Mem C S w) (hB : But b w w') (hb : C.w0.heap.size ≤ b ∨ b ∈ C.fp0) : Mem C S w' where
  sub := h.sub
  lt b' o hs := by rw [hB.size]; exact h.lt b' o hs
  new := h.new
  os := hB.os.trans h.os
  tape := hB.tape.trans h.tape
  output := hB.output.trans h.output
  size := by rw [hB.size]; exact h.size
  block k hk hf := by
    rw [hB.block k (fun e => by subst e; rcases hb with hb | hb; exact absurd hk (by omega); exact hf hb)]
    exact h.block k hk hf
theorem sureAddr_run (b o : Nat) (w : World) : (Instr.sureAddr (.pointer (some ⟨b, o, none⟩))).run P w = .ok ⟨b, o, none⟩ w := rfl
theorem G.stored (h : G C S F Γ1 a w) {r : Nat} {q : Path} {D D' : V} (hD : (cont Γ1 r).getP q = some D) (hne : D ≠ .any) {u : Value} {fc fc' fz : List Nat} {b : Nat}
    (hu : fol w (cont Γ1 r) (tm a r) q = some u) (hfc : ∀ k, k ∈ fc → k ∈ F r) (hB : But b w w') (hb : b ∈ fc)
    (hre : ∀ (fcc frr : List Nat), (F r).Perm (fcc ++ frr) → R S w [D] [u] fcc → b ∈ fcc → ∃ fc', R S w' [D'] [u] fc' ∧ (∀ k, k ∈ fc' → k ∈ fcc ∨ k ∈ fz) ∧ fc'.Nodup)
    (hbin : ∀ (fcc frr : List Nat), (F r).Perm (fcc ++ frr) → R S w [D] [u] fcc → b ∈ fcc)
    (hfz1 : ∀ s k, k ∈ fz → k ∉ F s) (hfz2 : ∀ k o, k ∈ fz → ¬ S k o) (hfz3 : ∀ k, k ∈ fz → k < w.heap.size ∧ (k ∈ C.fp0 ∨ C.w0.heap.size ≤ k))
    (hsh : ∀ i cs, D'.row i = some cs → (∃ cs0, D.row i = some cs0) ∧ ∀ j, addrOf D' u i j = addrOf D u i j) :
    ∃ F', G C S F' (Am.upd Γ1 r q D') a w' := by
  obtain ⟨u', fcc, frr, h1, h2, h3, h4, h5⟩ := h.upd (D' := D') hD (h.rlt hD hne)
  rw [hu] at h1; cases h1
  have hbc := hbin fcc frr h3 h2
  obtain ⟨fc', hR', hsub, hnd⟩ := hre fcc frr h3 h2 hbc
  have hndF := h3.nodup_iff.1 (h.nodup r)
  have hn := List.nodup_append.1 hndF
  have hinr : ∀ k, k ∈ frr → k ∈ F r := fun k hk => h3.mem_iff.2 (List.mem_append_right _ hk)
  have hinc : ∀ k, k ∈ fcc → k ∈ F r := fun k hk => h3.mem_iff.2 (List.mem_append_left _ hk)
  have hbF := hinc b hbc
  have hbS : ∀ o, ¬ S b o := fun o => h.apart r b o hbF
  have hm : Mem C S w' := h.mem.but hB (h.mine r b hbF).2.symm
  obtain ⟨fp', hp', hG⟩ := h5 S w' fc' hm (fun _ _ h => h) (fun b' o hs => hB.cell (fun e => hbS o (e ▸ hs)))
    (fun k hk => hB.block k (fun e => hn.2.2 b hbc k hk e.symm)) (fun s k hs hk => hB.block k (fun e => h.disj r s b (fun e' => hs e'.symm) hbF (e ▸ hk))) (by rw [hB.size]; exact Nat.le_refl _) hR' hnd
    (fun k hk hk' => (hsub k hk).elim (fun hk => hn.2.2 k hk k hk' rfl) (fun hk => hfz1 r k hk (hinr k hk')))
    (fun s k hs hk hk' => (hsub k hk).elim (fun hk => h.disj r s k (fun e => hs e.symm) (hinc k hk) hk') (fun hk => hfz1 s k hk hk'))
    (fun k o hk => (hsub k hk).elim (fun hk => h.apart r k o (hinc k hk)) (fun hk => hfz2 k o hk))
    (fun k o hk => h.apart r k o (hinr k hk)) (fun s k o hs hk => h.apart s k o hk)
    (fun k hk => by rw [hB.size]; exact (hsub k hk).elim (fun hk => h.mine r k (hinc k hk)) (fun hk => hfz3 k hk)) hsh
  exact ⟨_, hG⟩
theorem G.learn (h : G C S F Γ a w) {r : Nat} {e : E} (hc : cont Γ r = .own [.any]) (hr : r < a.tmps.size) (hA : Ali Γ a w (.bx e) (tm a r)) : G C S F (fun s => if s = r then .bx e else Γ s) a w := by
  have hcs : ∀ s, cont (fun s => if s = r then .bx e else Γ s) s = cont Γ s := by
    intro s
    by_cases hs : s = r
    · subst hs; rw [hc]; simp [cont, E.cont]
    · simp [cont, hs]
  have key : ∀ (x : E) (v : Value), Ali Γ a w x v → Ali (fun s => if s = r then .bx e else Γ s) a w x v := by
    intro x
    induction x with
    | p y => intro v _; trivial
    | al r q => intro v h D hD; rw [hcs] at hD ⊢; exact h D hD
    | pa r q i j => intro v h D cs hD; rw [hcs] at hD ⊢; exact h D cs hD
    | ag r q i j n => intro v h D cs hD; rw [hcs] at hD ⊢; exact h D cs hD
    | cl f l => intro v h; exact h
    | bx e ih => rintro v ⟨y, u, h1, h2, h3, h4⟩; exact ⟨y, u, h1, h2, h3, ih u h4⟩
  refine ⟨h.mem, fun s => by rw [hcs]; exact h.slots s, h.nodup, h.disj, h.apart, h.mine, ?_, ?_, h.defers, h.pins⟩
  · intro s
    by_cases hs : s = r
    · subst hs; simp only [if_pos]; exact key _ _ hA
    · simp only [if_neg hs]; exact key _ _ (h.ali s)
  · intro s hs
    have : s ≠ r := by omega
    simp only [if_neg this]; exact h.big s hs
theorem evBx_ok (h : G C S F Γ a w) {t : TypeId} (ht : (ti P t).ok = true) (hsz1 : (ti P t).size = 1) {x y : Operand} {r : Nat} {q : Path} {i j : Nat} (hadr : adr Γ (rd Γ x) = some (r, q, i, j)) {D : V} (hD : (cont Γ r).getP q = some D)
    {cs : List V} (hcs : D.row i = some cs) {e : E} (he : evBx Γ r q D j (rd Γ y) = some (Γ1, e)) :
    ∃ w', (Instr.storeAt t (a.eval x) (a.eval y)).run P w = .ok () w' ∧ e = dead ∧ ∃ S' F', G C S' F' Γ1 a w' := by
  obtain ⟨hxa, hxc⟩ := h.rdAli x
  obtain ⟨hya, hyc⟩ := h.rdAli y
  unfold evBx at he
  split at he
  rotate_left
  · cases he
  rename_i z0
  split at he
  rotate_left
  · cases he
  rename_i hok
  cases he
  simp only [V.row] at hcs
  split at hcs
  rotate_left
  · cases hcs
  rename_i hi; subst hi
  cases hcs
  simp only [V.getP, Option.some.injEq] at hD
  have hrow : (V.own [z0]).row 0 = some [z0] := rfl
  have hr : r < a.tmps.size := h.rlt (q := []) (D := .own [z0]) (by simp [V.getP, hD]) (by simp)
  obtain ⟨u, x', hu, hx', hxv⟩ := adr_ok h hadr hxa (D := .own [z0]) (by simp [V.getP, hD]) hrow
  simp only [fol, Option.some.injEq] at hu
  subst hu
  rw [hxv]
  generalize hv : a.eval y = v at *
  have hne : (rd Γ y).cont = .any := by
    cases hrd : rd Γ y <;> rw [hrd] at hok <;> simp [bxOk] at hok <;> rfl
  have hv1 : v.oneCell' = true := by
    cases hrd : rd Γ y <;> rw [hrd] at hok hya <;> simp [bxOk] at hok
    · rename_i r' q' i' j'
      cases hD' : (cont Γ r').getP q' with
      | none => rw [hD'] at hok; simp at hok
      | some D' =>
        rw [hD'] at hok
        cases hc' : D'.row i' with
        | none => simp [hc'] at hok
        | some cs' => obtain ⟨_, x2, _, _, e3⟩ := hya D' cs' hD' hc'; rw [e3]; rfl
    · rw [show v = _ from hya]; rfl
  have hRz : R S w [.any] [v] [] := .any .nil
  obtain ⟨u0, fc, fr, k1, k2, k3⟩ := h.at (r := r) (q := []) (D := .own [z0]) (by simp [V.getP, hD])
  simp only [fol, Option.some.injEq] at k1
  subst k1
  have key : ∀ (fcc frr : List Nat), (F r).Perm (fcc ++ frr) → R S w [.own [z0]] [tm a r] fcc → ∃ fc', x'.block ∈ fcc ∧ x'.spot = none ∧ (store x' v).run P w = .ok () (w.setCell x' v) ∧ R S (w.setCell x' v) [.own [.any]] [tm a r] fc' ∧ (∀ k, k ∈ fc' → k ∈ fcc ∨ k ∈ ([] : List Nat)) ∧ fc'.Nodup := by
    intro fcc frr hpp hRR
    have hnn := (List.nodup_append.1 (hpp.nodup_iff.1 (h.nodup r))).1
    have hinc : ∀ k, k ∈ fcc → k ∈ F r := fun k hk => hpp.mem_iff.2 (List.mem_append_left _ hk)
    obtain ⟨b, o, fc', m1, m2, m3, m4, m5, m6⟩ := hRR.store1 (P := P) hnn (fun k o hk => h.apart r k o (hinc k hk)) hrow (j := 0) (by simp) hRz hv1 (by simp)
    rw [m1] at hx'; cases hx'
    exact ⟨fc', m2, rfl, m3, by simpa [V.setCell, V.row, V.setRow] using m4, m5, m6 (by simp)⟩
  obtain ⟨fc', m1, m2, m3, m4, m5, m6⟩ := key fc fr k3 k2
  have hxc' : (w.setCell x' v).cell? x' = some v := by
    obtain ⟨xb, xo, xs⟩ := x'
    simp only at m2; subst m2
    generalize fc' = g at m4
    have hR := k2
    generalize fc = g2 at hR
    generalize tm a r = tv at hR hx'
    cases hR with
    | @own l us fq _ _ _ b e g1 g2 g3 g4 =>
      simp [addrOf] at hx'
      obtain ⟨rfl, rfl⟩ := hx'
      have gl := g1.length
      simp only [List.length_cons, List.length_nil] at gl
      have hus : 0 < us.length := by omega
      simp [World.cell?, World.setCell, Array.getElem?_modify, g3, hus]
  have hB := But.setCell w x' v
  have hst : ∃ F', G C S F' (Am.upd Γ r [] (.own [.any])) a (w.setCell x' v) := by
    refine h.stored (fz := []) (fc := fc) (fc' := fc') (b := x'.block) (q := []) (D := .own [z0]) (by simp [V.getP, hD]) (by simp) rfl (fun k hk => k3.mem_iff.2 (List.mem_append_left _ hk)) hB m1 ?_ ?_ (by simp) (by simp) (by simp) ?_
    · intro fcc frr hpp hRR hbb
      obtain ⟨fc'', n1, n2, n3, n4, n5, n6⟩ := key fcc frr hpp hRR
      exact ⟨fc'', n4, n5, n6⟩
    · intro fcc frr hpp hRR
      obtain ⟨fc'', n1, n2, n3, n4, n5, n6⟩ := key fcc frr hpp hRR
      exact n1
    · intro i0 cs0 h0
      refine ⟨?_, fun j0 => addr_own _ _ _ _ _⟩
      simp only [V.row] at h0 ⊢
      split at h0
      · rename_i hi; exact ⟨[z0], by simp [hi]⟩
      · cases h0
  obtain ⟨F', hG⟩ := hst
  refine ⟨w.setCell x' v, ?_, rfl, S, F', ?_⟩
  · obtain ⟨xb, xo, xs⟩ := x'
    simp only at m2; subst m2
    simp only [Instr.storeAt, Sem.run_bind, sureAddr_run, Result.andThen_ok, storeVar, run_size ht]
    have e1 : v.cells = #[v] := by
      cases v <;> simp_all [Value.cells, Value.oneCell']
    simp only [e1, List.size_toArray, List.length_singleton, hsz1]
    simp only [ne_eq, not_true_eq_false, if_false, storeCells, Sem.run_bind, Addr.add_zero', Sem.run_ite]
    rw [m3]; rfl
  · have hcr : cont (Am.upd Γ r [] (.own [.any])) r = .own [.any] := by rw [cont_upd, if_pos rfl]; rfl
    have htr : tm a r = .pointer (some x') := by
      have hR := k2
      generalize fc = g2 at hR
      generalize tm a r = tv at hR hx'
      cases hR with
      | @own l us fq _ _ _ b e g1 g2 g3 g4 =>
        simp [addrOf] at hx'
        rw [← hx']
    have hbF : x'.block ∈ F r := k3.mem_iff.2 (List.mem_append_left _ m1)
    have := hG.learn (r := r) (e := rd Γ y) hcr hr ⟨x', v, htr, hxc', hne, by
      cases hrd : rd Γ y <;> rw [hrd] at hok hya <;> simp [bxOk] at hok
      · rename_i r' q' i' j'
        have hrr := hok.1
        intro D2 cs2 hD2 hcs2
        rw [cont_upd, if_neg hrr] at hD2 ⊢
        rw [fol_mono (h.slots r') (h.nodup r') (fun k hk => hB.block k (fun e => h.disj r' r k hrr hk (e ▸ hbF))) hD2]
        exact hya D2 cs2 hD2 hcs2
      · exact hya⟩
    have e2 : bxU Γ r (rd Γ y) = fun s => if s = r then .bx (rd Γ y) else Am.upd Γ r [] (.own [.any]) s := by
      funext s
      by_cases hs : s = r <;> simp [bxU, Am.upd, hs]
    rw [e2]; exact this
theorem evStore_ok (h : G C S F Γ a w) {t : TypeId} {x y : Operand} {e : E} (he : evStore P Γ t x y = some (Γ1, e)) :
    ∃ w', (Instr.storeAt t (a.eval x) (a.eval y)).run P w = .ok () w' ∧ e = dead ∧ ∃ S' F', G C S' F' Γ1 a w' := by
  obtain ⟨hxa, hxc⟩ := h.rdAli x
  obtain ⟨hya, hyc⟩ := h.rdAli y
  simp only [evStore] at he
  split at he
  rotate_left
  · cases he
  rename_i ht
  split at he
  rotate_left
  · cases he
  rename_i r q i j hadr
  split at he
  · cases he
  rename_i hroot
  split at he
  rotate_left
  · cases he
  rename_i D hD
  split at he
  rotate_left
  · cases he
  rename_i cs hcs
  obtain ⟨u, x', hu, hx', hxv⟩ := adr_ok h hadr hxa hD hcs
  rw [hxv]
  have hDne : D ≠ .any := fun e => by rw [e] at hcs; simp [V.row] at hcs
  split at he
  · rename_i hg
    split at he
    rotate_left
    · cases he
    rename_i Γ2 zs hfz
    split at he
    rotate_left
    · cases he
    rename_i hlen
    cases he
    obtain ⟨S2, F2, fy, hG2, hRz, hny, hdy, hSy, hmy⟩ := tkf_ok h hfz hya hyc
    have hc2 := tkf_cont hfz hroot
    have hD2 : (cont Γ2 r).getP q = some D := by rw [hc2]; exact hD
    have hu2 : fol w (cont Γ2 r) (tm a r) q = some u := by rw [hc2]; exact hu
    generalize hev : a.eval y = yv at hRz hya
    cases hRz with
    | @agg _ vs fq _ _ _ hR1 hone hrest =>
      cases hrest
      simp only [List.append_nil] at hny hdy hSy hmy
      obtain ⟨u0, fc, fr, k1, k2, k3⟩ := hG2.at hD2
      rw [hu2] at k1; cases k1
      obtain ⟨b, o, us, f0, f1, f2, g1, g2, g3, g4, g5⟩ := k2.rowAt hcs
      rw [g1 j] at hx'; cases hx'
      have hn := (List.nodup_append.1 (k3.nodup_iff.1 (hG2.nodup r))).1
      have hbfc : b ∈ fc := by rw [g3]; simp
      have hsz : vs.length = (ti P t).size := by rw [← hR1.length]; exact hlen.1
      have key : ∀ (fcc frr : List Nat), (F2 r).Perm (fcc ++ frr) → R S2 w [D] [u] fcc → ∃ w' fc', (storeCells ⟨b, o + j, none⟩ vs 0).run P w = .ok () w' ∧ But b w w' ∧ R S2 w' [setCells D i j zs] [u] fc' ∧ (∀ k, k ∈ fc' → k ∈ fcc ∨ k ∈ fq) ∧ fc'.Nodup ∧ b ∈ fcc ∧
          (∀ i0 cs0, (setCells D i j zs).row i0 = some cs0 → ∃ cs1, D.row i0 = some cs1) ∧ (∀ i0 j0, addrOf (setCells D i j zs) u i0 j0 = addrOf D u i0 j0) := by
        intro fcc frr hpp hRR
        have hnn := (List.nodup_append.1 (hpp.nodup_iff.1 (hG2.nodup r))).1
        have hbb : b ∈ fcc := by
          obtain ⟨b2, o2, us2, _, _, _, q1, q2, q3, _, _⟩ := hRR.rowAt hcs
          have e3 := (q1 j).symm.trans (g1 j)
          simp only [Option.some.injEq, Addr.mk.injEq, and_true] at e3
          rw [← e3.1, q3]; simp
        obtain ⟨w', fc', m1, m2, m3, m4, m5, m6, m7⟩ := hRR.stores (P := P) hnn (fun k o hk => hG2.apart r k o (hpp.mem_iff.2 (List.mem_append_left _ hk))) hcs (j := j) (by omega) hR1 hny (fun k hk hk' => hdy r k hk (hpp.mem_iff.2 (List.mem_append_left _ hk'))) hSy hone b (o + j) 0 (by rw [g1]; rfl) hbb (fun k => by rw [g1]; congr 2; omega)
        exact ⟨w', fc', m1, m2, m3, m4, m5, hbb, m6, m7⟩
      obtain ⟨w', fc', m1, m2, m3, m4, m5, m8, m6, m7⟩ := key fc fr k3 k2
      refine ⟨w', ?_, rfl, S2, ?_⟩
      · simp only [Instr.storeAt, Sem.run_bind, sureAddr_run, Result.andThen_ok, storeVar, run_size ht]
        simp only [Value.cells, List.size_toArray, hsz]
        simpa using m1
      · refine hG2.stored (fz := fq) (fc := fc) (fc' := fc') (b := b) hD2 hDne hu2 (fun k hk => k3.mem_iff.2 (List.mem_append_left _ hk)) m2 hbfc ?_ ?_ hdy hSy hmy (fun i0 cs0 h0 => ⟨m6 i0 cs0 h0, m7 i0⟩)
        · intro fcc frr hpp hRR hbb
          obtain ⟨w'', fc'', n1, n2, n3, n4, n5, n8, n6, n7⟩ := key fcc frr hpp hRR
          rw [m1] at n1; cases n1
          exact ⟨fc'', n3, n4, n5⟩
        · intro fcc frr hpp hRR
          obtain ⟨w'', fc'', n1, n2, n3, n4, n5, n8, n6, n7⟩ := key fcc frr hpp hRR
          exact n8
  · rename_i hg
    split at he
    rotate_left
    · cases he
    rename_i hsz1
    split at he
    rotate_left
    · have := evBx_ok h ht hsz1 hadr hD hcs he
      rw [hxv] at this; exact this
    rename_i Γ2 z htk
    split at he
    rotate_left
    · cases he
    rename_i hlj
    cases he
    obtain ⟨F2, fy, hG2, hRz, hny, hdy, hfy, hF2⟩ := tak_ok h htk hya hyc
    have hc2 := tak_cont htk hroot
    have hD2 : (cont Γ2 r).getP q = some D := by rw [hc2]; exact hD
    have hu2 : fol w (cont Γ2 r) (tm a r) q = some u := by rw [hc2]; exact hu
    have hv1 := hRz.leafV hlj.1
    obtain ⟨u0, fc, fr, k1, k2, k3⟩ := hG2.at hD2
    rw [hu2] at k1; cases k1
    have key : ∀ (fcc frr : List Nat), (F2 r).Perm (fcc ++ frr) → R S w [D] [u] fcc → ∃ fc', x'.block ∈ fcc ∧ x'.spot = none ∧ (store x' (a.eval y)).run P w = .ok () (w.setCell x' (a.eval y)) ∧ R S (w.setCell x' (a.eval y)) [D.setCell i j z] [u] fc' ∧ (∀ k, k ∈ fc' → k ∈ fcc ∨ k ∈ fy) ∧ fc'.Nodup := by
      intro fcc frr hpp hRR
      have hnn := (List.nodup_append.1 (hpp.nodup_iff.1 (hG2.nodup r))).1
      have hinc : ∀ k, k ∈ fcc → k ∈ F2 r := fun k hk => hpp.mem_iff.2 (List.mem_append_left _ hk)
      obtain ⟨b, o, fc', m1, m2, m3, m4, m5, m6⟩ := hRR.store1 (P := P) hnn (fun k o hk => hG2.apart r k o (hinc k hk)) hcs hlj.2 hRz hv1 (fun k hk hk' => hdy r k hk (hinc k hk'))
      rw [m1] at hx'; cases hx'
      exact ⟨fc', m2, rfl, m3, m4, m5, m6 hny⟩
    obtain ⟨fc', m1, m2, m3, m4, m5, m6⟩ := key fc fr k3 k2
    refine ⟨w.setCell x' (a.eval y), ?_, rfl, S, ?_⟩
    · obtain ⟨xb, xo, xs⟩ := x'
      simp only at m2; subst m2
      simp only [Instr.storeAt, Sem.run_bind, sureAddr_run, Result.andThen_ok, storeVar, run_size ht]
      have e1 : (a.eval y).cells = #[a.eval y] := by
        cases hh : a.eval y <;> simp_all [Value.cells, Value.oneCell']
      simp only [e1, List.size_toArray, List.length_singleton, hsz1]
      simp only [ne_eq, not_true_eq_false, if_false, storeCells, Sem.run_bind, Addr.add_zero', Sem.run_ite]
      rw [m3]; rfl
    · have hzl : z.cells = [z] := hRz.leaf hv1
      refine hG2.stored (fz := fy) (fc := fc) (fc' := fc') (b := x'.block) hD2 hDne hu2 (fun k hk => k3.mem_iff.2 (List.mem_append_left _ hk)) (But.setCell w x' _) m1 ?_ ?_ hdy ?_ ?_ ?_
      · intro fcc frr hpp hRR hbb
        obtain ⟨fc'', n1, n2, n3, n4, n5, n6⟩ := key fcc frr hpp hRR
        exact ⟨fc'', n4, n5, n6⟩
      · intro fcc frr hpp hRR
        obtain ⟨fc'', n1, n2, n3, n4, n5, n6⟩ := key fcc frr hpp hRR
        exact n1
      · intro k o hk; obtain ⟨s, hs⟩ := hfy k hk; exact h.apart s k o hs
      · intro k hk; obtain ⟨s, hs⟩ := hfy k hk; exact h.mine s k hs
      · intro i0 cs0 h0; exact ⟨row_setCell h0, fun j0 => addr_setCell hzl _ _ _ _ _⟩
end
end Go.Am
end
