/- Part of the proof of a law of the image. -/
import Derived.Test.YtfgfjgbggkdobaaGreatQPE
import Derived.Test.YtfgfjgbggkdobaaGreatQPU
import Derived.Test.YtfgfjgbggkdobaaGreatQTy
import Derived.IntWalk
set_option linter.all false
set_option maxRecDepth 100000
namespace Go.Am
open Go
noncomputable section
abbrev pg := Proofs.Tryz.prog
theorem mo : Proofs.Tryz.prog.follows .mixedOrders = true := by kernel_rfl
abbrev I (n : Int) : V := .c (.int .i64 n)
abbrev B (b : Bool) : V := .c (.bool b)
abbrev St (s : ByteArray) : V := .c (.string s)
abbrev Li (l : List Int) : V := .sl (l.map I)
def encB (b : Broker) : V := .agg [I b.id, I b.epoch, St b.rack, B b.fenced, B b.leaving]
def encP (p : Part) : V := .agg [Li p.ids, Li p.isr, I p.leader, I p.epoch, Li p.add, Li p.drop]
def encT (t : Topic) : V := .agg [I t.id, St t.name, .sl (t.parts.map encP)]
def encC (c : Config) : V := .agg [I c.topic, St c.key, St c.value]
def encD (d : Done) : V := .agg [I d.client, I d.serial, I d.code]
def encM (m : Image) : V := .agg [.sl (m.brokers.map encB), .sl (m.topics.map encT), .sl (m.configs.map encC), .sl (m.done.map encD), I m.last]
def encR (r : Record) : V := .agg [I r.kind, I r.broker, I r.epoch, I r.topic, I r.part, I r.leader, I r.client, I r.serial, I r.code, B r.flag, St r.name, St r.key, St r.value, St r.rack, Li r.ids, Li r.isr, Li r.add, Li r.drop]
@[simp] theorem encB_eq (b : Broker) : encB b = .agg [I b.id, I b.epoch, St b.rack, B b.fenced, B b.leaving] := rfl
@[simp] theorem encP_eq (p : Part) : encP p = .agg [Li p.ids, Li p.isr, I p.leader, I p.epoch, Li p.add, Li p.drop] := rfl
@[simp] theorem encT_eq (t : Topic) : encT t = .agg [I t.id, St t.name, .sl (t.parts.map encP)] := rfl
@[simp] theorem encC_eq (c : Config) : encC c = .agg [I c.topic, St c.key, St c.value] := rfl
@[simp] theorem encD_eq (d : Done) : encD d = .agg [I d.client, I d.serial, I d.code] := rfl
@[simp] theorem encM_eq (m : Image) : encM m = .agg [.sl (m.brokers.map encB), .sl (m.topics.map encT), .sl (m.configs.map encC), .sl (m.done.map encD), I m.last] := rfl
@[simp] theorem encR_eq (r : Record) : encR r = .agg [I r.kind, I r.broker, I r.epoch, I r.topic, I r.part, I r.leader, I r.client, I r.serial, I r.code, B r.flag, St r.name, St r.key, St r.value, St r.rack, Li r.ids, Li r.isr, Li r.add, Li r.drop] := rfl
attribute [simp] evLookup evMapUpd bldO isMapV ownT ownB isSlV u8L ev evField evFunc tmpOf evIface plain cOf anyB evLen evBin evUn evConv evNil evIndex evPick evSlice evAppend evExtract evStore evFresh prim primB primNil primEq eqC eqCs neqF kInt evIndexAddr evFieldAddr evLoad adr resE tkf frz IntWalk.i64_in rootOf setCells setSeg bld zeroV cellsB srcE dstE chk_pos lookL okL okV scalB scalL
def bindE {α β : Type} (x : Option (Env × α)) (F : Env → α → Option β) (_ : Tok F := ⟨⟩) : Option β := match x with | some (Γ, e) => F Γ e | none => none
@[simp] theorem bindE_some {α β : Type} (Γ : Env) (e : α) (F : Env → α → Option β) : bindE (some (Γ, e)) F = F Γ e := rfl
@[simp] theorem bindE_none {α β : Type} (F : Env → α → Option β) : bindE none F = none := rfl
@[simp] theorem frzL_nil (Γ : Env) : frzL Γ [] = some (Γ, []) := rfl
@[simp] theorem frzL_cons (Γ : Env) (i : Nat) (x : Operand) (l : List (Nat × Operand)) : frzL Γ ((i, x) :: l) = bindE (frz Γ (rd Γ x)) fun Γ1 y => if cellsB y then bindE (frzL Γ1 l) fun Γ2 ys => some (Γ2, (i, y) :: ys) else none := by
  simp only [frzL]; rcases frz Γ (rd Γ x) with _ | ⟨Γ1, y⟩ <;> first | rfl | (rcases h : frzL Γ1 l with _ | ⟨_, _⟩ <;> simp [bindE, h])
@[simp] theorem frzA_nil (Γ : Env) : frzA Γ [] = some (Γ, []) := rfl
@[simp] theorem frzA_cons (Γ : Env) (x : Operand) (l : List Operand) : frzA Γ (x :: l) = bindE (frzE Γ (rd Γ x)) fun Γ1 y => bindE (frzA Γ1 l) fun Γ2 ys => some (Γ2, y :: ys) := by
  simp only [frzA]; rcases frzE Γ (rd Γ x) with _ | ⟨Γ1, y⟩ <;> first | rfl | (rcases h : frzA Γ1 l with _ | ⟨_, _⟩ <;> simp [bindE, h])
@[simp] theorem takA_nil (Γ : Env) : takA Γ [] = some (Γ, []) := rfl
@[simp] theorem takA_cons (Γ : Env) (x : Operand) (l : List Operand) : takA Γ (x :: l) = bindE (tak Γ (rd Γ x)) fun Γ1 y => bindE (takA Γ1 l) fun Γ2 ys => some (Γ2, y :: ys) := by
  simp only [takA]; rcases tak Γ (rd Γ x) with _ | ⟨Γ1, y⟩ <;> first | rfl | (rcases h : takA Γ1 l with _ | ⟨_, _⟩ <;> simp [bindE, h])
@[simp] theorem takL_nil (Γ : Env) : takL Γ [] = some (Γ, []) := rfl
@[simp] theorem takC_p (Γ : Env) (x : V) : takC Γ (.p x) = tak Γ (.p x) := rfl
@[simp] theorem takC_al (Γ : Env) (r : Nat) (q) : takC Γ (.al r q) = tak Γ (.al r q) := rfl
@[simp] theorem takC_pa (Γ : Env) (r : Nat) (q i j) : takC Γ (.pa r q i j) = tak Γ (.pa r q i j) := rfl
@[simp] theorem takC_ag (Γ : Env) (r : Nat) (q i j n) : takC Γ (.ag r q i j n) = tak Γ (.ag r q i j n) := rfl
def conL (Γ : Env) : List Nat → List V
  | [] => []
  | s :: l => cont Γ s :: conL Γ l
def conB (Γ : Env) : List Nat → Bool
  | [] => true
  | s :: l => pureB (cont Γ s) && conB Γ l
@[simp] theorem conL_nil (Γ : Env) : conL Γ [] = [] := rfl
@[simp] theorem conL_cons (Γ : Env) (s l) : conL Γ (s :: l) = cont Γ s :: conL Γ l := rfl
@[simp] theorem conB_nil (Γ : Env) : conB Γ [] = true := rfl
@[simp] theorem conB_cons (Γ : Env) (s l) : conB Γ (s :: l) = (pureB (cont Γ s) && conB Γ l) := rfl
@[simp] theorem takC_cl (Γ : Env) (f l) : takC Γ (.cl f l) = if conB Γ l then some (Γ, .clo f (conL Γ l)) else none := by
  have e1 : l.all (fun s => pureB (cont Γ s)) = conB Γ l := by induction l with | nil => rfl | cons s l ih => simp only [List.all_cons, conB, ih]
  have e2 : ∀ l : List Nat, (l.map fun s => cont Γ s) = conL Γ l := by intro l; induction l with | nil => rfl | cons s l ih => simp only [List.map_cons, conL, ih]
  simp only [takC, e1, e2]
@[simp] theorem tak_p (Γ : Env) (x : V) : tak Γ (.p x) = some (Γ, x) := rfl
@[simp] theorem tak_dead (Γ : Env) : tak Γ dead = some (Γ, .any) := rfl
@[simp] theorem tak_al (Γ : Env) (r : Nat) (q) : tak Γ (.al r q) = match (cont Γ r).getP q with
    | some y => if pureB y then some (Γ, y) else some (upd Γ r q .any, y)
    | none => none := rfl
@[simp] theorem tak_ag (Γ : Env) (r : Nat) (q i j n) : tak Γ (.ag r q i j n) = match (cont Γ r).getP q with
    | some (.own cs) => if i = 0 ∧ j = 0 ∧ n = cs.length then some (upd Γ r q (.own (cs.map fun _ => .any)), .agg cs) else none
    | _ => none := rfl
@[simp] theorem tak_pa (Γ : Env) (r : Nat) (q i j) : tak Γ (.pa r q i j) = none := rfl
@[simp] theorem tak_bx (Γ : Env) (e) : tak Γ (.bx e) = none := rfl
@[simp] theorem frzE_p (Γ : Env) (x : V) : frzE Γ (.p x) = frz Γ (.p x) := rfl
@[simp] theorem frzE_dead (Γ : Env) : frzE Γ dead = frz Γ dead := rfl
@[simp] theorem frzE_al (Γ : Env) (r : Nat) (q) : frzE Γ (.al r q) = frz Γ (.al r q) := rfl
@[simp] theorem frzE_ag (Γ : Env) (r : Nat) (q i j n) : frzE Γ (.ag r q i j n) = frz Γ (.ag r q i j n) := rfl
@[simp] theorem frzE_pa (Γ : Env) (r : Nat) (q i j) : frzE Γ (.pa r q i j) = match (cont Γ r).getP q with
    | some y => match y.row i with
      | some cs => some (upd Γ r q (pv y), .ip (pvL cs) j)
      | none => none
    | none => none := rfl
@[simp] theorem tak_cl (Γ : Env) (f l) : tak Γ (.cl f l) = if conB Γ l then some (Γ, .clo f (conL Γ l)) else none := takC_cl Γ f l
def pvS (Γ : Env) : List Nat → List V
  | [] => []
  | s :: l => pv (cont Γ s) :: pvS Γ l
def anyS (Γ : Env) : List Nat → Bool
  | [] => true
  | s :: l => !anyB (cont Γ s) && anyS Γ l
def frzS (Γ : Env) : List Nat → Env
  | [] => Γ
  | s :: l => frzS (if pureB (cont Γ s) then Γ else upd Γ s [] (pv (cont Γ s))) l
@[simp] theorem pvS_nil (Γ : Env) : pvS Γ [] = [] := rfl
@[simp] theorem pvS_cons (Γ : Env) (s l) : pvS Γ (s :: l) = pv (cont Γ s) :: pvS Γ l := rfl
@[simp] theorem anyS_nil (Γ : Env) : anyS Γ [] = true := rfl
@[simp] theorem anyS_cons (Γ : Env) (s l) : anyS Γ (s :: l) = (!anyB (cont Γ s) && anyS Γ l) := rfl
@[simp] theorem frzS_nil (Γ : Env) : frzS Γ [] = Γ := rfl
@[simp] theorem frzS_cons (Γ : Env) (s l) : frzS Γ (s :: l) = frzS (if pureB (cont Γ s) then Γ else upd Γ s [] (pv (cont Γ s))) l := rfl
@[simp] theorem frzE_cl (Γ : Env) (f l) : frzE Γ (.cl f l) = if anyS Γ l then some (frzS Γ l, .clo f (pvS Γ l)) else none := by
  have e1 : (∀ s ∈ l, anyB (cont Γ s) = false) ↔ anyS Γ l = true := by
    induction l with
    | nil => simp
    | cons s l ih => simp only [List.mem_cons, forall_eq_or_imp, anyS, Bool.and_eq_true, Bool.not_eq_true', ih]
  have e2 : (l.map fun s => pv (cont Γ s)) = pvS Γ l := by
    clear e1; induction l with
    | nil => rfl
    | cons s l ih => simp only [List.map_cons, pvS, ih]
  have e3 : ∀ (l : List Nat) (Γ : Env), l.foldl (fun Γ s => if pureB (cont Γ s) then Γ else upd Γ s [] (pv (cont Γ s))) Γ = frzS Γ l := by
    intro l; induction l with
    | nil => intro Γ; rfl
    | cons s l ih => intro Γ; simp only [List.foldl_cons, frzS, ih]
  simp only [frzE, e2, e3]
  by_cases h : anyS Γ l = true
  · rw [if_pos (e1.2 h), if_pos h]
  · rw [if_neg (fun hh => h (e1.1 hh)), if_neg h]
@[simp] theorem takP_nil (Γ : Env) : takP Γ [] = some (Γ, []) := rfl
@[simp] theorem evBox_eq (Γ : Env) (x : Operand) : evBox Γ x = bindE (tkf Γ (rd Γ x)) fun Γ1 y => if cellsB y then some (Γ1, .p (.own y.cells)) else none := by
  simp only [evBox]; rcases tkf Γ (rd Γ x) with _ | ⟨_, _⟩ <;> rfl
def optC {α β : Type} (x : Option α) (F : α → Option β) (_ : Tok F := ⟨⟩) : Option β := match x with | some e => F e | none => none
@[simp] theorem optC_some {α β : Type} (e : α) (F : α → Option β) : optC (some e) F = F e := rfl
@[simp] theorem optC_none {α β : Type} (F : α → Option β) : optC none F = none := rfl
@[simp] theorem constV_nf : constV .nilFunc = .c .nilFunc := rfl
@[simp] theorem constV_mn : constV (.map none) = .c (.map none) := rfl
@[simp] theorem evBuildO_eq (P : Program) (Γ : Env) (t : TypeId) (parts : Array (Nat × Operand)) : evBuildO P Γ t parts = if (ti P t).ok = true ∧ (ti P t).k = .struct then bindE (takP Γ parts.toList) fun Γ1 ys => optC (bldO (ti P t).flds (zeroV (ti P t).zero) ys) fun cells => some (Γ1, .p (.agg cells)) else none := by
  simp only [evBuildO]; split <;> first | rfl | (rcases takP Γ parts.toList with _ | ⟨Γ1, ys⟩ <;> first | rfl | (simp only [bindE]; rcases bldO (ti P t).flds (zeroV (ti P t).zero) ys with _ | _ <;> rfl))
@[simp] theorem evBuild_eq (P : Program) (Γ : Env) (t : TypeId) (parts : Array (Nat × Operand)) : evBuild P Γ t parts = if (ti P t).ok = true ∧ (ti P t).k = .struct then bindE (frzL Γ parts.toList) fun Γ1 ys => optC (bld (ti P t).flds (zeroV (ti P t).zero) ys) fun cells =>
    if pureL (cells.map pv) then some (Γ1, .p (.agg (cells.map fun z => if pureB z then z else pv z))) else none else none := by
  simp only [evBuild]; split <;> first | rfl | (rcases frzL Γ parts.toList with _ | ⟨Γ1, ys⟩ <;> first | rfl | (simp only [bindE]; rcases bld (ti P t).flds (zeroV (ti P t).zero) ys with _ | _ <;> rfl))
@[simp] theorem evBuildSlice_eq (P : Program) (Γ : Env) (t : TypeId) (n : Nat) (parts : Array (Nat × Operand)) : evBuildSlice P Γ t n parts = match (ti P t).k with
    | .slice e => if (ti P t).ok = true ∧ (ti P e).ok = true ∧ (ti P e).size ≠ 0 ∧ parts.toList.map (·.1) = List.range n ∧ n * (ti P e).size ≤ 16777216 then
        bindE (if ownT (ti P e).zero then takL Γ parts.toList else frzL Γ parts.toList) fun Γ1 ys => if ∀ y ∈ ys, y.2.cells.length = (ti P e).size then some (Γ1, .p (.uq (ys.map (·.2)))) else none
      else none
    | _ => none := by
  unfold evBuildSlice
  cases (ti P t).k <;> first
    | rfl
    | (simp only [parL]; rename_i e; generalize (if ownT (ti P e).zero = true then takL Γ parts.toList else frzL Γ parts.toList) = z; rcases z with _ | ⟨_, _⟩ <;> rfl)
@[simp] theorem resL_cons (P : Program) (Γ : Env) (r : ResultVar) (rs : List ResultVar) (fl : List Bool) (s : Nat) : resL P Γ (r :: rs) fl s = bindE (resE P Γ r) fun Γ1 e =>
    bindE (if fl.headD false then frzE (putX Γ1 (some s) e) (rd (putX Γ1 (some s) e) (.tmp s)) else tak (putX Γ1 (some s) e) (rd (putX Γ1 (some s) e) (.tmp s))) fun Γ2 y => resL P (putX Γ2 (some s) (.p y)) rs fl.tail (s + 1) := by
  simp only [resL]; rcases resE P Γ r with _ | ⟨Γ1, e⟩ <;> first | rfl | (simp only [bindE]; split <;> split <;> simp_all)
@[simp] theorem one_int (k n) : (Value.int k n).oneCell' = true := rfl
@[simp] theorem one_bool (b) : (Value.bool b).oneCell' = true := rfl
@[simp] theorem one_string (s) : (Value.string s).oneCell' = true := rfl
@[simp] theorem one_iface (t v) : (Value.iface t v).oneCell' = true := rfl
@[simp] theorem one_nilIface : (Value.nilIface).oneCell' = true := rfl
@[simp] theorem pvL_I (l : List Int) : pvL (l.map I) = l.map I := by rw [pvL_eq]; simp
@[simp] theorem pvL_B (l : List Broker) : pvL (l.map encB) = l.map encB := by rw [pvL_eq]; simp
@[simp] theorem pvL_P (l : List Part) : pvL (l.map encP) = l.map encP := by rw [pvL_eq]; simp
@[simp] theorem pvL_T (l : List Topic) : pvL (l.map encT) = l.map encT := by rw [pvL_eq]; simp
@[simp] theorem pvL_C (l : List Config) : pvL (l.map encC) = l.map encC := by rw [pvL_eq]; simp
@[simp] theorem pvL_D (l : List Done) : pvL (l.map encD) = l.map encD := by rw [pvL_eq]; simp
@[simp] theorem cutL_eq (l : List V) (lo hi : Int) : cutL l lo hi = (l.take hi.toNat).drop lo.toNat := rfl
@[simp] theorem pvL_take (k : Nat) (l : List V) : pvL (l.take k) = (pvL l).take k := by simp [pvL_eq]
@[simp] theorem pvL_drop (k : Nat) (l : List V) : pvL (l.drop k) = (pvL l).drop k := by simp [pvL_eq]
@[simp] theorem pvL_append (a b : List V) : pvL (a ++ b) = pvL a ++ pvL b := by simp [pvL_eq]
@[simp] theorem take_len_map {α : Type} (f : α → V) (l : List α) : (l.map f).take l.length = l.map f := List.take_of_length_le (by simp)
@[simp] theorem range_2 : List.range 2 = [0, 1] := rfl
@[simp] theorem range_3 : List.range 3 = [0, 1, 2] := rfl
@[simp] theorem range_4 : List.range 4 = [0, 1, 2, 3] := rfl
@[simp] theorem range_5 : List.range 5 = [0, 1, 2, 3, 4] := rfl
@[simp] theorem range_6 : List.range 6 = [0, 1, 2, 3, 4, 5] := rfl
@[simp] theorem range_7 : List.range 7 = [0, 1, 2, 3, 4, 5, 6] := rfl
@[simp] theorem range_8 : List.range 8 = [0, 1, 2, 3, 4, 5, 6, 7] := rfl
@[simp] theorem range_9 : List.range 9 = [0, 1, 2, 3, 4, 5, 6, 7, 8] := rfl
@[simp] theorem range_10 : List.range 10 = [0, 1, 2, 3, 4, 5, 6, 7, 8, 9] := rfl
@[simp] theorem range_11 : List.range 11 = [0, 1, 2, 3, 4, 5, 6, 7, 8, 9, 10] := rfl
@[simp] theorem range_12 : List.range 12 = [0, 1, 2, 3, 4, 5, 6, 7, 8, 9, 10, 11] := rfl
theorem okLen {l : List V} (h : okV (.sl l)) : l.length ≤ 9223372036854775807 := by have := h.1; simpa [maxLen] using this
end
end Go.Am
