/- Part of the proof of a law of the image. -/
import Derived.Test.YtfgfjgbggkdobaaGreatQPC
import Derived.Laws.Sem
set_option linter.all false
section
namespace Go.Am
open Go.RowKit
theorem Ali.ofTm {Γ : Env} {a a' : Act} {w : World} (ht : ∀ t, tm a' t = tm a t) : ∀ (x : E) (v : Value), Ali Γ a w x v → Ali Γ a' w x v := by
  intro x
  induction x with
  | p y => intro v _; trivial
  | al r q => intro v h D hD; rw [ht]; exact h D hD
  | pa r q i j => intro v h D cs hD hcs; rw [ht]; exact h D cs hD hcs
  | ag r q i j m => intro v h D cs hD hcs hjn; rw [ht]; exact h D cs hD hcs hjn
  | cl f l =>
    intro v h
    have e : l.map (tm a') = l.map (tm a) := List.map_congr_left fun t _ => ht t
    simp only [Ali, e]; exact h
  | bx e ih => rintro v ⟨y, u, h1, h2, h3, h4⟩; exact ⟨y, u, h1, h2, h3, ih u h4⟩
def resE (P : Program) (Γ : Env) : ResultVar → Option (Env × E)
  | .tmp t => some (Γ, rd Γ (.tmp t))
  | .cell a t => evLoad P Γ t (.tmp a)
def resL (P : Program) : Env → List ResultVar → List Bool → Nat → Option Env
  | Γ, [], _, _ => some Γ
  | Γ, r :: rs, fl, s => match resE P Γ r with
    | some (Γ1, e) => match (if fl.headD false then frzE (putX Γ1 (some s) e) (rd (putX Γ1 (some s) e) (.tmp s)) else tak (putX Γ1 (some s) e) (rd (putX Γ1 (some s) e) (.tmp s))) with
      | some (Γ2, y) => resL P (putX Γ2 (some s) (.p y)) rs fl.tail (s + 1)
      | none => none
    | none => none
def resOk (n : Nat) : List ResultVar → Bool
  | [] => true
  | .tmp t :: l => decide (t < n) && resOk n l
  | .cell t _ :: l => decide (t < n) && resOk n l
def resRun (tmps : Array Value) : ResultVar → Sem Value
  | .tmp t => pure (tmps.getD t undef)
  | .cell a t => do loadVar t (← asAddr (tmps.getD a undef))
def mkR : List V → V
  | [x] => x
  | l => .tup l
section
variable {C : Ctx} {Γ : Env} {a : Act} {w : World} {P : Program} {n N : Nat}
theorem loadAt_resRun {tmps : Array Value} {x t : Nat} {v : Value} (h : (Instr.loadAt t (tmps.getD x undef)).run P w = .ok v w) : (resRun tmps (.cell x t)).run P w = .ok v w := by
  unfold Instr.loadAt at h
  simp only [resRun]
  cases hv : tmps.getD x undef with
  | pointer p =>
    rw [hv] at h
    cases p with
    | none => simp [Instr.sureAddr, stuck] at h
    | some y =>
      simp only [Instr.sureAddr, Sem.run_bind, Sem.run_pure, Result.andThen_ok] at h
      simp only [asAddr, Sem.run_bind, Sem.run_pure, Result.andThen_ok]; exact h
  | _ => rw [hv] at h; simp [Instr.sureAddr, stuck] at h
theorem resRun_congr {tmps tmps' : Array Value} {rs : List ResultVar} (h : ∀ t, t < n → tmps'.getD t undef = tmps.getD t undef) (hok : resOk n rs = true) : ∀ r ∈ rs, resRun tmps' r = resRun tmps r := by
  induction rs with
  | nil => simp
  | cons r rs ih =>
    intro r' hr'
    have h1 : resOk n rs = true := by cases r <;> simp [resOk] at hok <;> exact hok.2
    rcases List.mem_cons.1 hr' with rfl | hr'
    · cases r' with
      | tmp t => simp [resOk] at hok; simp [resRun, h t hok.1]
      | cell t ty => simp [resOk] at hok; simp [resRun, h t hok.1]
    · exact ih h1 r' hr'
theorem resL_sound : ∀ {rs : List ResultVar} {fl : List Bool} {s : Nat} {Γ Γ' : Env} {a : Act}, resL P Γ rs fl s = some Γ' → resOk n rs = true → C.lo ≤ s → n ≤ s → s + rs.length ≤ N → Gd C N Γ a w →
    ∃ a' vs, Gd C N Γ' a' w ∧ vs.length = rs.length ∧ (∀ i v, vs[i]? = some v → tm a' (s + i) = v) ∧ (∀ t, t < s → tm a' t = tm a t) ∧ (rs.mapM (resRun a.tmps)).run P w = .ok vs w := by
  intro rs
  induction rs with
  | nil => intro fl s Γ Γ' a h _ _ _ _ hG; simp only [resL] at h; cases h; exact ⟨a, [], hG, rfl, by simp, fun _ _ => rfl, by simp⟩
  | cons r rs ih =>
    intro fl s Γ Γ' a h hok hlo hn hN hG
    have hok1 : resOk n rs = true := by cases r <;> simp [resOk] at hok <;> exact hok.2
    simp only [List.length_cons] at hN
    simp only [resL] at h
    split at h
    rotate_left
    · cases h
    rename_i Γ1 e he
    obtain ⟨v, hrun, hO⟩ : ∃ v, (resRun a.tmps r).run P w = .ok v w ∧ Out C Γ1 e a w v := by
      obtain ⟨_, S, F, hG'⟩ := hG
      cases r with
      | tmp t =>
        simp only [resE] at he; cases he
        exact ⟨a.eval (.tmp t), by simp only [resRun, Sem.run_pure]; rfl, Out.ofRd hG' (.tmp t)⟩
      | cell x t =>
        simp only [resE] at he
        obtain ⟨v, h1, h2⟩ := evLoad_ok hG' he
        exact ⟨v, loadAt_resRun h1, h2⟩
    have hd : ∀ d, (some s : Option Nat) = some d → C.lo ≤ d ∧ d < N := by intro d hd; cases hd; exact ⟨hlo, by omega⟩
    have hG1 := hO.put hG.1 hd
    have htm1 : ∀ t, tm (a.put (some s) v) t = if t = s then v else tm a t := fun t => tm_set a s v (by rw [hG.1]; omega) t
    obtain ⟨hsz1, S1, F1, hG1'⟩ := hG1
    obtain ⟨ha1, hc1⟩ := hG1'.rdAli (.tmp s)
    have hev : (a.put (some s) v).eval (.tmp s) = v := by have := htm1 s; rw [if_pos rfl] at this; exact this
    rw [hev] at ha1 hc1
    split at h
    rotate_left
    · cases h
    rename_i Γ2 y hy
    have hO2 : Out C Γ2 (.p y) (a.put (some s) v) w v := by
      split at hy
      · obtain ⟨S2, F2, g1, g2, _⟩ := frzE_ok hG1' hy ha1 hc1
        exact Out.pure g1 g2
      · exact Out.taken hG1' hy ha1 hc1
    have hG2 := hO2.put hsz1 hd
    have htm2 : ∀ t, tm ((a.put (some s) v).put (some s) v) t = if t = s then v else tm a t := fun t => by
      have := tm_set (a.put (some s) v) s v (by rw [hsz1]; omega) t
      rw [htm1] at this
      refine this.trans ?_
      split <;> simp_all
    obtain ⟨a', vs, g1, g2, g3, g4, g5⟩ := ih h hok1 (by omega) (by omega) (by omega) hG2
    refine ⟨a', v :: vs, g1, by simp [g2], ?_, ?_, ?_⟩
    · intro i u hi
      cases i with
      | zero => simp at hi; subst hi; rw [Nat.add_zero, g4 s (by omega), htm2, if_pos rfl]
      | succ i => simp at hi; have := g3 i u hi; rw [show s + (i + 1) = s + 1 + i by omega]; exact this
    · intro t ht; rw [g4 t (by omega), htm2, if_neg (by omega)]
    · have hcg := resRun_congr (rs := rs) (n := n) (tmps := a.tmps) (tmps' := ((a.put (some s) v).put (some s) v).tmps) (fun t ht => by have := htm2 t; rw [if_neg (by omega)] at this; exact this) hok1
      have hmm : ∀ (l : List ResultVar) (f g : ResultVar → Sem Value), (∀ r ∈ l, f r = g r) → l.mapM f = l.mapM g := by
        intro l f g
        induction l with
        | nil => intros; rfl
        | cons r l ih => intro hh; rw [List.mapM_cons, List.mapM_cons, hh r (by simp), ih (fun r hr => hh r (by simp [hr]))]
      rw [hmm _ _ _ hcg] at g5
      simp only [List.mapM_cons, Sem.run_bind, hrun, g5, Result.andThen_ok, Sem.run_pure]
theorem R.slots {S : Nat → Nat → Prop} : ∀ {xs vs fp}, R S w xs vs fp → ∃ F : Nat → List Nat, (∀ i x v, xs[i]? = some x → vs[i]? = some v → R S w [x] [v] (F i)) ∧ (∀ i, xs.length ≤ i → F i = []) ∧
    (fp.Nodup → (∀ i, (F i).Nodup) ∧ ∀ i j b, i ≠ j → b ∈ F i → b ∉ F j) ∧ ∀ b, (∃ i, b ∈ F i) ↔ b ∈ fp := by
  intro xs
  induction xs with
  | nil => intro vs fp h; cases h; exact ⟨fun _ => [], by simp, fun _ _ => rfl, by simp, by simp⟩
  | cons x xs ih =>
    intro vs fp h
    obtain ⟨v, us, f1, f2, rfl, rfl, m1, m2⟩ := R.uncons h
    obtain ⟨F, h1, h2, h3, h4⟩ := ih m2
    refine ⟨fun | 0 => f1 | i + 1 => F i, ?_, ?_, ?_, ?_⟩
    · intro i y u hy hu
      cases i with
      | zero => simp at hy hu; subst hy hu; exact m1
      | succ i => simp at hy hu; exact h1 i y u hy hu
    · intro i hi
      cases i with
      | zero => simp at hi
      | succ i => simp at hi; exact h2 i hi
    · intro hn
      rw [List.nodup_append] at hn
      obtain ⟨g1, g2⟩ := h3 hn.2.1
      refine ⟨fun i => ?_, fun i j b hij hb hb' => ?_⟩
      · cases i with
        | zero => exact hn.1
        | succ i => exact g1 i
      · cases i with
        | zero =>
          cases j with
          | zero => exact hij rfl
          | succ j => exact hn.2.2 b hb b ((h4 b).1 ⟨j, hb'⟩) rfl
        | succ i =>
          cases j with
          | zero => exact hn.2.2 b hb' b ((h4 b).1 ⟨i, hb⟩) rfl
          | succ j => exact g2 i j b (fun e => hij (by omega)) hb hb'
    · intro b
      constructor
      · rintro ⟨i, hi⟩
        cases i with
        | zero => exact List.mem_append_left _ hi
        | succ i => exact List.mem_append_right _ ((h4 b).1 ⟨i, hi⟩)
      · intro hb
        rcases List.mem_append.1 hb with hb | hb
        · exact ⟨0, hb⟩
        · obtain ⟨i, hi⟩ := (h4 b).2 hb; exact ⟨i + 1, hi⟩
theorem G.gather {S : Nat → Nat → Prop} {F : Nat → List Nat} (h : G C S F Γ a w) : ∀ (l : List Nat), l.Nodup → R S w (l.map (cont Γ)) (l.map (tm a)) (l.flatMap F) ∧ (l.flatMap F).Nodup := by
  intro l
  induction l with
  | nil => intro _; exact ⟨.nil, by simp⟩
  | cons s l ih =>
    intro hn
    rw [List.nodup_cons] at hn
    obtain ⟨h1, h2⟩ := ih hn.2
    refine ⟨R.cons (h.slots s) h1, ?_⟩
    rw [List.flatMap_cons, List.nodup_append]
    refine ⟨h.nodup s, h2, fun b hb c hc e => ?_⟩
    subst e
    obtain ⟨t, ht, hbt⟩ := List.mem_flatMap.1 hc
    exact h.disj s t b (fun e => hn.1 (e ▸ ht)) hb hbt
end
def env0 (xs : List V) : Env := fun i => match xs[i]? with | some x => .p x | none => dead
def ARes (P : Program) (n k : Nat) (rs : List ResultVar) (r : V) (os' : List V) (Γ : Env) : Prop :=
  ∃ fl Γ', resL P Γ rs fl n = some Γ' ∧ mkR ((List.range rs.length).map fun i => cont Γ' (n + i)) = r ∧ (List.range k).map (cont Γ') = os'
def AEnd (P : Program) (n k : Nat) (rs : List ResultVar) (r : V) (os' : List V) : X → Env → Prop
  | .exit _, _ => False
  | _, Γ => ARes P n k rs r os' Γ
theorem ACallM.intro {P : Program} (hm : P.follows .mixedOrders = true) {f : FuncId} {fn : Func} {c : Code} {sc : SC} {os xs : List V} {r : V} {os' : List V} (n : Nat) (rs : List ResultVar) (hf : P.funcs[f]? = some fn) (hb : fn.body = some c) (hen : entr P f = true)
    (hn : fn.ntmps = n) (hrs : fn.results = rs.toArray) (hok : resOk n rs = true) (hs : slim os.length n c = some sc) (hle : os.length + xs.length ≤ n)
    (h : okL os → okL xs → aw P sc (env0 (os ++ xs)) (AEnd P n os.length rs r os')) : ACallM P f os xs r os' := by
  refine ⟨hen, fun S w vo vs fo hRo hfo hap hlt hRx hS hgl => ?_⟩
  refine calls_of_wp hf hb ?_
  obtain ⟨F, f1, f2, f3, f4⟩ := hRo.slots
  obtain ⟨f5, f6⟩ := f3 hfo
  have hlo := hRo.length
  have hlx := hRx.length
  let a : Act := { tmps := (vo ++ vs).toArray ++ Array.replicate (fn.ntmps - (vo ++ vs).toArray.size) undef, defers := [] }
  have hsz : a.tmps.size = n := by simp [a, hn]; omega
  have htm : ∀ s, tm a s = ((vo ++ vs)[s]?).getD undef := by
    intro s
    simp only [tm, a, Array.getD_eq_getD_getElem?, Array.getElem?_append, List.size_toArray]
    split
    · simp
    · rename_i hge
      rw [List.getElem?_eq_none (by omega)]
      rw [Array.getElem?_replicate]
      split <;> rfl
  have hcont : ∀ s, cont (env0 (os ++ xs)) s = ((os ++ xs)[s]?).getD .any := by
    intro s; simp only [cont, env0]; cases (os ++ xs)[s]? <;> rfl
  let C : Ctx := ⟨w, S, fo, os.length, fun s => tm a s, fun b v e => ⟨(hgl b v e).1, fun hb => hap b 0 hb (hgl b v e).1, hS b 0 (hgl b v e).1, (hgl b v e).2⟩⟩
  have hG : G C S F (env0 (os ++ xs)) a w := by
    refine ⟨⟨fun _ _ h => h, hS, fun _ _ h => .inl h, rfl, rfl, rfl, Nat.le_refl _, fun _ _ _ => rfl⟩, ?_, f5, f6, ?_, ?_, ?_, ?_, rfl, fun _ _ => rfl⟩
    · intro s
      rw [hcont, htm]
      rcases Nat.lt_or_ge s os.length with h1 | h1
      · rw [List.getElem?_append_left h1, List.getElem?_append_left (by omega)]
        obtain ⟨x, hx⟩ : ∃ x, os[s]? = some x := ⟨_, List.getElem?_eq_getElem h1⟩
        obtain ⟨v, hv⟩ : ∃ v, vo[s]? = some v := ⟨_, List.getElem?_eq_getElem (by omega)⟩
        rw [hx, hv]
        exact f1 s x v hx hv
      · rw [f2 s h1, List.getElem?_append_right h1, List.getElem?_append_right (by omega), hlo]
        cases hx : xs[s - vo.length]? with
        | none =>
          rw [List.getElem?_eq_none (by rw [List.getElem?_eq_none_iff] at hx; omega)]
          exact .any .nil
        | some x =>
          obtain ⟨v, g0, g1, g2, hv, hg, hR, _⟩ := hRx.at _ x hx
          rw [hv]
          have : g1 = [] := by
            have := hg.symm
            simp only [List.append_eq_nil_iff] at this
            exact this.1.2
          rw [this] at hR
          exact hR
    · intro s b o hb; exact hap b o ((f4 b).1 ⟨s, hb⟩)
    · intro s b hb; have := (f4 b).1 ⟨s, hb⟩; exact ⟨hlt b this, .inl this⟩
    · intro s; simp only [env0]; cases (os ++ xs)[s]? <;> trivial
    · intro s hs'
      simp only [env0]
      rw [List.getElem?_eq_none (by simp; omega)]
  have hGd : Gd C n (env0 (os ++ xs)) a w := ⟨hsz, S, F, hG⟩
  refine aw_sound (C := C) hm hs hGd (h hRo.ok hRx.ok) ?_
  intro x Γ a' w' hx hG'
  have key : ARes P n os.length rs r os' Γ → a'.defers = [] ∧ ∃ v, (results fn a'.tmps).run P w' = .ok v w' ∧ ∃ v1 S' fp fo', Ending.returned v = .returned v1 ∧ R S' w' [r] [v1] fp ∧ R S' w' os' vo fo' ∧ (fp ++ fo').Nodup ∧
      (∀ b, b ∈ fp ++ fo' → b < w'.heap.size ∧ (b ∈ fo ∨ w.heap.size ≤ b)) ∧ (∀ b o, b ∈ fp ++ fo' → ¬ S' b o) ∧ (∀ b o, S b o → S' b o) ∧ (∀ b o, S' b o → S b o ∨ b ∈ fo ∨ w.heap.size ≤ b) ∧ (∀ b o, S' b o → b < w'.heap.size) ∧ Far fo w w' := by
    rintro ⟨fl, Γ', hres, hr, hos⟩
    obtain ⟨hsz', S1, F1, hG1⟩ := hG'
    let N := n + rs.length
    let ap : Act := { tmps := a'.tmps ++ Array.replicate rs.length undef, defers := a'.defers }
    have htp : ∀ s, tm ap s = tm a' s := by
      intro s
      simp only [tm, ap, Array.getD_eq_getD_getElem?, Array.getElem?_append]
      split
      · rfl
      · rename_i hge
        rw [Array.getElem?_eq_none (xs := a'.tmps) (by omega), Array.getElem?_replicate]
        split <;> rfl
    have hGp : G C S1 F1 Γ ap w' := by
      refine ⟨hG1.mem, fun s => by rw [htp]; exact hG1.slots s, hG1.nodup, hG1.disj, hG1.apart, hG1.mine, ?_, ?_, hG1.defers, fun s hs' => by rw [htp]; exact hG1.pins s hs'⟩
      · intro s
        rw [htp]; exact Ali.ofTm htp _ _ (hG1.ali s)
      · intro s hs'
        exact hG1.big s (by simp [ap] at hs'; omega)
    obtain ⟨a2, vs2, k1, k2, k3, k4, k5⟩ := resL_sound (N := N) hres hok (show os.length ≤ n by omega) (Nat.le_refl _) (Nat.le_refl _) ⟨by simp [ap, N, hsz'], S1, F1, hGp⟩
    obtain ⟨_, S2, F2, hG2⟩ := k1
    have hcg := resRun_congr (rs := rs) (n := n) (tmps := a'.tmps) (tmps' := ap.tmps) (fun t _ => htp t) hok
    have hmm : ∀ (l : List ResultVar) (f g : ResultVar → Sem Value), (∀ r ∈ l, f r = g r) → l.mapM f = l.mapM g := by
      intro l f g
      induction l with
      | nil => intros; rfl
      | cons r l ih => intro hh; rw [List.mapM_cons, List.mapM_cons, hh r (by simp), ih (fun r hr => hh r (by simp [hr]))]
    rw [hmm _ _ _ hcg] at k5
    refine ⟨hG1.defers, ?_⟩
    have hrun : (results fn a'.tmps).run P w' = .ok (if h : vs2.length = 1 then vs2[0] else .tuple vs2.toArray) w' := by
      have e : results fn a'.tmps = (do
          let vs ← fn.results.mapM (resRun a'.tmps)
          pure (if h : vs.size = 1 then vs[0] else .tuple vs)) := by
        unfold results
        congr 1
      rw [e, hrs, List.mapM_toArray]
      simp only [Sem.run_bind, Sem.run_map, k5, Result.andThen_ok, Sem.run_pure]
      rfl
    have hL : ((List.range rs.length).map (n + ·) ++ List.range os.length).Nodup := by
      rw [List.nodup_append]
      refine ⟨?_, List.nodup_range, ?_⟩
      · rw [List.Nodup, List.pairwise_map]
        exact List.nodup_range.imp fun h e => h (by omega)
      · intro x hx y hy e
        simp at hx hy
        omega
    have hL' := List.nodup_append.1 hL
    obtain ⟨q1, _⟩ := hG2.gather _ hL'.1
    obtain ⟨q2, _⟩ := hG2.gather _ hL'.2.1
    obtain ⟨_, q3⟩ := hG2.gather _ hL
    rw [List.flatMap_append] at q3
    have hv1 : (((List.range rs.length).map (n + ·)).map (tm a2)) = vs2 := by
      apply List.ext_getElem
      · simp [k2]
      · intro i h1 h2
        simp only [List.getElem_map, List.getElem_range]
        exact k3 i _ (List.getElem?_eq_getElem h2)
    have hv2 : ((List.range os.length).map (tm a2)) = vo := by
      apply List.ext_getElem
      · simp [hlo]
      · intro i h1 h2
        simp only [List.getElem_map, List.getElem_range]
        simp at h1
        rw [hG2.pins i h1]
        simp only [C, htm]
        rw [List.getElem?_append_left (by omega), List.getElem?_eq_getElem (by omega)]
        rfl
    rw [hv1] at q1
    rw [hv2, hos] at q2
    have hcl : ((List.range rs.length).map (n + ·)).map (cont Γ') = (List.range rs.length).map fun i => cont Γ' (n + i) := by simp
    rw [hcl] at q1
    have hmem : ∀ b, b ∈ List.flatMap F2 ((List.range rs.length).map (n + ·)) ++ List.flatMap F2 (List.range os.length) → ∃ s, b ∈ F2 s := by
      intro b hb
      rcases List.mem_append.1 hb with hb | hb <;> obtain ⟨s, _, hs⟩ := List.mem_flatMap.1 hb <;> exact ⟨s, hs⟩
    refine ⟨_, hrun, _, S2, _, _, rfl, ?_, q2, q3, fun b hb => ?_, fun b o hb => ?_, hG2.mem.sub, hG2.mem.new, hG2.mem.lt, ⟨hG2.mem.os, hG2.mem.tape, hG2.mem.output, hG2.mem.size, hG2.mem.block⟩⟩
    · rw [← hr]
      generalize hl : ((List.range rs.length).map fun i => cont Γ' (n + i)) = l at q1
      have hll := q1.length
      match l, hll with
      | [], hll =>
        rw [dif_neg (by simp at hll; omega)]
        simpa [mkR] using R.tup q1 (R.nil (S := S2) (w := w'))
      | [x], hll =>
        simp at hll
        rw [dif_pos hll.symm]
        simp only [mkR]
        have hone : ∀ (us : List Value) (hu : us.length = 1), us = [us[0]'(by omega)] := by
          intro us hu
          match us, hu with
          | [v], _ => rfl
        have h1 := hone vs2 hll.symm
        generalize vs2[0]'(by omega) = v0 at h1 ⊢
        rw [h1] at q1
        exact q1
      | x :: y :: l, hll =>
        simp at hll
        rw [dif_neg (by omega)]
        simpa [mkR] using R.tup q1 (R.nil (S := S2) (w := w'))
    · obtain ⟨s, hs⟩ := hmem b hb; exact hG2.mine s b hs
    · obtain ⟨s, hs⟩ := hmem b hb; exact hG2.apart s b o hs
  cases x with
  | norm => exact key hx
  | ret => exact key hx
  | exit id => exact hx.elim
end Go.Am
end
section
namespace Go.Am
open Go.RowKit
def ofA : List (Nat × E) → Env
  | [], _ => dead
  | (d, e) :: l, s => if s = d then e else ofA l s
def delK (d : Nat) : List (Nat × E) → List (Nat × E)
  | [] => []
  | (s, e) :: l => if s = d then delK d l else (s, kill d e) :: delK d l
def blurK (r : Nat) (q : Path) : List (Nat × E) → List (Nat × E)
  | [] => []
  | (s, e) :: l => if s = r then blurK r q l else (s, blur r q e) :: blurK r q l
def hidK (U : List Nat) : List (Nat × E) → List (Nat × E)
  | [] => []
  | (s, e) :: l => if s ∈ U then hidK U l else (s, killL U e) :: hidK U l
def num : Nat → List V → List (Nat × E)
  | _, [] => []
  | i, x :: l => (i, .p x) :: num (i + 1) l
theorem delK_ofA (d : Nat) (l : List (Nat × E)) (s : Nat) (h : s ≠ d) : ofA (delK d l) s = kill d (ofA l s) := by
  induction l with
  | nil => rfl
  | cons x l ih =>
    obtain ⟨t, e⟩ := x
    simp only [delK]
    by_cases ht : t = d
    · rw [if_pos ht, ih]
      simp only [ofA, if_neg (fun e : s = t => h (e.trans ht))]
    · rw [if_neg ht]
      simp only [ofA]
      by_cases hs : s = t
      · simp [hs]
      · simp [hs, ih]
theorem put_ofA (l : List (Nat × E)) (d : Nat) (x : E) : put (ofA l) d x = ofA ((d, x) :: delK d l) := by
  funext s
  simp only [put, ofA]
  by_cases hs : s = d
  · simp [hs]
  · simp only [if_neg hs]; exact (delK_ofA d l s hs).symm
theorem blurK_ofA (r : Nat) (q : Path) (l : List (Nat × E)) (s : Nat) (h : s ≠ r) : ofA (blurK r q l) s = blur r q (ofA l s) := by
  induction l with
  | nil => rfl
  | cons x l ih =>
    obtain ⟨t, e⟩ := x
    simp only [blurK]
    by_cases ht : t = r
    · rw [if_pos ht, ih]
      simp only [ofA, if_neg (fun e : s = t => h (e.trans ht))]
    · rw [if_neg ht]
      simp only [ofA]
      by_cases hs : s = t
      · simp [hs]
      · simp [hs, ih]
theorem upd_ofA (l : List (Nat × E)) (r : Nat) (q : Path) (y : V) : upd (ofA l) r q y = ofA ((r, .p ((cont (ofA l) r).setP q y)) :: blurK r q l) := by
  funext s
  simp only [upd, ofA]
  by_cases hs : s = r
  · simp [hs]
  · simp only [if_neg hs]; exact (blurK_ofA r q l s hs).symm
theorem hid_ofA (U : List Nat) (l : List (Nat × E)) : hid U (ofA l) = ofA (hidK U l) := by
  funext s
  simp only [hid]
  induction l with
  | nil => simp [ofA, hidK, dead, killL]
  | cons x l ih =>
    obtain ⟨t, e⟩ := x
    simp only [hidK]
    by_cases ht : t ∈ U
    · rw [if_pos ht, ← ih]
      by_cases hs : s ∈ U
      · simp [hs]
      · have : s ≠ t := fun e => hs (e ▸ ht)
        simp [hs, ofA, this]
    · rw [if_neg ht]
      simp only [ofA]
      by_cases hs : s = t
      · subst hs; simp [ht]
      · simp only [if_neg hs, ← ih]
theorem num_ofA (i : Nat) (xs : List V) (s : Nat) : ofA (num i xs) s = if s < i then dead else match xs[s - i]? with | some x => .p x | none => dead := by
  induction xs generalizing i with
  | nil => simp [num, ofA]
  | cons x xs ih =>
    simp only [num, ofA]
    by_cases hs : s = i
    · subst hs; simp
    · rw [if_neg hs, ih]
      by_cases h2 : s < i
      · rw [if_pos (by omega), if_pos h2]
      · rw [if_neg (by omega), if_neg h2]
        have : s - i = (s - (i + 1)) + 1 := by omega
        rw [this, List.getElem?_cons_succ]
theorem env0_ofA (xs : List V) : env0 xs = ofA (num 0 xs) := by
  funext s
  rw [num_ofA]; simp [env0] <;> rfl
theorem putX_some (Γ : Env) (d : Nat) (e : E) : putX Γ (some d) e = put Γ d (kill d e) := rfl
theorem putX_none (Γ : Env) (e : E) : putX Γ none e = Γ := rfl
def roots : E → List Nat
  | .p _ => []
  | .al r _ | .pa r _ _ _ | .ag r _ _ _ _ => [r]
  | .cl _ l => l
  | .bx e => roots e
section
variable {C : Ctx} {S : Nat → Nat → Prop} {F : Nat → List Nat} {Γ Γ' : Env} {a : Act} {w : World}
theorem Ali.ofRoots {Γ Γ' : Env} {a : Act} {w : World} : ∀ (x : E) (v : Value), (∀ r, r ∈ roots x → cont Γ' r = cont Γ r) → Ali Γ a w x v → Ali Γ' a w x v := by
  intro x
  induction x with
  | p y => intro v _ _; trivial
  | al r q => intro v hr h D hD; rw [hr r (by simp [roots])] at hD ⊢; exact h D hD
  | pa r q i j => intro v hr h D cs hD; rw [hr r (by simp [roots])] at hD ⊢; exact h D cs hD
  | ag r q i j m => intro v hr h D cs hD; rw [hr r (by simp [roots])] at hD ⊢; exact h D cs hD
  | cl f l => intro v _ h; exact h
  | bx e ih => rintro v hr ⟨y, u, h1, h2, h3, h4⟩; exact ⟨y, u, h1, h2, h3, ih u hr h4⟩
theorem G.forget (h : G C S F Γ a w) (hs : ∀ s, Γ' s = dead ∨ (Γ' s = Γ s ∧ ∀ r ∈ roots (Γ s), Γ' r = Γ r)) : ∃ F', G C S F' Γ' a w := by
  classical
  have hc : ∀ s, cont Γ' s = cont Γ s ∨ cont Γ' s = .any := by
    intro s
    rcases hs s with e | ⟨e, _⟩
    · exact .inr (by simp [cont, e, dead, E.cont])
    · exact .inl (by simp [cont, e])
  have hc2 : ∀ s, cont Γ' s ≠ cont Γ s → cont Γ' s = .any := fun s hne => (hc s).resolve_left hne
  refine ⟨fun s => if cont Γ' s = cont Γ s then F s else [], h.mem, ?_, ?_, ?_, ?_, ?_, ?_, ?_, h.defers, h.pins⟩
  · intro s
    by_cases hh : cont Γ' s = cont Γ s
    · simp only [if_pos hh]; rw [hh]; exact h.slots s
    · simp only [if_neg hh]; rw [hc2 s hh]; exact .any .nil
  · intro s; split
    · exact h.nodup s
    · exact List.nodup_nil
  · intro s t b hst hb
    split at hb
    · split
      · exact h.disj s t b hst hb
      · simp
    · simp at hb
  · intro s b o hb
    split at hb
    · exact h.apart s b o hb
    · simp at hb
  · intro s b hb
    split at hb
    · exact h.mine s b hb
    · simp at hb
  · intro s
    rcases hs s with e | ⟨e, hr⟩
    · rw [e]; trivial
    · have hA := h.ali s
      rw [e]
      have hroot : ∀ r, r ∈ roots (Γ s) → cont Γ' r = cont Γ r := fun r hm => by simp only [cont, hr r hm]
      exact Ali.ofRoots _ _ hroot hA
  · intro s hsz
    rcases hs s with e | ⟨e, _⟩
    · exact e
    · rw [e]; exact h.big s hsz
end
theorem Wk.of {Γ Γ' : Env} (hs : ∀ s, Γ' s = dead ∨ (Γ' s = Γ s ∧ ∀ r ∈ roots (Γ s), Γ' r = Γ r)) : Wk Γ Γ' := by
  intro C n a w ⟨hsz, S, F, hG⟩
  obtain ⟨F', hG'⟩ := hG.forget hs
  exact ⟨hsz, S, F', hG'⟩
theorem Wk.ofA {l l' : List (Nat × E)} (h : ∀ p ∈ l', Am.ofA l p.1 = p.2 ∧ ∀ r ∈ roots p.2, Am.ofA l' r = Am.ofA l r) : Wk (Am.ofA l) (Am.ofA l') := by
  refine Wk.of fun s => ?_
  have key : ∀ (m : List (Nat × E)), (∀ p ∈ m, p ∈ l') → Am.ofA m s = dead ∨ ∃ p ∈ l', p.1 = s ∧ Am.ofA m s = p.2 := by
    intro m
    induction m with
    | nil => intro _; exact .inl rfl
    | cons p m ih =>
      intro hm
      simp only [Am.ofA]
      split
      · rename_i hs; exact .inr ⟨p, hm p (by simp), hs.symm, rfl⟩
      · exact ih fun q hq => hm q (by simp [hq])
  rcases key l' (fun _ h => h) with e | ⟨p, hp, hps, e⟩
  · exact .inl e
  · obtain ⟨h1, h2⟩ := h p hp
    rw [hps] at h1
    refine .inr ⟨by rw [e, h1], fun r hr => h2 r (by rw [← h1]; exact hr)⟩
theorem Wk.freeze {Γ : Env} {r : Nat} {q : Path} {D : V} (hD : (cont Γ r).getP q = some D) (hne : D ≠ .any) : Wk Γ (upd Γ r q (pv D)) := by
  intro C n a w ⟨hsz, S, F, hG⟩
  obtain ⟨u, S', F', h1, h2, h3, h4, h5⟩ := hG.freeze hD hne
  exact ⟨hsz, S', F', h4⟩
end Go.Am
end
section
namespace Go.Am
open Go.RowKit
def Stop (p : Prop) : Prop := p
theorem Stop.mk {p : Prop} (h : p) : Stop p := h
abbrev KOf (_ : List SOp) : Type := Env → Prop
def awD (P : Program) (l : List SOp) (Γ : Env) (K : KOf l) : Prop := awL P l Γ K
structure Tok {α : Type} (a : α) : Type where
def evK {α : Type} (x : Option (Env × α)) (F : Env → α → Prop) (_ : Tok F := ⟨⟩) : Prop := match x with | some (Γ, e) => F Γ e | none => False
@[simp] theorem evK_some {α : Type} (Γ : Env) (e : α) (F : Env → α → Prop) : evK (some (Γ, e)) F = F Γ e := rfl
@[simp] theorem evK_none {α : Type} (F : Env → α → Prop) : evK none F = False := rfl
def plainOp : Op → Bool
  | .call { callee := .value _, .. } => false
  | _ => true
section
variable {P : Program} {dst : Option Nat} {op : Op} {l : List SOp} {Γ : Env} {K : Env → Prop}
theorem awL_op (h : plainOp op = true) : awD P (⟨dst, op, none, []⟩ :: l) Γ K = evK (ev P Γ op) (fun Γ1 e => awD P l (putX Γ1 dst e) K) := by
  have e1 : ∀ K', awOp P Γ { dst := dst, op := op, type := 0, pos := "", after := #[], guard := none } K' = evK (ev P Γ op) (fun Γ1 e => K' (putX Γ1 dst e)) := by
    intro K'
    unfold awOp
    split
    · rename_i heq; simp only at heq; subst heq; cases h
    · rename_i op' heq
      simp only
      unfold evK
      cases ev P Γ op <;> rfl
  simp only [awD, awL, awS, gS]
  rw [e1]
  simp
@[simp] theorem awL_nil : awD P [] Γ K = K Γ := rfl
@[simp] theorem awL_move (x : Operand) : awD P (⟨dst, .move x, none, []⟩ :: l) Γ K = awD P l (putX Γ dst (rd Γ x)) K := by rw [awL_op rfl]; rfl
@[simp] theorem awL_assign (x : Operand) : awD P (⟨dst, .assign x, none, []⟩ :: l) Γ K = evK (ev P Γ (.assign x)) (fun Γ1 e => awD P l (putX Γ1 dst e) K) := awL_op rfl
@[simp] theorem awL_pick (c x y : Operand) : awD P (⟨dst, .pick c x y, none, []⟩ :: l) Γ K = evK (evPick Γ c x y) (fun Γ1 e => awD P l (putX Γ1 dst e) K) := awL_op rfl
@[simp] theorem awL_alloc (t : TypeId) : awD P (⟨dst, .alloc t, none, []⟩ :: l) Γ K = evK (ev P Γ (.alloc t)) (fun Γ1 e => awD P l (putX Γ1 dst e) K) := awL_op rfl
@[simp] theorem awL_box (t : TypeId) (x : Operand) : awD P (⟨dst, .box t x, none, []⟩ :: l) Γ K = evK (evBox Γ x) (fun Γ1 e => awD P l (putX Γ1 dst e) K) := awL_op rfl
@[simp] theorem awL_build (t : TypeId) (x) : awD P (⟨dst, .build t x, none, []⟩ :: l) Γ K = evK (if ownB (ti P t).zero x.size then evBuildO P Γ t x else evBuild P Γ t x) (fun Γ1 e => awD P l (putX Γ1 dst e) K) := awL_op rfl
@[simp] theorem awL_buildSlice (t : TypeId) (n : Nat) (x) : awD P (⟨dst, .buildSlice t n x, none, []⟩ :: l) Γ K = evK (evBuildSlice P Γ t n x) (fun Γ1 e => awD P l (putX Γ1 dst e) K) := awL_op rfl
@[simp] theorem awL_load (t : TypeId) (x : Operand) : awD P (⟨dst, .load t x, none, []⟩ :: l) Γ K = evK (evLoad P Γ t x) (fun Γ1 e => awD P l (putX Γ1 dst e) K) := awL_op rfl
@[simp] theorem awL_store (t : TypeId) (x y : Operand) : awD P (⟨dst, .store t x y, none, []⟩ :: l) Γ K = evK (evStore P Γ t x y) (fun Γ1 e => awD P l (putX Γ1 dst e) K) := awL_op rfl
@[simp] theorem awL_nilCheck (x : Operand) : awD P (⟨dst, .nilCheck x, none, []⟩ :: l) Γ K = evK (evNil Γ x) (fun Γ1 e => awD P l (putX Γ1 dst e) K) := awL_op rfl
@[simp] theorem awL_binOp (o : BinOp) (t : TypeId) (x y : Operand) (yt) : awD P (⟨dst, .binOp o t x y yt, none, []⟩ :: l) Γ K = evK (evBin P Γ o t x y) (fun Γ1 e => awD P l (putX Γ1 dst e) K) := awL_op rfl
@[simp] theorem awL_unOp (o : UnOp) (t : TypeId) (x : Operand) : awD P (⟨dst, .unOp o t x, none, []⟩ :: l) Γ K = evK (evUn Γ o x) (fun Γ1 e => awD P l (putX Γ1 dst e) K) := awL_op rfl
@[simp] theorem awL_convert (s t : TypeId) (x : Operand) : awD P (⟨dst, .convert s t x, none, []⟩ :: l) Γ K = evK (evConv P Γ s t x) (fun Γ1 e => awD P l (putX Γ1 dst e) K) := awL_op rfl
@[simp] theorem awL_iface (t : TypeId) (x : Operand) : awD P (⟨dst, .makeInterface t x, none, []⟩ :: l) Γ K = evK (evIface P Γ t x) (fun Γ1 e => awD P l (putX Γ1 dst e) K) := awL_op rfl
@[simp] theorem awL_func (f) (x y) : awD P (⟨dst, .makeFunc f x y, none, []⟩ :: l) Γ K = evK (evFunc Γ f x y) (fun Γ1 e => awD P l (putX Γ1 dst e) K) := awL_op rfl
@[simp] theorem awL_slice (t : TypeId) (x : Operand) (lo hi mx) : awD P (⟨dst, .slice t x lo hi mx, none, []⟩ :: l) Γ K = evK (evSlice P Γ t x lo hi mx) (fun Γ1 e => awD P l (putX Γ1 dst e) K) := awL_op rfl
@[simp] theorem awL_fieldAddr (t : TypeId) (x : Operand) (f : Nat) : awD P (⟨dst, .fieldAddr t x f, none, []⟩ :: l) Γ K = evK (evFieldAddr P Γ t x f) (fun Γ1 e => awD P l (putX Γ1 dst e) K) := awL_op rfl
@[simp] theorem awL_indexAddr (t : TypeId) (x i : Operand) : awD P (⟨dst, .indexAddr t x i, none, []⟩ :: l) Γ K = evK (evIndexAddr P Γ t x i) (fun Γ1 e => awD P l (putX Γ1 dst e) K) := awL_op rfl
@[simp] theorem awL_extract (x : Operand) (i : Nat) : awD P (⟨dst, .extract x i, none, []⟩ :: l) Γ K = evK (evExtract Γ x i) (fun Γ1 e => awD P l (putX Γ1 dst e) K) := awL_op rfl
@[simp] theorem awL_len (x : Operand) (t : TypeId) : awD P (⟨dst, .call { callee := .builtin .len, args := #[x], argTypes := #[t] }, none, []⟩ :: l) Γ K = evK (evLen P Γ t x) (fun Γ1 e => awD P l (putX Γ1 dst e) K) := awL_op rfl
@[simp] theorem awL_append (s x : Operand) (t : TypeId) : awD P (⟨dst, .call { callee := .builtin .append, args := #[s, x], argTypes := #[t, t] }, none, []⟩ :: l) Γ K = evK (evAppend P Γ t s x) (fun Γ1 e => awD P l (putX Γ1 dst e) K) := by
  rw [awL_op rfl]; simp [ev]
theorem awL_callF {fid : FuncId} {args : Array Operand} {tys : Array TypeId} (h : evK (frzA Γ args.toList) fun Γ1 ys => ∃ r, ACall P fid ys r ∧ Stop (okV r → awD P l (putX Γ1 dst (.p r)) K)) :
    awD P (⟨dst, .call { callee := .value (.func fid), args := args, argTypes := tys }, none, []⟩ :: l) Γ K := by
  simp only [awD, awL, awS, gS]
  refine ⟨fun _ => ?_, fun e => absurd e (by simp)⟩
  show awCall P Γ (.func fid) args.toList dst _
  refine .inr (.inl ?_)
  unfold callF
  unfold evK at h
  cases hf : frzA Γ args.toList with
  | none => rw [hf] at h; exact h.elim
  | some x =>
    obtain ⟨Γ1, ys⟩ := x
    rw [hf] at h
    exact h
theorem awL_callS {fid : FuncId} {args : Array Operand} {tys : Array TypeId} (h : ∃ r, ACall P fid (args.toList.map fun x => look Γ (rd Γ x)) r ∧ scalB r = true ∧ Stop (okV r → awD P l (putX Γ dst (.p r)) K)) :
    awD P (⟨dst, .call { callee := .value (.func fid), args := args, argTypes := tys }, none, []⟩ :: l) Γ K := by
  simp only [awD, awL, awS, gS]
  refine ⟨fun _ => ?_, fun e => absurd e (by simp)⟩
  show awCall P Γ (.func fid) args.toList dst _
  refine .inl ?_
  unfold callS
  simp only [target]
  obtain ⟨r, h1, h2, h3⟩ := h
  exact ⟨r, by simpa using h1, h2, h3⟩
theorem awL_side {d : Nat} {u : Nat} {us : List Nat} (hp : loud op = false) (h : evK (ev P (hid (u :: us) Γ) op) fun Γ1 e => Γ1 = hid (u :: us) Γ ∧ Stop (awD P l (put Γ d (kill d (killL (u :: us) e))) K)) : awD P (⟨some d, op, none, u :: us⟩ :: l) Γ K := by
  simp only [awD, awL, awS]
  unfold evK at h
  cases he : ev P (hid (u :: us) Γ) op with
  | none => rw [he] at h; exact h.elim
  | some x =>
    obtain ⟨Γ1, e⟩ := x
    rw [he] at h
    obtain ⟨rfl, hk⟩ := h
    exact ⟨some (d, e), .op d rfl rfl hp he, hk⟩
theorem awL_sideS {d : Nat} {u : Nat} {us : List Nat} {fid : FuncId} {args : Array Operand} {tys : Array TypeId} (h : ∃ r, ACall P fid (args.toList.map fun x => look (hid (u :: us) Γ) (rd (hid (u :: us) Γ) x)) r ∧ scalB r = true ∧ Stop (awD P l (put Γ d (.p r)) K)) :
    awD P (⟨some d, .call { callee := .value (.func fid), args := args, argTypes := tys }, none, u :: us⟩ :: l) Γ K := by
  simp only [awD, awL, awS]
  obtain ⟨r, h1, h2, h3⟩ := h
  exact ⟨some (d, .p r), .callS d rfl rfl rfl (rfl : target _ (.func fid) = some (fid, [])) (by simpa using h1) h2, h3⟩
theorem awL_sideF {d : Nat} {u : Nat} {us : List Nat} {fid : FuncId} {args : Array Operand} {tys : Array TypeId} (h : evK (frzA (hid (u :: us) Γ) args.toList) fun Γ1 ys => Γ1 = hid (u :: us) Γ ∧ ∃ r, ACall P fid ys r ∧ Stop (awD P l (put Γ d (.p r)) K)) :
    awD P (⟨some d, .call { callee := .value (.func fid), args := args, argTypes := tys }, none, u :: us⟩ :: l) Γ K := by
  simp only [awD, awL, awS]
  unfold evK at h
  cases hf : frzA (hid (u :: us) Γ) args.toList with
  | none => rw [hf] at h; exact h.elim
  | some x =>
    obtain ⟨Γ1, ys⟩ := x
    rw [hf] at h
    obtain ⟨rfl, r, h1, h3⟩ := h
    exact ⟨some (d, .p r), .callP d rfl rfl rfl hf h1, h3⟩
def condK (x : V) (A B : Prop) : Prop := match x with | .c (.bool t) => (t = true → A) ∧ (t = false → B) | _ => False
@[simp] theorem condK_bool (t : Bool) (A B : Prop) : condK (.c (.bool t)) A B = ((t = true → A) ∧ (t = false → B)) := rfl
end
@[congr] theorem aw_congr {P : Program} {c : SC} {Γ Γ' : Env} {Q : X → Env → Prop} (h : Γ = Γ') : aw P c Γ Q = aw P c Γ' Q := by rw [h]
@[simp] theorem thenX_norm (K : Env → Prop) (Q : X → Env → Prop) (Γ : Env) : thenX K Q .norm Γ = K Γ := rfl
@[simp] theorem thenX_ret (K : Env → Prop) (Q : X → Env → Prop) (Γ : Env) : thenX K Q .ret Γ = Q .ret Γ := rfl
@[simp] theorem thenX_exit (K : Env → Prop) (Q : X → Env → Prop) (Γ : Env) (id : Nat) : thenX K Q (.exit id) Γ = Q (.exit id) Γ := rfl
@[simp] theorem inX_norm (id : Nat) (Q : X → Env → Prop) (Γ : Env) : inX id Q .norm Γ = Q .norm Γ := rfl
@[simp] theorem inX_ret (id : Nat) (Q : X → Env → Prop) (Γ : Env) : inX id Q .ret Γ = Q .ret Γ := rfl
theorem inX_hit (id : Nat) (Q : X → Env → Prop) (Γ : Env) : inX id Q (.exit id) Γ = Q .norm Γ := by simp [inX]
theorem inX_miss (id id' : Nat) (Q : X → Env → Prop) (Γ : Env) (h : id' ≠ id) : inX id Q (.exit id') Γ = Q (.exit id') Γ := by simp [inX, h]
def keepK (ks : List Nat) : List (Nat × E) → List (Nat × E)
  | [] => []
  | (s, e) :: l => if s ∈ ks then (s, e) :: keepK ks l else keepK ks l
def keepOk (ks : List Nat) : List (Nat × E) → Prop
  | [] => True
  | (s, e) :: l => (s ∈ ks → ∀ r ∈ roots e, r ∈ ks) ∧ keepOk ks l
theorem keepK_at (ks : List Nat) (l : List (Nat × E)) (s : Nat) : ofA (keepK ks l) s = if s ∈ ks then ofA l s else dead := by
  induction l with
  | nil => simp [keepK, ofA]
  | cons x l ih =>
    obtain ⟨t, e⟩ := x
    simp only [keepK]
    by_cases ht : t ∈ ks
    · rw [if_pos ht]
      simp only [ofA]
      by_cases hs : s = t
      · subst hs; simp [ht]
      · simp [hs, ih]
    · rw [if_neg ht, ih]
      simp only [ofA]
      by_cases hs : s = t
      · subst hs; simp [ht]
      · simp [hs]
theorem wkKeep (ks : List Nat) (l : List (Nat × E)) (h : keepOk ks l) : Wk (ofA l) (ofA (keepK ks l)) := by
  have key : ∀ s, s ∈ ks → ∀ r ∈ roots (ofA l s), r ∈ ks := by
    intro s hs
    induction l with
    | nil => simp [ofA, dead, roots]
    | cons x l ih =>
      obtain ⟨t, e⟩ := x
      simp only [keepOk] at h
      simp only [ofA]
      split
      · rename_i e'; subst e'; exact h.1 hs
      · exact ih h.2
  refine Wk.of fun s => ?_
  rw [keepK_at]
  by_cases hs : s ∈ ks
  · rw [if_pos hs]
    refine .inr ⟨rfl, fun r hr => ?_⟩
    rw [keepK_at, if_pos (key s hs r hr)]
  · rw [if_neg hs]; exact .inl rfl
@[simp] theorem ofA_nil (s : Nat) : ofA [] s = dead := rfl
@[simp] theorem ofA_cons (d : Nat) (e : E) (l : List (Nat × E)) (s : Nat) : ofA ((d, e) :: l) s = if s = d then e else ofA l s := rfl
@[simp] theorem num_nil (i : Nat) : num i [] = [] := rfl
@[simp] theorem num_cons (i : Nat) (x : V) (l : List V) : num i (x :: l) = (i, .p x) :: num (i + 1) l := rfl
@[simp] theorem delK_nil (d : Nat) : delK d [] = [] := rfl
@[simp] theorem delK_cons (d s : Nat) (e : E) (l : List (Nat × E)) : delK d ((s, e) :: l) = if s = d then delK d l else (s, kill d e) :: delK d l := rfl
@[simp] theorem blurK_nil (r : Nat) (q : Path) : blurK r q [] = [] := rfl
@[simp] theorem blurK_cons (r : Nat) (q : Path) (s : Nat) (e : E) (l : List (Nat × E)) : blurK r q ((s, e) :: l) = if s = r then blurK r q l else (s, blur r q e) :: blurK r q l := rfl
@[simp] theorem hidK_nil (U : List Nat) : hidK U [] = [] := rfl
@[simp] theorem hidK_cons (U : List Nat) (s : Nat) (e : E) (l : List (Nat × E)) : hidK U ((s, e) :: l) = if s ∈ U then hidK U l else (s, killL U e) :: hidK U l := rfl
@[simp] theorem keepK_nil (U : List Nat) : keepK U [] = [] := rfl
@[simp] theorem keepK_cons (U : List Nat) (s : Nat) (e : E) (l : List (Nat × E)) : keepK U ((s, e) :: l) = if s ∈ U then (s, e) :: keepK U l else keepK U l := rfl
@[simp] theorem keepOk_nil (U : List Nat) : keepOk U [] = True := rfl
@[simp] theorem keepOk_cons (ks : List Nat) (s : Nat) (e : E) (l : List (Nat × E)) : keepOk ks ((s, e) :: l) = ((s ∈ ks → ∀ r ∈ roots e, r ∈ ks) ∧ keepOk ks l) := rfl
@[simp] theorem roots_dead : roots dead = [] := rfl
@[simp] theorem roots_p (x : V) : roots (.p x) = [] := rfl
@[simp] theorem roots_al (r : Nat) (q) : roots (.al r q) = [r] := rfl
@[simp] theorem roots_pa (r : Nat) (q i j) : roots (.pa r q i j) = [r] := rfl
@[simp] theorem roots_ag (r : Nat) (q i j n) : roots (.ag r q i j n) = [r] := rfl
@[simp] theorem roots_cl (f l) : roots (.cl f l) = l := rfl
@[simp] theorem roots_bx (e) : roots (.bx e) = roots e := rfl
@[simp] theorem kill_p (d : Nat) (x : V) : kill d (.p x) = .p x := rfl
@[simp] theorem kill_al (d r : Nat) (q) : kill d (.al r q) = if r = d then dead else .al r q := rfl
@[simp] theorem kill_pa (d r : Nat) (q i j) : kill d (.pa r q i j) = if r = d then dead else .pa r q i j := rfl
@[simp] theorem kill_ag (d r : Nat) (q i j n) : kill d (.ag r q i j n) = if r = d then dead else .ag r q i j n := rfl
@[simp] theorem kill_cl (d : Nat) (f l) : kill d (.cl f l) = if d ∈ l then dead else .cl f l := rfl
@[simp] theorem kill_bx (d : Nat) (e) : kill d (.bx e) = .bx (kill d e) := rfl
@[simp] theorem kill_dead' (d : Nat) : kill d dead = dead := rfl
@[simp] theorem killL_p (U : List Nat) (x : V) : killL U (.p x) = .p x := rfl
@[simp] theorem killL_al (U : List Nat) (r : Nat) (q) : killL U (.al r q) = if r ∈ U then dead else .al r q := rfl
@[simp] theorem killL_pa (U : List Nat) (r : Nat) (q i j) : killL U (.pa r q i j) = if r ∈ U then dead else .pa r q i j := rfl
@[simp] theorem killL_ag (U : List Nat) (r : Nat) (q i j n) : killL U (.ag r q i j n) = if r ∈ U then dead else .ag r q i j n := rfl
@[simp] theorem killL_cl (U : List Nat) (f l) : killL U (.cl f l) = if ∃ s ∈ l, s ∈ U then dead else .cl f l := rfl
@[simp] theorem killL_bx (U : List Nat) (e) : killL U (.bx e) = .bx (killL U e) := rfl
@[simp] theorem killL_dead' (U : List Nat) : killL U dead = dead := rfl
@[simp] theorem blur_p (r : Nat) (q) (x : V) : blur r q (.p x) = .p x := rfl
@[simp] theorem blur_al (r : Nat) (q) (r' q') : blur r q (.al r' q') = if r' = r ∧ q'.isPrefixOf q = false then dead else .al r' q' := rfl
@[simp] theorem blur_pa (r : Nat) (q) (r' q' i j) : blur r q (.pa r' q' i j) = if r' = r ∧ q'.isPrefixOf q = false then dead else .pa r' q' i j := rfl
@[simp] theorem blur_ag (r : Nat) (q) (r' q' i j n) : blur r q (.ag r' q' i j n) = if r' = r then dead else .ag r' q' i j n := rfl
@[simp] theorem blur_cl (r : Nat) (q) (f l) : blur r q (.cl f l) = .cl f l := rfl
@[simp] theorem blur_bx (r : Nat) (q) (e) : blur r q (.bx e) = .bx (blur r q e) := rfl
@[simp] theorem blur_dead (r : Nat) (q) : blur r q dead = dead := rfl
def rdE (t : Nat) : E → E
  | .p x => if pureB x then .p x else .al t []
  | .bx _ => .al t []
  | e => e
@[simp] theorem rd_const (Γ : Env) (v : Value) : rd Γ (.const v) = .p (constV v) := rfl
@[simp] theorem rd_func (Γ : Env) (f) : rd Γ (.func f) = .p (.clo f []) := rfl
@[simp] theorem rd_tmp (Γ : Env) (t : Nat) : rd Γ (.tmp t) = rdE t (Γ t) := by simp only [rd]; cases Γ t <;> rfl
@[simp] theorem rdE_p (t : Nat) (x : V) : rdE t (.p x) = if pureB x then .p x else .al t [] := rfl
@[simp] theorem rdE_al (t r : Nat) (q) : rdE t (.al r q) = .al r q := rfl
@[simp] theorem rdE_pa (t r : Nat) (q i j) : rdE t (.pa r q i j) = .pa r q i j := rfl
@[simp] theorem rdE_ag (t r : Nat) (q i j n) : rdE t (.ag r q i j n) = .ag r q i j n := rfl
@[simp] theorem rdE_cl (t : Nat) (f l) : rdE t (.cl f l) = .cl f l := rfl
@[simp] theorem rdE_bx (t : Nat) (e) : rdE t (.bx e) = .al t [] := rfl
@[simp] theorem cont_at (l : List (Nat × E)) (r : Nat) : cont (ofA l) r = (ofA l r).cont := rfl
@[simp] theorem cont_p (x : V) : (E.p x).cont = x := rfl
@[simp] theorem cont_al (r : Nat) (q) : (E.al r q).cont = .any := rfl
@[simp] theorem cont_pa (r : Nat) (q i j) : (E.pa r q i j).cont = .any := rfl
@[simp] theorem cont_ag (r : Nat) (q i j n) : (E.ag r q i j n).cont = .any := rfl
@[simp] theorem cont_cl (f l) : (E.cl f l).cont = .any := rfl
@[simp] theorem cont_bx' (e) : (E.bx e).cont = .own [.any] := rfl
@[simp] theorem cont_dead : dead.cont = .any := rfl
@[simp] theorem unbx_p (x) : unbx (.p x) = none := rfl
@[simp] theorem unbx_al (r q) : unbx (.al r q) = none := rfl
@[simp] theorem unbx_pa (r q i j) : unbx (.pa r q i j) = none := rfl
@[simp] theorem unbx_ag (r q i j n) : unbx (.ag r q i j n) = none := rfl
@[simp] theorem unbx_cl (f l) : unbx (.cl f l) = none := rfl
@[simp] theorem unbx_dead : unbx dead = none := rfl
@[simp] theorem unbx_bx (e) : unbx (.bx e) = some e := rfl
@[simp] theorem boxE_p (Γ : Env) (x) : boxE Γ (.p x) = none := rfl
@[simp] theorem boxE_al (Γ : Env) (s) : boxE Γ (.al s []) = unbx (Γ s) := rfl
@[simp] theorem boxE_al' (Γ : Env) (s p q) : boxE Γ (.al s (p :: q)) = none := rfl
@[simp] theorem boxE_pa (Γ : Env) (r q i j) : boxE Γ (.pa r q i j) = none := rfl
@[simp] theorem boxE_ag (Γ : Env) (r q i j n) : boxE Γ (.ag r q i j n) = none := rfl
@[simp] theorem boxE_cl (Γ : Env) (f l) : boxE Γ (.cl f l) = none := rfl
@[simp] theorem boxE_dead (Γ : Env) : boxE Γ dead = none := rfl
@[simp] theorem evBx_own (Γ : Env) (r : Nat) (x : V) (e : E) : evBx Γ r [] (.own [x]) 0 e = if bxOk Γ r e then some (bxU Γ r e, dead) else none := rfl
@[simp] theorem evBx_cons (Γ : Env) (r : Nat) (p q) (D : V) (j) (e : E) : evBx Γ r (p :: q) D j e = none := rfl
@[simp] theorem bxOk_pa (Γ : Env) (r r' : Nat) (q' i' j) : bxOk Γ r (.pa r' q' i' j) = (r' != r && (match (cont Γ r').getP q' with | some D => (D.row i').isSome | none => false)) := rfl
@[simp] theorem bxOk_cl (Γ : Env) (r : Nat) (f l) : bxOk Γ r (.cl f l) = !(l.contains r) := rfl
theorem bxU_ofA (l : List (Nat × E)) (r : Nat) (e : E) : bxU (ofA l) r e = ofA ((r, .bx e) :: blurK r [] l) := by
  have h := upd_ofA l r [] .any
  funext s
  have hs := congrFun h s
  by_cases h0 : s = r
  · subst h0; simp [bxU, ofA]
  · simp only [upd, ofA, h0, if_false] at hs
    simp only [bxU, ofA, h0, if_false]
    exact hs
@[simp] theorem at__eq (l : List (Nat × E)) (r : Nat) (q) : at_ (ofA l) r q = ((ofA l r).cont.getP q).getD .any := rfl
@[simp] theorem look_p (Γ : Env) (x : V) : look Γ (.p x) = pv x := rfl
@[simp] theorem look_al (Γ : Env) (r : Nat) (q) : look Γ (.al r q) = pv (at_ Γ r q) := rfl
@[simp] theorem look_cl (Γ : Env) (f l) : look Γ (.cl f l) = .clo f (l.map (slotV Γ 2)) := rfl
def slotE (Γ : Env) (n : Nat) : E → V
  | .bx e => .ip [lookG Γ (slotV Γ n) e] 0
  | x => pv x.cont
@[simp] theorem slotV2 (Γ : Env) (s : Nat) : slotV Γ 2 s = slotE Γ 1 (Γ s) := by simp only [slotV, cont]; cases Γ s <;> rfl
@[simp] theorem slotV1 (Γ : Env) (s : Nat) : slotV Γ 1 s = slotE Γ 0 (Γ s) := by simp only [slotV, cont]; cases Γ s <;> rfl
@[simp] theorem slotV0 (Γ : Env) (s : Nat) : slotV Γ 0 s = pv (cont Γ s) := rfl
@[simp] theorem slotE_p (Γ : Env) (n : Nat) (x) : slotE Γ n (.p x) = pv x := rfl
@[simp] theorem slotE_al (Γ : Env) (n : Nat) (r q) : slotE Γ n (.al r q) = .any := rfl
@[simp] theorem slotE_pa (Γ : Env) (n : Nat) (r q i j) : slotE Γ n (.pa r q i j) = .any := rfl
@[simp] theorem slotE_ag (Γ : Env) (n : Nat) (r q i j m) : slotE Γ n (.ag r q i j m) = .any := rfl
@[simp] theorem slotE_cl (Γ : Env) (n : Nat) (f l) : slotE Γ n (.cl f l) = .any := rfl
@[simp] theorem slotE_dead (Γ : Env) (n : Nat) : slotE Γ n dead = .any := rfl
@[simp] theorem slotE_bx (Γ : Env) (n : Nat) (e) : slotE Γ n (.bx e) = .ip [lookG Γ (slotV Γ n) e] 0 := rfl
@[simp] theorem lookG_pa (Γ : Env) (g) (r q i j) : lookG Γ g (.pa r q i j) = match (at_ Γ r q).row i with | some cs => .ip (pvL cs) j | none => .any := rfl
@[simp] theorem lookG_cl (Γ : Env) (g) (f l) : lookG Γ g (.cl f l) = .clo f (l.map g) := rfl
@[simp] theorem lookG_dead (Γ : Env) (g) : lookG Γ g dead = .any := rfl
@[simp] theorem row_own (l : List V) : (V.own l).row 0 = some l := rfl
@[simp] theorem row_uq (l : List V) (i : Nat) : (V.uq l).row i = (l[i]?).map V.cells := rfl
@[simp] theorem cell_eq (x : V) (i j : Nat) : x.cell i j = (x.row i).bind (·[j]?) := rfl
@[simp] theorem cells_agg (l : List V) : (V.agg l).cells = l := rfl
@[simp] theorem cells_c (v : Value) : (V.c v).cells = [.c v] := rfl
@[simp] theorem cells_sl (l : List V) : (V.sl l).cells = [.sl l] := rfl
@[simp] theorem cells_uq (l : List V) : (V.uq l).cells = [.uq l] := rfl
@[simp] theorem cells_ip (l : List V) (o) : (V.ip l o).cells = [.ip l o] := rfl
@[simp] theorem cells_own (l : List V) : (V.own l).cells = [.own l] := rfl
@[simp] theorem cells_clo (f) (l : List V) : (V.clo f l).cells = [.clo f l] := rfl
@[simp] theorem cells_any : V.any.cells = [.any] := rfl
@[simp] theorem recell_agg (l cs : List V) : (V.agg l).recell cs = .agg cs := rfl
@[simp] theorem setRow_own (l cs : List V) : (V.own l).setRow 0 cs = .own cs := rfl
@[simp] theorem setRow_uq (l cs : List V) (i : Nat) : (V.uq l).setRow i cs = .uq (l.modify i fun y => y.recell cs) := rfl
@[simp] theorem setCell_own (l : List V) (j : Nat) (y : V) : (V.own l).setCell 0 j y = .own (l.set j y) := rfl
@[simp] theorem constV_bool (b : Bool) : constV (.bool b) = .c (.bool b) := rfl
@[simp] theorem constV_int (k n) : constV (.int k n) = .c (.int k n) := rfl
@[simp] theorem constV_string (s) : constV (.string s) = .c (.string s) := rfl
@[simp] theorem constV_nil : constV (.slice none 0 0) = .uq [] := rfl
@[simp] theorem constV_iface : constV .nilIface = .c .nilIface := rfl
@[simp] theorem adr_pa (Γ : Env) (r q i j) : adr Γ (.pa r q i j) = some (r, q, i, j) := rfl
@[simp] theorem leafB_c (v : Value) : leafB (.c v) = v.oneCell' := rfl
@[simp] theorem leafB_sl (l) : leafB (.sl l) = true := rfl
@[simp] theorem leafB_uq (l) : leafB (.uq l) = true := rfl
@[simp] theorem leafB_own (l) : leafB (.own l) = true := rfl
@[simp] theorem leafB_mp (l) : leafB (.mp l) = true := rfl
@[simp] theorem cells_mp (l) : (V.mp l).cells = [.mp l] := rfl
@[simp] theorem cells_ti (l) : (V.ti l).cells = [.ti l] := rfl
@[simp] theorem tiL_ti (l) : tiL (.p (.ti l)) = some l := rfl
@[simp] theorem tiL_uq (l) : tiL (.p (.uq l)) = none := rfl
@[simp] theorem tiL_sl (l) : tiL (.p (.sl l)) = none := rfl
@[simp] theorem tiL_c (v) : tiL (.p (.c v)) = none := rfl
@[simp] theorem tiL_any : tiL (.p .any) = none := rfl
@[simp] theorem tiL_al (r q) : tiL (.al r q) = none := rfl
@[simp] theorem tiL_pa (r q i j) : tiL (.pa r q i j) = none := rfl
@[simp] theorem tiL_ag (r q i j n) : tiL (.ag r q i j n) = none := rfl
@[simp] theorem tiL_cl (f l) : tiL (.cl f l) = none := rfl
@[simp] theorem tiL_bx (e) : tiL (.bx e) = none := rfl
@[simp] theorem leafB_ip (l o) : leafB (.ip l o) = true := rfl
@[simp] theorem leafB_clo (f l) : leafB (.clo f l) = true := rfl
attribute [simp] put_ofA upd_ofA bxU_ofA hid_ofA env0_ofA putX_some putX_none pureB pureL pv pvL V.getP V.setP
end Go.Am
end
section
namespace Go.Am
open Go.RowKit
def flat : SC → SC → SC
  | .skip, k => k
  | .reg l ks, k => .seq (.reg l ks) k
  | .alts ls ks, k => .seq (.alts ls ks) k
  | .seq a b, k => flat a (flat b k)
  | .cond c a b, k => .seq (.cond c (flat a .skip) (flat b .skip)) k
  | .block id c, k => .seq (.block id (flat c .skip)) k
  | .loop c, k => .seq (.loop (flat c .skip)) k
  | .exit id, _ => .exit id
  | .ret, _ => .ret
section
variable {P : Program} {Γ : Env} {Q : X → Env → Prop}
theorem thenX_self (x : X) (Γ : Env) (h : thenX (fun Γ => Q .norm Γ) Q x Γ) : Q x Γ := by cases x <;> exact h
theorem aw_flat : ∀ {c k : SC} {Γ : Env} {Q : X → Env → Prop}, aw P (flat c k) Γ Q → aw P (.seq c k) Γ Q := by
  intro c
  have self : ∀ {c : SC}, (∀ {k : SC} {Γ : Env} {Q : X → Env → Prop}, aw P (flat c k) Γ Q → aw P (.seq c k) Γ Q) → ∀ {Γ : Env} {Q : X → Env → Prop}, aw P (flat c .skip) Γ Q → aw P c Γ Q := by
    intro c ih Γ Q h
    have : aw P (.seq c .skip) Γ Q := ih h
    exact aw_mono thenX_self this
  induction c with
  | skip => intro k Γ Q h; exact h
  | reg l ks => intro k Γ Q h; exact h
  | alts ls ks => intro k Γ Q h; exact h
  | seq a b iha ihb =>
    intro k Γ Q h
    have h1 : aw P (.seq a (flat b k)) Γ Q := iha h
    have h2 : aw P a Γ (thenX (fun Γ' => aw P (flat b k) Γ' Q) Q) := h1
    show aw P a Γ (thenX (fun Γ' => aw P b Γ' (thenX (fun Γ'' => aw P k Γ'' Q) Q)) (thenX (fun Γ'' => aw P k Γ'' Q) Q))
    refine aw_mono ?_ h2
    intro x Γ' hx
    cases x with
    | norm => exact ihb hx
    | exit id => exact hx
    | ret => exact hx
  | cond c a b iha ihb =>
    intro k Γ Q h
    have h : aw P (.cond c (flat a .skip) (flat b .skip)) Γ (thenX (fun Γ' => aw P k Γ' Q) Q) := h
    show aw P (.cond c a b) Γ (thenX (fun Γ' => aw P k Γ' Q) Q)
    simp only [aw] at h ⊢
    split at h
    · exact ⟨fun e => self iha (h.1 e), fun e => self ihb (h.2 e)⟩
    · exact h
  | block id c ih =>
    intro k Γ Q h
    have h : aw P (flat c .skip) Γ (inX id (thenX (fun Γ' => aw P k Γ' Q) Q)) := h
    exact self ih h
  | loop c ih =>
    intro k Γ Q h
    obtain ⟨I, h0, hI⟩ := h
    exact ⟨I, h0, fun k' Γ' hk => self ih (hI k' Γ' hk)⟩
  | exit id => intro k Γ Q h; exact h
  | ret => intro k Γ Q h; exact h
theorem aw_flat' {c : SC} (h : aw P (flat c .skip) Γ Q) : aw P c Γ Q := aw_mono thenX_self (aw_flat h : aw P (.seq c .skip) Γ Q)
def bare : SC → SC
  | .reg l _ => .reg l []
  | .alts ls _ => .alts ls []
  | .seq a b => .seq (bare a) (bare b)
  | .cond c a b => .cond c (bare a) (bare b)
  | .block id c => .block id (bare c)
  | .loop c => .loop (bare c)
  | c => c
theorem aw_bare : ∀ {c : SC} {Γ : Env} {Q : X → Env → Prop}, aw P c Γ Q → aw P (bare c) Γ Q := by
  intro c
  induction c with
  | seq a b iha ihb =>
    intro Γ Q h
    show aw P (bare a) Γ (thenX (fun Γ' => aw P (bare b) Γ' Q) Q)
    refine iha (aw_mono ?_ (show aw P a Γ (thenX (fun Γ' => aw P b Γ' Q) Q) from h))
    intro x Γ' hx
    cases x with
    | norm => exact ihb hx
    | exit id => exact hx
    | ret => exact hx
  | cond c a b iha ihb =>
    intro Γ Q h
    simp only [bare, aw] at h ⊢
    split at h
    · exact ⟨fun e => iha (h.1 e), fun e => ihb (h.2 e)⟩
    · exact h
  | block id c ih => intro Γ Q h; exact ih (show aw P c Γ (inX id Q) from h)
  | loop c ih =>
    intro Γ Q h
    obtain ⟨I, h0, hI⟩ := h
    exact ⟨I, h0, fun k' Γ' hk => ih (hI k' Γ' hk)⟩
  | _ => intro Γ Q h; exact h
theorem awReg {l : List SOp} {ks : List Nat} {k : SC} (h : ∀ K : Env → Prop, (∀ s, okV (cont Γ s)) → (∀ m, keepOk ks m → aw P k (ofA (keepK ks m)) Q → K (ofA m)) → awD P l Γ K) : aw P (.seq (.reg l ks) k) Γ Q := by
  show aw P (.reg l ks) Γ (thenX (fun Γ' => aw P k Γ' Q) Q)
  exact ⟨Γ, Wk.refl Γ, fun hok => h _ hok (fun m hm hk => ⟨_, wkKeep ks m hm, hk⟩)⟩
theorem awAlt {l : List SOp} {ls : List (List SOp)} {ks : List Nat} {k : SC} (h1 : aw P (.seq (.reg l ks) k) Γ Q) (h2 : aw P (.seq (.alts ls ks) k) Γ Q) : aw P (.seq (.alts (l :: ls) ks) k) Γ Q := by
  intro l' hl'
  rcases List.mem_cons.1 hl' with rfl | hl'
  · exact h1
  · exact h2 l' hl'
theorem awAlt1 {l : List SOp} {ks : List Nat} {k : SC} (h1 : aw P (.seq (.reg l ks) k) Γ Q) : aw P (.seq (.alts [l] ks) k) Γ Q := by
  intro l' hl'
  rcases List.mem_cons.1 hl' with rfl | hl'
  · exact h1
  · cases hl'
theorem awWk {l : List SOp} {ks : List Nat} {k : SC} (Γ0 : Env) (hw : Wk Γ Γ0) (h : aw P (.seq (.reg l ks) k) Γ0 Q) : aw P (.seq (.reg l ks) k) Γ Q := by
  obtain ⟨Γ1, hw1, h⟩ := (h : aw P (.reg l ks) Γ0 (thenX (fun Γ' => aw P k Γ' Q) Q))
  exact (⟨Γ1, hw.trans hw1, h⟩ : aw P (.reg l ks) Γ (thenX (fun Γ' => aw P k Γ' Q) Q))
theorem flat_flat (a b k : SC) : flat (flat a b) k = flat a (flat b k) := by
  induction a generalizing b k with
  | skip => rfl
  | reg l ks => rfl
  | alts ls ks => rfl
  | seq x y ihx ihy => simp only [flat]; rw [ihx, ihy]
  | cond c x y ihx ihy => simp only [flat]; rw [ihx, ihy]; rfl
  | block id c ih => simp only [flat]; rw [ih]; rfl
  | loop c ih => simp only [flat]; rw [ih]; rfl
  | exit id => rfl
  | ret => rfl
theorem fF {a b k : SC} (h : aw P (flat a (flat b k)) Γ Q) : aw P (flat (flat a b) k) Γ Q := by rw [flat_flat]; exact h
theorem awCond {c : Operand} {a b k : SC} (h : ∀ A B : Prop, (aw P (flat a k) Γ Q → A) → (aw P (flat b k) Γ Q → B) → condK (look Γ (rd Γ c)) A B) : aw P (.seq (.cond c a b) k) Γ Q := by
  have h' := h _ _ id id
  show aw P (.cond c a b) Γ (thenX (fun Γ' => aw P k Γ' Q) Q)
  simp only [aw]
  unfold condK at h'
  split at h'
  · rename_i t ht; (try simp only [ht])
    exact ⟨fun e => aw_flat (h'.1 e), fun e => aw_flat (h'.2 e)⟩
  · exact h'.elim
theorem awBlock {id : Nat} {c k : SC} (h : aw P c Γ (inX id (thenX (fun Γ' => aw P k Γ' Q) Q))) : aw P (.seq (.block id c) k) Γ Q := h
theorem awLoop {c k : SC} (J : Nat → Env → Prop) (n0 : Nat) (Γ0 : Env) (hw : Wk Γ Γ0) (h0 : J n0 Γ0)
    (h : ∀ (n : Nat) (Γ' : Env), J n Γ' → aw P c Γ' (thenX (fun Γ1 => ∃ m Γ2, m < n ∧ Wk Γ1 Γ2 ∧ J m Γ2) (thenX (fun Γ' => aw P k Γ' Q) Q))) : aw P (.seq (.loop c) k) Γ Q := by
  show aw P (.loop c) Γ (thenX (fun Γ' => aw P k Γ' Q) Q)
  exact ⟨J, ⟨n0, Γ0, hw, h0⟩, h⟩
theorem fS {k : SC} (h : aw P k Γ Q) : aw P (flat .skip k) Γ Q := h
theorem fR {l ks} {k : SC} (h : aw P (.seq (.reg l ks) k) Γ Q) : aw P (flat (.reg l ks) k) Γ Q := h
theorem fA {ls ks} {k : SC} (h : aw P (.seq (.alts ls ks) k) Γ Q) : aw P (flat (.alts ls ks) k) Γ Q := h
theorem fQ {a b k : SC} (h : aw P (flat a (flat b k)) Γ Q) : aw P (flat (.seq a b) k) Γ Q := h
theorem fC {c : Operand} {a b k : SC} (h : aw P (.seq (.cond c (flat a .skip) (flat b .skip)) k) Γ Q) : aw P (flat (.cond c a b) k) Γ Q := h
theorem fB {id : Nat} {c k : SC} (h : aw P (.seq (.block id (flat c .skip)) k) Γ Q) : aw P (flat (.block id c) k) Γ Q := h
theorem fL {c k : SC} (h : aw P (.seq (.loop (flat c .skip)) k) Γ Q) : aw P (flat (.loop c) k) Γ Q := h
theorem fE {id : Nat} {k : SC} (h : aw P (.exit id) Γ Q) : aw P (flat (.exit id) k) Γ Q := h
theorem fT {k : SC} (h : aw P .ret Γ Q) : aw P (flat .ret k) Γ Q := h
theorem thN {K : Env → Prop} (h : K Γ) : thenX K Q .norm Γ := h
theorem thR {K : Env → Prop} (h : Q .ret Γ) : thenX K Q .ret Γ := h
theorem thE {K : Env → Prop} {id : Nat} (h : Q (.exit id) Γ) : thenX K Q (.exit id) Γ := h
theorem inN {id : Nat} (h : Q .norm Γ) : inX id Q .norm Γ := h
theorem inR {id : Nat} (h : Q .ret Γ) : inX id Q .ret Γ := h
theorem inH {id : Nat} (h : Q .norm Γ) : inX id Q (.exit id) Γ := by rw [inX_hit]; exact h
theorem inM {id id' : Nat} (hne : id' ≠ id) (h : Q (.exit id') Γ) : inX id Q (.exit id') Γ := by rw [inX_miss _ _ _ _ hne]; exact h
theorem awExit {id : Nat} (h : Q (.exit id) Γ) : aw P (.exit id) Γ Q := h
theorem awRet (h : Q .ret Γ) : aw P .ret Γ Q := h
theorem awSkip (h : Q .norm Γ) : aw P .skip Γ Q := h
variable {dst : Option Nat} {l : List SOp} {K : Env → Prop}
theorem callF' {fid : FuncId} {args : Array Operand} {tys : Array TypeId} (h : ∀ K2 : Env → List V → Prop, (∀ Γ1 ys r, ACall P fid ys r → (okV r → awD P l (putX Γ1 dst (.p r)) K) → K2 Γ1 ys) → evK (frzA Γ args.toList) K2) :
    awD P (⟨dst, .call { callee := .value (.func fid), args := args, argTypes := tys }, none, []⟩ :: l) Γ K :=
  awL_callF (h _ fun Γ1 ys r hA hk => ⟨r, hA, hk⟩)
def lookL (Γ : Env) : List Operand → List V
  | [] => []
  | x :: l => look Γ (rd Γ x) :: lookL Γ l
theorem lookL_eq (Γ : Env) (l : List Operand) : l.map (fun x => look Γ (rd Γ x)) = lookL Γ l := by
  induction l with
  | nil => rfl
  | cons x l ih => simp only [List.map_cons, lookL, ih]
theorem callS' {fid : FuncId} {args : Array Operand} {tys : Array TypeId} (h : ∀ K2 : List V → Prop, (∀ ys r, ACall P fid ys r → scalB r = true → (okV r → awD P l (putX Γ dst (.p r)) K) → K2 ys) → K2 (lookL Γ args.toList)) :
    awD P (⟨dst, .call { callee := .value (.func fid), args := args, argTypes := tys }, none, []⟩ :: l) Γ K := by
  refine awL_callS ?_
  rw [lookL_eq]
  exact h (fun ys => ∃ r, ACall P fid ys r ∧ scalB r = true ∧ Stop (okV r → awD P l (putX Γ dst (.p r)) K)) (fun ys r hA hs hk => ⟨r, hA, hs, hk⟩)
theorem side' {op : Op} {d : Nat} {u : Nat} {us : List Nat} (hp : loud op = false) (h : ∀ K2 : Env → E → Prop, (∀ Γ1 e, Γ1 = hid (u :: us) Γ → awD P l (put Γ d (kill d (killL (u :: us) e))) K → K2 Γ1 e) → evK (ev P (hid (u :: us) Γ) op) K2) : awD P (⟨some d, op, none, u :: us⟩ :: l) Γ K :=
  awL_side hp (h _ fun Γ1 e he hk => ⟨he, hk⟩)
theorem sideS' {d : Nat} {u : Nat} {us : List Nat} {fid : FuncId} {args : Array Operand} {tys : Array TypeId} (h : ∀ K2 : List V → Prop, (∀ ys r, ACall P fid ys r → scalB r = true → awD P l (put Γ d (.p r)) K → K2 ys) → K2 (lookL (hid (u :: us) Γ) args.toList)) :
    awD P (⟨some d, .call { callee := .value (.func fid), args := args, argTypes := tys }, none, u :: us⟩ :: l) Γ K := by
  refine awL_sideS ?_
  rw [lookL_eq]
  exact h (fun ys => ∃ r, ACall P fid ys r ∧ scalB r = true ∧ Stop (awD P l (put Γ d (.p r)) K)) (fun ys r hA hs hk => ⟨r, hA, hs, hk⟩)
theorem sideF' {d : Nat} {u : Nat} {us : List Nat} {fid : FuncId} {args : Array Operand} {tys : Array TypeId} (h : ∀ K2 : Env → List V → Prop, (∀ Γ1 ys r, ACall P fid ys r → Γ1 = hid (u :: us) Γ → awD P l (put Γ d (.p r)) K → K2 Γ1 ys) → evK (frzA (hid (u :: us) Γ) args.toList) K2) :
    awD P (⟨some d, .call { callee := .value (.func fid), args := args, argTypes := tys }, none, u :: us⟩ :: l) Γ K :=
  awL_sideF (h _ fun Γ1 ys r hA he hk => ⟨he, r, hA, hk⟩)
end
def gdK (x : V) (want : Bool) (A B : Prop) (_ : Tok A := ⟨⟩) (_ : Tok B := ⟨⟩) : Prop := match x with | .c (.bool t) => ((t == want) = true → A) ∧ ((t == want) = false → B) | .c (.tuple ⟨[]⟩) => B | _ => False
@[simp] theorem gdK_skp (w : Bool) (A B : Prop) : gdK (.c (.tuple #[])) w A B = B := rfl
@[simp] theorem gdK_undef (w : Bool) (A B : Prop) : gdK (.c undef) w A B = B := rfl
@[simp] theorem gdK_tt (A B : Prop) : gdK (.c (.bool true)) true A B = A := by simp [gdK]
@[simp] theorem gdK_tf (A B : Prop) : gdK (.c (.bool true)) false A B = B := by simp [gdK]
@[simp] theorem gdK_ft (A B : Prop) : gdK (.c (.bool false)) true A B = B := by simp [gdK]
@[simp] theorem gdK_ff (A B : Prop) : gdK (.c (.bool false)) false A B = A := by simp [gdK]
theorem gdT {t : Bool} {A B : Prop} (h1 : t = true → A) (h2 : t = false → B) : gdK (.c (.bool t)) true A B := by cases t <;> simp [gdK] <;> first | exact h1 rfl | exact h2 rfl
theorem gdF {t : Bool} {A B : Prop} (h1 : t = false → A) (h2 : t = true → B) : gdK (.c (.bool t)) false A B := by cases t <;> simp [gdK] <;> first | exact h1 rfl | exact h2 rfl
@[simp] theorem awL_gd {P : Program} {dst : Option Nat} {op : Op} {d : Nat} {want : Bool} {l : List SOp} {Γ : Env} {K : Env → Prop} : awD P (⟨dst, op, some (d, want), []⟩ :: l) Γ K = gdK (look Γ (rd Γ (.tmp d))) want (awD P (⟨dst, op, none, []⟩ :: l) Γ K) (awD P l (putX Γ dst skp) K) := by
  simp only [awD, awL, awS, gS]
  unfold gdK
  generalize look Γ (rd Γ (.tmp d)) = x
  cases x with
  | c v =>
    cases v with
    | bool t => simp
    | tuple vs =>
      obtain ⟨l⟩ := vs
      cases l with
      | nil => simp
      | cons y ys => rfl
    | _ => rfl
  | _ => rfl
theorem gdU {P : Program} {d gd : Nat} {op : Op} {want : Bool} {u : Nat} {us : List Nat} {l : List SOp} {Γ : Env} {K : Env → Prop}
    (h : gdK (look (hid (u :: us) Γ) (rd (hid (u :: us) Γ) (.tmp gd))) want (awD P (⟨some d, op, none, u :: us⟩ :: l) Γ K) (awD P l (put Γ d skp) K)) : awD P (⟨some d, op, some (gd, want), u :: us⟩ :: l) Γ K := by
  unfold gdK at h
  split at h
  · rename_i t ht
    have hg : gS (hid (u :: us) Γ) (some (gd, want)) = some (t == want) := by simp only [gS, ht]
    cases hb : (t == want) with
    | true =>
      rw [hb] at hg
      obtain ⟨r, hr, hk⟩ : ∃ r, Oc P (hid (u :: us) Γ) ⟨some d, op, none, u :: us⟩ r ∧ awL P l (appU Γ (u :: us) r) K := h.1 hb
      refine (⟨r, ?_, hk⟩ : ∃ r, Oc P (hid (u :: us) Γ) ⟨some d, op, some (gd, want), u :: us⟩ r ∧ awL P l (appU Γ (u :: us) r) K)
      cases hr with
      | off h0 => simp [gS] at h0
      | op d' h0 hd hl he => exact .op d' hg hd hl he
      | store h0 hd => cases hd
      | callS d' h0 hd ho ht hA hs => exact .callS d' hg hd ho ht hA hs
      | callP d' h0 hd ho hf hA => exact .callP d' hg hd ho hf hA
    | false =>
      rw [hb] at hg
      exact (⟨_, .off hg, h.2 hb⟩ : ∃ r, Oc P (hid (u :: us) Γ) ⟨some d, op, some (gd, want), u :: us⟩ r ∧ awL P l (appU Γ (u :: us) r) K)
  · rename_i ht
    have hg : gS (hid (u :: us) Γ) (some (gd, want)) = some false := by simp only [gS, ht]
    exact (⟨_, .off hg, h⟩ : ∃ r, Oc P (hid (u :: us) Γ) ⟨some d, op, some (gd, want), u :: us⟩ r ∧ awL P l (appU Γ (u :: us) r) K)
  · exact h.elim
@[simp] theorem skp_eq : skp = .p (.c undef) := rfl
@[simp] theorem undef_eq : undef = .tuple #[] := rfl
def optK (x : Option Env) (F : Env → Prop) : Prop := match x with | some Γ => F Γ | none => False
@[simp] theorem optK_some (Γ : Env) (F : Env → Prop) : optK (some Γ) F = F Γ := rfl
@[simp] theorem optK_none (F : Env → Prop) : optK none F = False := rfl
def conts (Γ : Env) : Nat → Nat → List V
  | _, 0 => []
  | s, m + 1 => cont Γ s :: conts Γ (s + 1) m
theorem conts_eq (Γ : Env) : ∀ (m s : Nat), conts Γ s m = (List.range m).map fun i => cont Γ (s + i) := by
  intro m
  induction m with
  | zero => intro s; rfl
  | succ m ih =>
    intro s
    rw [List.range_succ_eq_map]
    simp only [conts, ih, List.map_cons, Nat.add_zero, List.map_map, List.cons.injEq, true_and]
    apply List.map_congr_left
    intro i _
    simp only [Function.comp_apply]
    congr 1; omega
@[simp] theorem conts_zero (Γ : Env) (s : Nat) : conts Γ s 0 = [] := rfl
@[simp] theorem conts_succ (Γ : Env) (s m : Nat) : conts Γ s (m + 1) = cont Γ s :: conts Γ (s + 1) m := rfl
theorem aRes {P : Program} {n k : Nat} {rs : List ResultVar} {r : V} {os' : List V} {Γ : Env} (fl : List Bool) (h : ∀ K : Env → Prop, (∀ Γ', mkR (conts Γ' n rs.length) = r → conts Γ' 0 k = os' → K Γ') → optK (resL P Γ rs fl n) K) : ARes P n k rs r os' Γ := by
  have := h (fun Γ' => mkR (conts Γ' n rs.length) = r ∧ conts Γ' 0 k = os') (fun Γ' h1 h2 => ⟨h1, h2⟩)
  unfold optK at this
  split at this
  · rename_i Γ' hG
    refine ⟨fl, Γ', hG, by rw [← conts_eq]; exact this.1, ?_⟩
    have h2 := this.2
    rw [conts_eq] at h2
    simpa using h2
  · exact this.elim
theorem aEnR {P : Program} {n k : Nat} {rs : List ResultVar} {r : V} {os' : List V} {Γ : Env} (h : ARes P n k rs r os' Γ) : AEnd P n k rs r os' .ret Γ := h
@[simp] theorem mkR_one (x : V) : mkR [x] = x := rfl
@[simp] theorem mkR_two (x y : V) (l : List V) : mkR (x :: y :: l) = .tup (x :: y :: l) := rfl
@[simp] theorem mkR_nil : mkR [] = .tup [] := rfl
@[simp] theorem resL_nil (P : Program) (Γ : Env) (fl : List Bool) (s : Nat) : resL P Γ [] fl s = some Γ := rfl
@[simp] theorem int_neg (i : Nat) : ((i : Int) < 0) = False := by simp
end Go.Am
end
section
namespace Go.Am
open Go.RowKit
structure TextK (P : Program) (k : Nat) (f : FuncId) (n : Nat) (rs : List ResultVar) (c : SC) : Prop where
  ex : ∃ fn b, P.funcs[f]? = some fn ∧ fn.body = some b ∧ fn.ntmps = n ∧ fn.results = rs.toArray ∧ entr P f = true ∧ resOk n rs = true ∧ (slim k n b).map (flat · .skip) = some (bare c)
theorem TextK.mk' {P : Program} {k : Nat} {f : FuncId} {n : Nat} {rs : List ResultVar} {c : SC} (fn : Func) (b : Code) (h1 : P.funcs[f]? = some fn) (h2 : fn.body = some b) (h3 : fn.ntmps = n) (h4 : fn.results = rs.toArray) (h5 : entr P f = true) (h6 : resOk n rs = true)
    (h7 : (slim k n b).map (flat · .skip) = some (bare c)) : TextK P k f n rs c := ⟨fn, b, h1, h2, h3, h4, h5, h6, h7⟩
theorem TextK.callM {P : Program} (hm : P.follows .mixedOrders = true) {f : FuncId} {n : Nat} {rs : List ResultVar} {c : SC} {os xs : List V} {r : V} {os' : List V} (t : TextK P os.length f n rs c) (hle : os.length + xs.length ≤ n)
    (h : okL os → okL xs → aw P c (env0 (os ++ xs)) (AEnd P n os.length rs r os')) : ACallM P f os xs r os' := by
  obtain ⟨fn, b, h1, h2, h3, h4, h5, h6, h7⟩ := t.ex
  rw [Option.map_eq_some_iff] at h7
  obtain ⟨sc, hs, hc⟩ := h7
  refine ACallM.intro hm n rs h1 h2 h5 h3 h4 h6 hs hle fun ho hx => ?_
  refine aw_flat' ?_
  rw [hc]
  exact aw_bare (h ho hx)
theorem TextK.call {P : Program} (hm : P.follows .mixedOrders = true) {f : FuncId} {n : Nat} {rs : List ResultVar} {c : SC} {xs : List V} {r : V} (t : TextK P 0 f n rs c) (hle : xs.length ≤ n)
    (h : okL xs → aw P c (env0 xs) (AEnd P n 0 rs r [])) : ACall P f xs r :=
  (TextK.callM (os := []) hm t (by simpa using hle) (fun _ hx => by simpa using h hx)).acall
end Go.Am
end
