/- Part of the proof of a law of the image. -/
import Derived.Test.YtfgfjgbggkdobaaGreatQPF
set_option linter.all false
section
namespace Go.Am
open Go.RowKit
structure Like (ops : Array Oper) (o : Oper) (s : SOp) : Prop where
  dst : o.dst = s.dst
  op : o.op = s.op
  g : (o.guard = none ∧ s.g = none) ∨ ∃ j want d, o.guard = some (j, want) ∧ (ops[j]?).bind (·.dst) = some d ∧ s.g = some (d, want)
theorem Like.gOf {ops : Array Oper} {o : Oper} {s : SOp} (h : Like ops o s) (Γ : Env) : gOf ops Γ o = gS Γ s.g := by
  unfold Am.gOf gS
  rcases h.g with ⟨h1, h2⟩ | ⟨j, want, d, h1, h2, h3⟩
  · rw [h1, h2]
  · simp only [h1, h3, h2] <;> rfl
section
variable {C : Ctx} {S S' : Nat → Nat → Prop} {F : Nat → List Nat} {Γ Γ1 : Env} {a : Act} {w w' : World} {P : Program} {n : Nat}
theorem Oc.sound {Q : Exit → Act → World → Prop} {ops : Array Oper} {i : Nat} {o : Oper} {s : SOp} (ho : ops[i]? = some o) (hL : Like ops o s) (hd : ∀ d, o.dst = some d → C.lo ≤ d ∧ d < n) {r : Option (Nat × E)} {next : Act → World → Prop} (hG : Gd C n Γ a w)
    (h : Oc P (hid s.u Γ) s r) (hK : ∀ a' w', Gd C n (appU Γ s.u r) a' w' → next a' w') : wpOp P ops Q i next a w := by
  obtain ⟨hsz, S, F, hG⟩ := hG
  obtain ⟨C', hH, hClo, hw0, hS0, hfp⟩ : ∃ C', G C' S (fun t => if t ∈ s.u then [] else F t) (hid s.u Γ) a w ∧ C'.lo = C.lo ∧ C'.w0 = w ∧ C'.S0 = S ∧ (∀ b, b ∈ C'.fp0 ↔ ∃ t, t ∉ s.u ∧ b ∈ F t) := hG.hidden s.u
  have hwant : ∀ {g}, gS (hid s.u Γ) s.g = some g → Region.wanted o (yielded ops a.tmps) = g := fun hg => gOf_ok ⟨hsz, _, _, hH⟩ (by rw [hL.gOf]; exact hg)
  have hout : ∀ {e v d w'}, s.dst = some d → Far [] w w' → Out C' (hid s.u Γ) e a w' v → Gd C n (appU Γ s.u (some (d, e))) (a.put (some d) v) w' := by
    intro e v d w' hdst hF hO
    exact (hO.unhide hG hw0 hS0 hfp hF).put hsz (dst := some d) (fun d' hd' => hd d' (by rw [hL.dst, hdst]; exact hd'))
  unfold wpOp
  simp only [ho]
  cases h with
  | off hg =>
    rw [hwant hg, if_neg (by simp)]
    refine hK _ _ ?_
    rw [hL.dst]
    cases hds : s.dst with
    | none => exact ⟨hsz, S, F, hG⟩
    | some d =>
      have := (Out.pure hG (.c .nil) : Out C Γ Am.skp a w undef).put hsz (dst := some d) (fun d' hd' => hd d' (by rw [hL.dst, hds]; exact hd'))
      exact this
  | @op e d hg hds hl he =>
    rw [hwant hg, if_pos rfl]
    refine .inl ?_
    obtain ⟨w', hc, hF⟩ := ev_ok hH (o := o) (by rw [hL.op]; exact he)
    have hF := hF (by rw [hL.op]; exact hl)
    unfold Oper.wp
    rcases hc with ⟨v, hr, hO⟩ | ⟨hr, rfl, S', F', hG2⟩
    · rw [hr, Oper.upon_value, hL.dst, hds]
      exact hK _ _ (hout hds hF hO)
    · rw [hr, Oper.upon_skip, hL.dst, hds]
      exact hK _ _ (hout hds hF (Out.ali hG2 rfl trivial))
  | @store D t sl y hg hds hop he =>
    rw [hwant hg, if_pos rfl]
    refine .inl ?_
    obtain ⟨hst, hsU⟩ := evFresh_store he
    obtain ⟨w', hr, _, S', F', hG2⟩ := evStore_ok hG hst
    unfold Oper.wp
    have hx : (execOp a.eval o).run P w = .ok .skip w' := by simp only [execOp, hL.op, hop, Sem.run_bind, hr, Result.andThen_ok, Sem.run_pure]
    rw [hx, Oper.upon_skip, hL.dst, hds]
    have hsl : sl < a.tmps.size := by
      rcases Nat.lt_or_ge sl a.tmps.size with h' | h'
      · exact h'
      · have h3 := hG.big sl h'
        unfold evFresh at he
        have h4 : hid s.u Γ sl = Am.dead := by
          simp only [hid]
          split
          · rfl
          · rw [h3]; rfl
        rw [h4] at he
        simp only [Am.dead] at he
        split at he <;> cases he
    refine hK _ _ ⟨hsz, S', F', hG2.weak ?_ ?_⟩
    · intro t
      simp only [appU, cont_put, cont_upd, cont_kill, cont_killL]
      split
      · cases hq : cont Γ sl <;> rfl
      · rfl
    · intro t
      simp only [appU, put, upd, killL, kill]
      by_cases ht : t = sl
      · simp only [if_pos ht]; rw [show (E.p ((cont Γ sl).setP [] D)) = .p D from by cases cont Γ sl <;> rfl]; exact .refl _
      · simp only [if_neg ht]; exact Les.kill_blur _ _
  | @callS f args tys fid caps r d hg hds hop ht hA hs =>
    rw [hwant hg, if_pos rfl]
    refine .inl ?_
    obtain ⟨cs, hcs, hRc⟩ := target_ok hH ht
    have hRa : R (T S (fun t => if t ∈ s.u then [] else F t)) w (args.toList.map fun x => look (hid s.u Γ) (rd (hid s.u Γ) x)) (args.toList.map a.eval) [] := by
      generalize args.toList = l
      induction l with
      | nil => exact .nil
      | cons x l ih => exact R.cons (hH.look x) ih
    have hR := R.append hRa hRc
    unfold Oper.wp
    rw [run_call (hL.op.trans hop) hcs hA.1, Oper.upon_enter]
    refine (hA.2 _ w _ hR (T_lt hH) (hH.mem.glo.mono (fun _ _ h => .inl h) (fun _ _ _ => rfl))).mono ?_
    rintro e w' ⟨v, S', fp, rfl, g1, g2, g3, g4, g5, g6, g7, g8⟩
    have hsc : scalL [r] = true := by simp [scalL, hs]
    obtain ⟨_, hR'⟩ := g1.scal (S' := S) (w' := w') hsc
    have hO : Out C' (hid s.u Γ) (.p r) a w' v := hH.called (S1 := S) (fun _ _ h => h) hR' List.nodup_nil (by simp) (by simp) (fun _ _ h => .inl h) (fun b o hb => Nat.lt_of_lt_of_le (hH.mem.lt b o hb) g8.size) g8
    have := hK _ _ (hout hds g8 hO)
    rw [← hds, ← hL.dst] at this
    exact this
  | @callP fid args tys ys r d hg hds hop hf hA =>
    rw [hwant hg, if_pos rfl]
    refine .inl ?_
    obtain ⟨S1, F1, k1, k2, k3⟩ := frzA_ok hH hf
    unfold Oper.wp
    rw [run_call (cs := []) (hL.op.trans hop) rfl hA.1, Oper.upon_enter]
    simp only [List.append_nil]
    refine (hA.2 S1 w _ k3 k1.mem.lt k1.mem.glo).mono ?_
    rintro e w' ⟨v, S', fp, rfl, g1, g2, g3, g4, g5, g6, g7, g8⟩
    have hO : Out C' (hid s.u Γ) (.p r) a w' v := k1.called (S1 := S1) g5 g1 g2 g3 g4 g6 g7 g8
    have := hK _ _ (hout hds g8 hO)
    rw [← hds, ← hL.dst] at this
    exact this
theorem awS_sound {Q : Exit → Act → World → Prop} {ops : Array Oper} {i : Nat} {o : Oper} {s : SOp} (ho : ops[i]? = some o) (hL : Like ops o s) (hd : ∀ d, o.dst = some d → C.lo ≤ d ∧ d < n) {K : Env → Prop} {next : Act → World → Prop} (hG : Gd C n Γ a w)
    (h : awS P s Γ K) (hK : ∀ Γ' a' w', K Γ' → Gd C n Γ' a' w' → next a' w') : wpOp P ops Q i next a w := by
  unfold awS at h
  split at h
  · split at h
    · rename_i g hg
      have hw := gOf_ok (ops := ops) (o := o) hG (by rw [hL.gOf]; exact hg)
      unfold wpOp
      simp only [ho, hw]
      cases g with
      | true =>
        rw [if_pos rfl]
        have h1 : awOp P Γ o K := by
          have := h.1 rfl
          rw [← hL.dst, ← hL.op] at this
          exact this
        exact .inl (awOp_sound hd hG h1 hK)
      | false =>
        rw [if_neg (by simp)]
        have := h.2 rfl
        rw [← hL.dst] at this
        exact hK _ _ _ this (hG.skp hd)
    · exact h.elim
  · obtain ⟨r, hr, hk⟩ := h
    exact Oc.sound ho hL hd hG hr (fun a' w' => hK _ a' w' hk)
end
def direct (o : Oper) : List Nat := (o.after.toList.filter fun e => Region.binds .any e).map (·.on)
def freeB (x y : SOp) : Bool :=
  match wr x.dst x.op, wr y.dst y.op with
  | some d, some d' => y.u.contains d && x.u.contains d' && d != d'
  | _, _ => false
def okR (ops : List Oper) (sops : List SOp) (m : List Nat) (H : List Nat) : Bool :=
  (ops.zipIdx.all fun (o, i) => (direct o).all (· < i) &&
    (List.range i).all fun x =>
      (if (m.getD i 0).testBit x then (direct o).any (fun d => d == x || (decide (x < d) && (m.getD d 0).testBit x))
       else (H.contains x || H.contains i) || match sops[x]?, sops[i]? with
        | some sx, some si => freeB sx si
        | _, _ => false))
section
variable {ops : Array Oper} {sops : List SOp} {m H : List Nat}
theorem okR_at (h : okR ops.toList sops m H = true) {i : Nat} {o : Oper} (ho : ops[i]? = some o) : (∀ d ∈ direct o, d < i) ∧
    ∀ x, x < i → ((m.getD i 0).testBit x = true ∧ ∃ d ∈ direct o, d = x ∨ x < d ∧ (m.getD d 0).testBit x = true) ∨ ((m.getD i 0).testBit x = false ∧ ((x ∈ H ∨ i ∈ H) ∨ ∃ sx si, sops[x]? = some sx ∧ sops[i]? = some si ∧ freeB sx si = true)) := by
  unfold okR at h
  rw [List.all_eq_true] at h
  have h1 := h (o, i) (by rw [List.mem_zipIdx_iff_getElem?]; simpa using ho)
  simp only [Bool.and_eq_true, List.all_eq_true, decide_eq_true_eq, List.mem_range] at h1
  refine ⟨h1.1, fun x hx => ?_⟩
  have h2 := h1.2 x hx
  split at h2
  · rename_i hb
    refine .inl ⟨hb, ?_⟩
    rw [List.any_eq_true] at h2
    obtain ⟨d, hd, h3⟩ := h2
    exact ⟨d, hd, by simpa using h3⟩
  · rename_i hb
    refine .inr ⟨by simpa using hb, ?_⟩
    rw [Bool.or_eq_true] at h2
    rcases h2 with h2 | h2
    · exact .inl (by simpa using h2)
    · refine .inr ?_
      split at h2
      · exact ⟨_, _, by assumption, by assumption, h2⟩
      · cases h2
def rem (ops : Array Oper) (listed : Array Bool) : List Nat := (List.range ops.size).filter fun i => !listed.getD i true
theorem mem_rem {listed : Array Bool} {i : Nat} : i ∈ rem ops listed ↔ i < ops.size ∧ listed.getD i true = false := by
  simp [rem]
def Shut (ops : Array Oper) (listed : Array Bool) : Prop :=
  ∀ i o, ops[i]? = some o → listed.getD i true = true → ∀ d ∈ direct o, listed.getD d true = true
theorem Shut.anc (hok : okR ops.toList sops m H = true) {listed : Array Bool} (hs : Shut ops listed) : ∀ (i x : Nat) (o : Oper), ops[i]? = some o → (∀ d ∈ direct o, listed.getD d true = true) → x < i → (m.getD i 0).testBit x = true → listed.getD x true = true := by
  intro i
  induction i using Nat.strongRecOn with
  | _ i ih =>
    intro x o ho hdir hx hb
    obtain ⟨h1, h2⟩ := okR_at hok ho
    rcases h2 x hx with ⟨_, d, hd, rfl | hd2⟩ | ⟨hb', _⟩
    · exact hdir _ hd
    · have hdi := h1 d hd
      obtain ⟨od, hod⟩ : ∃ od, ops[d]? = some od := by
        have : i < ops.size := by
          rcases Nat.lt_or_ge i ops.size with h' | h'
          · exact h'
          · rw [Array.getElem?_eq_none h'] at ho; cases ho
        exact ⟨_, Array.getElem?_eq_getElem (by omega)⟩
      exact ih d hdi x od hod (hs d od hod (hdir d hd)) hd2.1 hd2.2
    · rw [hb] at hb'; cases hb'
theorem getD_set {l : Array Bool} {i j : Nat} (hi : i < l.size) : (l.setIfInBounds i true).getD j true = if j = i then true else l.getD j true := by
  simp only [Array.getD_eq_getD_getElem?, Array.getElem?_setIfInBounds]
  by_cases h : i = j
  · subst h; simp [hi]
  · rw [if_neg h, if_neg (fun e => h e.symm)]
theorem rem_set {listed : Array Bool} (hsz : listed.size = ops.size) {i : Nat} {pre post : List Nat} (h : rem ops listed = pre ++ i :: post) : rem ops (listed.setIfInBounds i true) = pre ++ post ∧ ∀ x ∈ pre, x < i := by
  have hi : i < ops.size := (mem_rem.1 (h ▸ (by simp : i ∈ pre ++ i :: post))).1
  have hp : (rem ops listed).Pairwise (· < ·) := List.Pairwise.filter _ List.pairwise_lt_range
  rw [h, List.pairwise_append] at hp
  have h1 : ∀ x ∈ pre, x < i := fun x hx => hp.2.2 x hx i (by simp)
  have h2 : ∀ x ∈ post, i < x := fun x hx => (List.pairwise_cons.1 hp.2.1).1 x hx
  refine ⟨?_, h1⟩
  have e : rem ops (listed.setIfInBounds i true) = (rem ops listed).filter (· != i) := by
    simp only [rem, List.filter_filter]
    refine List.filter_congr fun x hx => ?_
    rw [getD_set (by omega)]
    by_cases hxi : x = i
    · simp [hxi]
    · simp [hxi]
  rw [e, h, List.filter_append, List.filter_cons]
  simp only [bne_self_eq_false, Bool.false_eq_true, if_false]
  rw [List.filter_eq_self.2, List.filter_eq_self.2]
  · intro x hx; have := h2 x hx; simp; omega
  · intro x hx; have := h1 x hx; simp; omega
theorem mem_ready' {listed : Array Bool} {i : Nat} : i ∈ Region.ready .any ops listed ↔ i < ops.size ∧ listed.getD i true = false ∧ ∃ o, ops[i]? = some o ∧ ∀ d ∈ direct o, listed.getD d false = true := by
  simp only [Region.ready, List.mem_filter, List.mem_range, Bool.and_eq_true, Bool.not_eq_true', direct]
  constructor
  · rintro ⟨h1, h2, h3⟩
    refine ⟨h1, h2, ops[i], Array.getElem?_eq_getElem h1, ?_⟩
    rw [Array.getElem?_eq_getElem h1] at h3
    simp only [Option.map_some, Option.getD_some, Array.all_eq_true, Bool.or_eq_true, Bool.not_eq_true'] at h3
    intro d hd
    obtain ⟨e, he, rfl⟩ := List.mem_map.1 hd
    simp only [List.mem_filter, Array.mem_toList_iff] at he
    obtain ⟨k, hk, rfl⟩ := Array.mem_iff_getElem.1 he.1
    rcases h3 k hk with h | h
    · rw [he.2] at h; cases h
    · exact h
  · rintro ⟨h1, h2, o, ho, h3⟩
    refine ⟨h1, h2, ?_⟩
    rw [ho]
    simp only [Option.map_some, Option.getD_some, Array.all_eq_true, Bool.or_eq_true, Bool.not_eq_true']
    intro k hk
    cases hb : Region.binds .any o.after[k] with
    | false => exact .inl rfl
    | true => exact .inr (h3 _ (List.mem_map.2 ⟨o.after[k], by simp [hb], rfl⟩))
end
section
variable {C : Ctx} {Γ : Env} {a : Act} {w : World} {P : Program} {n : Nat} {ops : Array Oper} {sops : List SOp} {m H : List Nat}
theorem any_sound {Q : Exit → Act → World → Prop} (hok : okR ops.toList sops m H = true) (hlen : sops.length = ops.size) (hL : ∀ (i : Nat) (o : Oper) (s : SOp), ops[i]? = some o → sops[i]? = some s → Like ops o s)
    (hd : ∀ (i : Nat) (o : Oper) (d : Nat), ops[i]? = some o → o.dst = some d → C.lo ≤ d ∧ d < n) {K : Env → Prop} (hK : ∀ Γ' a' w', K Γ' → Gd C n Γ' a' w' → Q .normal a' w') :
    ∀ (fuel : Nat) (listed : Array Bool) (Γ : Env) (a : Act) (w : World), listed.size = ops.size → (∀ x ∈ H, listed.getD x true = true) → Shut ops listed → (rem ops listed).length = fuel → Gd C n Γ a w →
      awL P ((rem ops listed).map fun i => sops[i]?.getD default) Γ K → wpAny P .any ops Q fuel listed a w := by
  intro fuel
  induction fuel with
  | zero =>
    intro listed Γ a w hsz hH hs hf hG h
    have hr : rem ops listed = [] := List.eq_nil_of_length_eq_zero hf
    rw [hr] at h
    refine ⟨List.eq_nil_iff_forall_not_mem.2 fun i hi => ?_, hK _ _ _ h hG⟩
    obtain ⟨h1, h2, _⟩ := mem_ready'.1 hi
    have : i ∈ rem ops listed := mem_rem.2 ⟨h1, h2⟩
    rw [hr] at this; simp at this
  | succ fuel ih =>
    intro listed Γ a w hsz hH hs hf hG h
    have hdf : ∀ d, d < ops.size → listed.getD d false = listed.getD d true := fun d hd => by
      simp [Array.getD_eq_getD_getElem?, Array.getElem?_eq_getElem (show d < listed.size by omega)]
    constructor
    · intro hnil
      exfalso
      cases hr : rem ops listed with
      | nil => rw [hr] at hf; simp at hf
      | cons i post =>
        have hi := mem_rem.1 (hr ▸ (by simp : i ∈ i :: post))
        have hmin : ∀ x, x < i → listed.getD x true = true := by
          intro x hx
          rcases hb : listed.getD x true with _ | _
          · exfalso
            have hxm : x ∈ rem ops listed := mem_rem.2 ⟨by omega, hb⟩
            have hp : (rem ops listed).Pairwise (· < ·) := List.Pairwise.filter _ List.pairwise_lt_range
            rw [hr] at hxm hp
            rcases List.mem_cons.1 hxm with rfl | hxm
            · omega
            · have := (List.pairwise_cons.1 hp).1 x hxm; omega
          · rfl
        have ho := Array.getElem?_eq_getElem hi.1
        have : i ∈ Region.ready .any ops listed := mem_ready'.2 ⟨hi.1, hi.2, _, ho, fun d hd => by
          have := (okR_at hok ho).1 d hd
          rw [hdf d (by omega)]; exact hmin d this⟩
        rw [hnil] at this; simp at this
    · intro i hi
      obtain ⟨h1, h2, o, ho, h3⟩ := mem_ready'.1 hi
      have hdlt := (okR_at hok ho).1
      have hdir : ∀ d ∈ direct o, listed.getD d true = true := fun d hd => by rw [← hdf d (by have := hdlt d hd; omega)]; exact h3 d hd
      have him : i ∈ rem ops listed := mem_rem.2 ⟨h1, h2⟩
      obtain ⟨pre, post, hpp⟩ := List.append_of_mem him
      obtain ⟨e1, e2⟩ := rem_set hsz hpp
      obtain ⟨s, hsi⟩ : ∃ s, sops[i]? = some s := ⟨_, List.getElem?_eq_getElem (by omega)⟩
      have hfirst : awL P (s :: ((pre ++ post).map fun i => sops[i]?.getD default)) Γ K := by
        rw [hpp] at h
        simp only [List.map_append, List.map_cons, hsi, Option.getD_some] at h ⊢
        refine awL_first ?_ h
        intro sx hsx
        obtain ⟨x, hx, rfl⟩ := List.mem_map.1 hsx
        have hxr : x ∈ rem ops listed := hpp ▸ (by simp [hx])
        have hxm := mem_rem.1 hxr
        rcases (okR_at hok ho).2 x (e2 x hx) with ⟨hb, _⟩ | ⟨_, (hxH | hiH) | ⟨sx, si, hsx, hsi', hfree⟩⟩
        · have := hs.anc hok i x o ho hdir (e2 x hx) hb
          rw [hxm.2] at this; cases this
        · have := hH x hxH
          rw [hxm.2] at this; cases this
        · have := hH i hiH
          rw [h2] at this; cases this
        · rw [hsi] at hsi'; cases hsi'
          simp only [hsx, Option.getD_some]
          unfold freeB at hfree
          split at hfree
          · rename_i d d' hw hw'
            simp only [Bool.and_eq_true, List.contains_eq_mem, decide_eq_true_eq, bne_iff_ne, ne_eq] at hfree
            exact ⟨d, d', hw, hw', hfree.1.1, hfree.1.2, hfree.2⟩
          · cases hfree
      refine awS_sound ho (hL i o s ho hsi) (fun d => hd i o d ho) hG hfirst ?_
      intro Γ' a' w' hk hG'
      refine ih _ Γ' a' w' (by simpa using hsz) ?_ ?_ ?_ hG' (by rw [e1]; exact hk)
      · intro x hx
        rw [getD_set (by omega)]
        split
        · rfl
        · exact hH x hx
      · intro j oj hj hl d hdj
        rw [getD_set (by omega)] at hl ⊢
        split
        · rfl
        · split at hl
          · rename_i hji; subst hji
            rw [ho] at hj; cases hj; exact hdir d hdj
          · exact hs j oj hj hl d hdj
      · rw [e1]
        have := congrArg List.length hpp
        simp only [List.length_append, List.length_cons] at this ⊢
        omega
theorem awL_sound {Q : Exit → Act → World → Prop} (hlen : sops.length = ops.size) (hL : ∀ (i : Nat) (o : Oper) (s : SOp), ops[i]? = some o → sops[i]? = some s → Like ops o s)
    (hd : ∀ (i : Nat) (o : Oper) (d : Nat), ops[i]? = some o → o.dst = some d → C.lo ≤ d ∧ d < n) {K : Env → Prop} (hK : ∀ Γ' a' w', K Γ' → Gd C n Γ' a' w' → Q .normal a' w') :
    ∀ (is : List Nat) (Γ : Env) (a : Act) (w : World), (∀ i ∈ is, i < ops.size) → Gd C n Γ a w → awL P (is.map fun i => sops[i]?.getD default) Γ K → wpOps P ops Q is a w := by
  intro is
  induction is with
  | nil => intro Γ a w _ hG h; exact hK _ _ _ h hG
  | cons i is ih =>
    intro Γ a w hlt hG h
    rw [wpOps_cons]
    have hi := hlt i (by simp)
    have ho := Array.getElem?_eq_getElem hi
    have hsi : sops[i]? = some (sops[i]'(by omega)) := List.getElem?_eq_getElem (by omega)
    simp only [List.map_cons, hsi, Option.getD_some] at h
    exact awS_sound ho (hL i _ _ ho hsi) (fun d => hd i _ d ho) hG h fun Γ' a' w' hk hG' => ih Γ' a' w' (fun j hj => hlt j (by simp [hj])) hG' hk
end
end Go.Am
end
section
namespace Go.Am
open Go.RowKit
inductive SC where
  | skip
  | reg (l : List SOp) (ks : List Nat)
  | alts (ls : List (List SOp)) (ks : List Nat)
  | seq (a b : SC)
  | cond (c : Operand) (a b : SC)
  | block (id : Nat) (c : SC)
  | loop (c : SC)
  | exit (id : Nat)
  | ret
def slimG (ops : Array Oper) (o : Oper) : Option (Option (Nat × Bool)) :=
  match o.guard with
  | none => some none
  | some (j, want) => match (ops[j]?).bind (·.dst) with
    | some d => some (some (d, want))
    | none => none
def slimL (ops : Array Oper) (U : Nat → List Nat) : Nat → List Oper → Option (List SOp)
  | _, [] => some []
  | i, o :: l => match slimG ops o, slimL ops U (i + 1) l with
    | some g, some r => some (⟨o.dst, o.op, g, U i⟩ :: r)
    | _, _ => none
def maskOf : List Oper → List Nat → List Nat
  | [], acc => acc
  | o :: l, acc => maskOf l (acc ++ [(direct o).foldl (fun m d => m ||| (1 <<< d) ||| acc.getD d 0) 0])
def sideOf (l : List Oper) (m : List Nat) (i : Nat) : List Nat :=
  (l.zipIdx).filterMap fun (x, j) => if j != i && !(m.getD i 0).testBit j && !(m.getD j 0).testBit i then wr x.dst x.op else none
def dstOk (k n : Nat) (l : List Oper) : Bool := l.all fun o => match o.dst with | some d => decide (k ≤ d) && decide (d < n) | none => true
def loudApp : Op → Bool
  | .call { callee := .builtin .append, .. } => true
  | .call { callee := .value (.func _), args := ⟨[_, _, _]⟩, argTypes := ⟨[a, _, c]⟩ } => a == c
  | _ => false
def hoistB (ops : Array Oper) (i : Nat) : Bool :=
  match ops[i]? with
  | some o => o.guard.isNone && (match o.op with | .move _ => true | _ => false) && (direct o).isEmpty && o.dst.isSome && Region.free .any ops (Array.replicate ops.size false) i
  | none => false
def needsH (ops : Array Oper) (m : List Nat) : Bool := ops.toList.zipIdx.any fun (o, i) => loudApp o.op && !(sideOf ops.toList m i).isEmpty
def hoistP (ops : Array Oper) (m : List Nat) (i : Nat) : Bool := needsH ops m && Region.noSelect ops && hoistB ops i
def hoists (ops : Array Oper) (m : List Nat) : List Nat := if needsH ops m then if Region.noSelect ops then (List.range ops.size).filter (hoistB ops) else [] else []
theorem hoists_eq (ops : Array Oper) (m : List Nat) : hoists ops m = (List.range ops.size).filter (hoistP ops m) := by
  unfold hoists hoistP
  split
  · rename_i h1
    split
    · rename_i h2; simp only [h1, h2, Bool.true_and]
    · rename_i h2; simp only [h2, Bool.and_false, Bool.false_and]; simp
  · rename_i h1; simp only [h1, Bool.false_and]; simp
def sideH (ops : Array Oper) (m H : List Nat) (i : Nat) : List Nat :=
  if H.contains i then [] else
    let hd := H.filterMap fun j => (ops[j]?).bind (·.dst)
    (sideOf ops.toList m i).filter fun d => !hd.contains d
def slimOps (k n : Nat) (ops : Array Oper) (drawn : Bool) : Option (List SOp) :=
  if dstOk k n ops.toList then
    if drawn then
      let m := maskOf ops.toList []
      let H := hoists ops m
      match slimL ops (sideH ops m H) 0 ops.toList with
      | some s => if okR ops.toList s m H then some (H.map (fun i => s[i]?.getD default) ++ ((List.range ops.size).filter fun i => !H.contains i).map fun i => s[i]?.getD default) else none
      | none => none
    else slimL ops (fun _ => []) 0 ops.toList
  else none
def addrB (ops : Array Oper) (s : Nat) : Bool := ops.toList.any fun o => o.dst == some s && (match o.op with | .fieldAddr .. | .indexAddr .. => true | _ => false)
def altB (ops : Array Oper) (d : Bool) : Bool :=
  d && (let m := maskOf ops.toList []
    let H := hoists ops m
    ops.toList.zipIdx.any fun (o, i) => match o.op with
      | .store _ (.tmp s) _ => addrB ops s && !(sideH ops m H i).isEmpty
      | _ => false)
def ordersOf (ops : Array Oper) : Nat → Array Bool → List (List Nat)
  | 0, _ => [[]]
  | f + 1, listed => match Region.ready .any ops listed with
    | [] => [[]]
    | i :: is => (i :: is).flatMap fun i => (ordersOf ops f (listed.setIfInBounds i true)).map (i :: ·)
def slimA (k n : Nat) (ops : Array Oper) : Option (List (List SOp)) :=
  if dstOk k n ops.toList then
    match slimL ops (fun _ => []) 0 ops.toList with
    | some s => some ((ordersOf ops ops.size (Array.replicate ops.size false)).map fun l => l.map fun i => s[i]?.getD default)
    | none => none
  else none
def slim (k n : Nat) : Code → Option SC
  | .skip => some .skip
  | .region _ ops d => if altB ops d then (match slimA k n ops with | some ls => some (.alts ls []) | none => none) else match slimOps k n ops d with | some l => some (.reg l []) | none => none
  | .seq a b => match slim k n a, slim k n b with | some x, some y => some (.seq x y) | _, _ => none
  | .cond c a b => match slim k n a, slim k n b with | some x, some y => some (.cond c x y) | _, _ => none
  | .block id c => match slim k n c with | some x => some (.block id x) | none => none
  | .loop c => match slim k n c with | some x => some (.loop x) | none => none
  | .exit id => some (.exit id)
  | .ret => some .ret
  | _ => none
inductive X where
  | norm
  | exit (id : Nat)
  | ret
def X.out : X → Exit
  | .norm => .normal
  | .exit id => .exit id
  | .ret => .ret
def thenX (K : Env → Prop) (Q : X → Env → Prop) : X → Env → Prop
  | .norm, Γ => K Γ
  | x, Γ => Q x Γ
def inX (id : Nat) (Q : X → Env → Prop) : X → Env → Prop
  | .exit id', Γ => if id' = id then Q .norm Γ else Q (.exit id') Γ
  | x, Γ => Q x Γ
def Wk (Γ Γ' : Env) : Prop := ∀ (C : Ctx) (n : Nat) (a : Act) (w : World), Gd C n Γ a w → Gd C n Γ' a w
theorem Wk.refl (Γ : Env) : Wk Γ Γ := fun _ _ _ _ h => h
theorem Wk.trans {Γ Γ1 Γ2 : Env} (h : Wk Γ Γ1) (k : Wk Γ1 Γ2) : Wk Γ Γ2 := fun C n a w hh => k C n a w (h C n a w hh)
def aw (P : Program) : SC → Env → (X → Env → Prop) → Prop
  | .skip, Γ, Q => Q .norm Γ
  | .reg l _, Γ, Q => ∃ Γ0, Wk Γ Γ0 ∧ ((∀ s, okV (cont Γ0 s)) → awL P l Γ0 (fun Γ' => ∃ Γ'', Wk Γ' Γ'' ∧ Q .norm Γ''))
  | .alts ls _, Γ, Q => ∀ l ∈ ls, ∃ Γ0, Wk Γ Γ0 ∧ ((∀ s, okV (cont Γ0 s)) → awL P l Γ0 (fun Γ' => ∃ Γ'', Wk Γ' Γ'' ∧ Q .norm Γ''))
  | .seq a b, Γ, Q => aw P a Γ (thenX (fun Γ' => aw P b Γ' Q) Q)
  | .cond c a b, Γ, Q => match look Γ (rd Γ c) with
    | .c (.bool t) => (t = true → aw P a Γ Q) ∧ (t = false → aw P b Γ Q)
    | _ => False
  | .block id c, Γ, Q => aw P c Γ (inX id Q)
  | .loop c, Γ, Q => ∃ I : Nat → Env → Prop, (∃ k Γ0, Wk Γ Γ0 ∧ I k Γ0) ∧ ∀ k Γ', I k Γ' → aw P c Γ' (thenX (fun Γ'' => ∃ k' Γ3, k' < k ∧ Wk Γ'' Γ3 ∧ I k' Γ3) Q)
  | .exit id, Γ, Q => Q (.exit id) Γ
  | .ret, Γ, Q => Q .ret Γ
theorem slimG_like {ops : Array Oper} {o : Oper} {g : Option (Nat × Bool)} {u : List Nat} (h : slimG ops o = some g) : Like ops o ⟨o.dst, o.op, g, u⟩ := by
  refine ⟨rfl, rfl, ?_⟩
  unfold slimG at h
  split at h
  · rename_i hg; cases h; exact .inl ⟨hg, rfl⟩
  · rename_i j want hg
    split at h
    · rename_i d hd; cases h; exact .inr ⟨j, want, d, hg, hd, rfl⟩
    · cases h
theorem slimL_like {ops : Array Oper} {U : Nat → List Nat} : ∀ {l : List Oper} {i : Nat} {s : List SOp}, slimL ops U i l = some s → s.length = l.length ∧ ∀ (j : Nat) (o : Oper) (x : SOp), l[j]? = some o → s[j]? = some x → Like ops o x := by
  intro l
  induction l with
  | nil => intro i s h; simp only [slimL] at h; cases h; simp
  | cons o l ih =>
    intro i s h
    simp only [slimL] at h
    split at h
    · rename_i g r hg hr
      cases h
      obtain ⟨h1, h2⟩ := ih hr
      refine ⟨by simp [h1], fun j o' x hj hx => ?_⟩
      cases j with
      | zero => simp at hj hx; subst hj hx; exact slimG_like hg
      | succ j => simp at hj hx; exact h2 j o' x hj hx
    · cases h
theorem dstOk_at {k n : Nat} {ops : Array Oper} (h : dstOk k n ops.toList = true) {i : Nat} {o : Oper} {d : Nat} (ho : ops[i]? = some o) (hd : o.dst = some d) : k ≤ d ∧ d < n := by
  unfold dstOk at h
  rw [List.all_eq_true] at h
  have := h o (by rw [Array.mem_toList_iff]; exact Array.mem_of_getElem? ho)
  rw [hd] at this
  simpa using this
section
variable {C : Ctx} {Γ : Env} {a : Act} {w : World} {P : Program} {n : Nat}
theorem Gd.okV (h : Gd C n Γ a w) (s : Nat) : Am.okV (cont Γ s) := by
  obtain ⟨_, S, F, hG⟩ := h
  exact (hG.slots s).ok.1
theorem getD_self {sops : List SOp} (m : Nat) (h : sops.length = m) : ((List.range m).map fun i => sops[i]?.getD default) = sops := by
  subst h
  apply List.ext_getElem
  · simp
  · intro i h1 h2
    simp at h1
    simp [h1]
theorem free_mono {ops : Array Oper} {i : Nat} {listed : Array Bool} (h : Region.free .any ops (Array.replicate ops.size false) i = true) : Region.free .any ops listed i = true := by
  unfold Region.free at *
  split at h
  · cases h
  · rename_i oi hoi
    simp only [List.all_eq_true, List.mem_range, Bool.or_eq_true] at *
    intro j hj
    rcases h j hj with (h1 | h1) | h1
    · exact .inl (.inl h1)
    · simp [Array.getD_eq_getD_getElem?, hj] at h1
    · exact .inr h1
theorem foldl_setD : ∀ (Hs : List Nat) (l : Array Bool) (j : Nat), (∀ i ∈ Hs, i < l.size) → (Hs.foldl (fun l i => l.setIfInBounds i true) l).size = l.size ∧ (Hs.foldl (fun l i => l.setIfInBounds i true) l).getD j true = (Hs.contains j || l.getD j true) := by
  intro Hs
  induction Hs with
  | nil => intro l j _; simp
  | cons i Hs ih =>
    intro l j h
    obtain ⟨h1, h2⟩ := ih (l.setIfInBounds i true) j (fun k hk => by simpa using h k (by simp [hk]))
    refine ⟨by simpa using h1, ?_⟩
    simp only [List.foldl_cons, h2]
    rw [getD_set (h i (by simp))]
    by_cases hji : j = i
    · subst hji; simp
    · simp [hji]
theorem hoist_sound {Q : Exit → Act → World → Prop} (hQ : ∀ c a a' w, Q (.panic c) a w → Q (.panic c) a' w) {ops : Array Oper} {sops : List SOp} {Hs0 : List Nat} (hlen : sops.length = ops.size)
    (hL : ∀ (i : Nat) (o : Oper) (s : SOp), ops[i]? = some o → sops[i]? = some s → Like ops o s) (hd : ∀ (i : Nat) (o : Oper) (d : Nat), ops[i]? = some o → o.dst = some d → C.lo ≤ d ∧ d < n) {K : Env → Prop} {fuel : Nat} {R : List SOp}
    (hu : ∀ i ∈ Hs0, ∀ s, sops[i]? = some s → s.u = []) :
    ∀ (Hs : List Nat) (listed : Array Bool) (Γ : Env) (a : Act) (w : World), (∀ i ∈ Hs, i ∈ Hs0) → (Hs ≠ [] → Region.noSelect ops = true) → listed.size = ops.size → (∀ i ∈ Hs, hoistB ops i = true ∧ listed.getD i true = false) → Hs.Nodup → Gd C n Γ a w →
      awL P (Hs.map (fun i => sops[i]?.getD default) ++ R) Γ K →
      (∀ Γ' a', Gd C n Γ' a' w → awL P R Γ' K → wpAny P .any ops Q fuel (Hs.foldl (fun l i => l.setIfInBounds i true) listed) a' w) →
      wpAny P .any ops Q (Hs.length + fuel) listed a w := by
  intro Hs
  induction Hs with
  | nil => intro listed Γ a w _ _ _ _ _ hG h hk; simpa using hk Γ a hG h
  | cons i Hs ih =>
    intro listed Γ a w hsub hns hsz hh hnd hG h hk
    obtain ⟨hb, hli⟩ := hh i (by simp)
    unfold hoistB at hb
    split at hb
    rotate_left
    · cases hb
    rename_i o ho
    simp only [Bool.and_eq_true] at hb
    obtain ⟨⟨⟨⟨hg, hm⟩, hdr⟩, hds⟩, hfr⟩ := hb
    split at hm
    rotate_left
    · cases hm
    rename_i x hop
    have hg : o.guard = none := by simpa using hg
    have hdr : direct o = [] := by simpa using hdr
    have hi : i < ops.size := (Array.getElem?_eq_some_iff.1 ho).1
    obtain ⟨s, hs⟩ : ∃ s, sops[i]? = some s := ⟨_, List.getElem?_eq_getElem (by omega)⟩
    have hlk := hL i o s ho hs
    have hsu := hu i (hsub i (by simp)) s hs
    have hsg : s.g = none := by
      rcases hlk.g with ⟨_, h2⟩ | ⟨j, want, d, h1, _⟩
      · exact h2
      · rw [hg] at h1; cases h1
    have hse : s = ⟨o.dst, .move x, none, []⟩ := by
      obtain ⟨sd, so, sg, su⟩ := s
      have h1 := hlk.dst; have h2 := hlk.op
      simp only at h1 h2 hsg hsu
      rw [h1, ← h2, hop, hsg, hsu]
    simp only [List.map_cons, hs, Option.getD_some, hse, List.cons_append] at h
    have hk2 : awL P (Hs.map (fun i => sops[i]?.getD default) ++ R) (putX Γ o.dst (rd Γ x)) K := by
      have h' := h
      simp only [awL, awS, gS] at h'
      have h3 := h'.1 trivial
      unfold awOp at h3
      simp only [ev] at h3
      exact h3
    have hG2 : Gd C n (putX Γ o.dst (rd Γ x)) (a.put o.dst (a.eval x)) w := by
      obtain ⟨hsz, S, F, hG⟩ := hG
      exact (Out.ofRd hG x).put hsz (fun d hd' => hd i o d ho hd')
    rw [List.length_cons, Nat.succ_add]
    refine wpAny_take ho (hns (by simp)) (free_mono hfr) ?_ (fun c a' w' h => hQ _ _ _ _ h) (v := a.eval x) ?_ ?_
    · simp only [List.contains_eq_mem, decide_eq_true_eq]
      exact mem_ready'.2 ⟨hi, hli, o, ho, by rw [hdr]; simp⟩
    · refine .inl ⟨by simp [Region.wanted, hg], fun w => by simp [execOp, hop]⟩
    · rw [List.nodup_cons] at hnd
      refine ih _ _ _ w (fun j hj => hsub j (by simp [hj])) (fun _ => hns (by simp)) (by simpa using hsz) (fun j hj => ⟨(hh j (by simp [hj])).1, ?_⟩) hnd.2 hG2 hk2 hk
      rw [getD_set (by omega), if_neg (fun e => hnd.1 (by rw [← e]; exact hj))]
      exact (hh j (by simp [hj])).2
theorem slimL_u {ops : Array Oper} {U : Nat → List Nat} : ∀ {l : List Oper} {i : Nat} {s : List SOp}, slimL ops U i l = some s → ∀ (j : Nat) (x : SOp), s[j]? = some x → x.u = U (i + j) := by
  intro l
  induction l with
  | nil => intro i s h j x hx; simp only [slimL] at h; cases h; simp at hx
  | cons o l ih =>
    intro i s h j x hx
    simp only [slimL] at h
    split at h
    · rename_i g r hg hr
      cases h
      cases j with
      | zero => simp at hx; subst hx; rfl
      | succ j => rw [ih hr j x (by simpa using hx)]; congr 1; omega
    · cases h
def onlyN (Q : Exit → Act → World → Prop) : Exit → Act → World → Prop
  | .normal, a, w => Q .normal a w
  | _, _, _ => False
theorem reg_sound {Q : Exit → Act → World → Prop} (hm : P.follows .mixedOrders = true) {id : Nat} {ops : Array Oper} {drawn : Bool} {s : List SOp} (hs : slimOps C.lo n ops drawn = some s) {K : Env → Prop} (hK : ∀ Γ' a' w', K Γ' → Gd C n Γ' a' w' → Q .normal a' w')
    (hG : Gd C n Γ a w) (h : awL P s Γ K) : (Code.region id ops drawn).wp P Q a w := by
  unfold slimOps at hs
  split at hs
  rotate_left
  · cases hs
  rename_i hdst
  have hd : ∀ (i : Nat) (o : Oper) (d : Nat), ops[i]? = some o → o.dst = some d → C.lo ≤ d ∧ d < n := fun i o d ho hd => dstOk_at hdst ho hd
  split at hs
  · rename_i hdr
    simp only at hs
    split at hs
    rotate_left
    · cases hs
    rename_i s' hs'
    split at hs
    rotate_left
    · cases hs
    rename_i hok
    cases hs
    obtain ⟨h1, h2⟩ := slimL_like hs'
    rw [hdr]
    refine Code.wp_mono (Q := onlyN Q) (fun e a w h => by cases e <;> first | exact h | exact h.elim) ?_
    refine wp_region_any hm ?_
    have hHd : (List.range ops.size).filter (hoistP ops (maskOf ops.toList [])) = hoists ops (maskOf ops.toList []) := (hoists_eq _ _).symm
    generalize hoists ops (maskOf ops.toList []) = H at *
    have hmem : ∀ i, i ∈ H ↔ i < ops.size ∧ hoistP ops (maskOf ops.toList []) i = true := fun i => by rw [← hHd]; simp
    have hHlt : ∀ i ∈ H, i < ops.size := fun i hi => ((hmem i).1 hi).1
    have hHnd : H.Nodup := by rw [← hHd]; exact List.Pairwise.filter _ List.nodup_range
    have hrep : ∀ i, i < ops.size → (Array.replicate ops.size false).getD i true = false := fun i hi => by simp [Array.getD_eq_getD_getElem?, hi]
    have hlst := fun j => foldl_setD H (Array.replicate ops.size false) j (fun i hi => by simpa using hHlt i hi)
    have hrest : ((List.range ops.size).filter fun i => !H.contains i) = (List.range ops.size).filter fun i => !hoistP ops (maskOf ops.toList []) i := by
      refine List.filter_congr fun i hi => ?_
      rw [List.mem_range] at hi
      congr 1
      rw [Bool.eq_iff_iff, List.contains_iff_mem, hmem]
      simp [hi]
    rw [hrest] at h
    have hr : rem ops (H.foldl (fun l i => l.setIfInBounds i true) (Array.replicate ops.size false)) = (List.range ops.size).filter fun i => !hoistP ops (maskOf ops.toList []) i := by
      unfold rem
      refine List.filter_congr fun i hi => ?_
      rw [List.mem_range] at hi
      rw [(hlst i).2, hrep i hi, Bool.or_false]
      congr 1
      rw [Bool.eq_iff_iff, List.contains_iff_mem, hmem]
      simp [hi]
    have hsize : ops.size = H.length + ((List.range ops.size).filter fun i => !hoistP ops (maskOf ops.toList []) i).length := by
      have := List.length_eq_countP_add_countP (l := List.range ops.size) (hoistP ops (maskOf ops.toList []))
      rw [List.length_range] at this
      conv => lhs; rw [this]
      rw [← hHd]
      rw [← List.countP_eq_length_filter, ← List.countP_eq_length_filter]
      congr 1
      refine List.countP_congr fun x _ => ?_
      simp
    have hu : ∀ i ∈ H, ∀ x, s'[i]? = some x → x.u = [] := fun i hi x hx => by
      rw [slimL_u hs' i x hx, Nat.zero_add]
      unfold sideH
      rw [if_pos (by simpa using hi)]
    have hG' : Gd C n Γ a { w with drawn := w.drawn + 1 } := by
      obtain ⟨hsz, S, F, hG⟩ := hG
      exact ⟨hsz, S, F, hG.drew⟩
    have h2' : ∀ (i : Nat) (o : Oper) (x : SOp), ops[i]? = some o → s'[i]? = some x → Like ops o x := fun i o x ho hx => h2 i o x (by simpa using ho) hx
    have hlen' : s'.length = ops.size := by simpa using h1
    suffices key : wpAny P .any ops (onlyN Q) (H.length + ((List.range ops.size).filter fun i => !hoistP ops (maskOf ops.toList []) i).length) (Array.replicate ops.size false) a { w with drawn := w.drawn + 1 } by
      rw [← hsize] at key; exact key
    refine hoist_sound (Q := onlyN Q) (fun c a a' w h => h) hlen' h2' hd hu H (Array.replicate ops.size false) Γ a _ (fun i hi => hi) ?_ (by simp) ?_ hHnd hG' h ?_
    · intro hne
      obtain ⟨i, hi⟩ := List.exists_mem_of_ne_nil _ hne
      have := ((hmem i).1 hi).2
      simp only [hoistP, Bool.and_eq_true] at this
      exact this.1.2
    · intro i hi
      have := ((hmem i).1 hi).2
      simp only [hoistP, Bool.and_eq_true] at this
      exact ⟨this.2, hrep i (hHlt i hi)⟩
    · intro Γ' a' hG2 hk2
      refine any_sound (Q := onlyN Q) hok hlen' h2' hd (fun Γ' a' w' h1 h2 => hK Γ' a' w' h1 h2) _ _ Γ' a' _ (by rw [(hlst 0).1]; simp) ?_ ?_ (by rw [hr]) hG2 (by rw [hr]; exact hk2)
      · intro x hx
        rw [(hlst x).2]
        simp [hx]
      · intro i o ho hl d hdd
        exfalso
        have hi : i < ops.size := (Array.getElem?_eq_some_iff.1 ho).1
        rw [(hlst i).2, hrep i hi, Bool.or_false, List.contains_iff_mem] at hl
        have := ((hmem i).1 hl).2
        simp only [hoistP, Bool.and_eq_true] at this
        have hb := this.2
        unfold hoistB at hb
        rw [ho] at hb
        simp only [Bool.and_eq_true] at hb
        have he : direct o = [] := by simpa using hb.1.1.2
        rw [he] at hdd
        cases hdd
  · rename_i hdr
    have hdr : drawn = false := by simpa using hdr
    obtain ⟨h1, h2⟩ := slimL_like hs
    have hlen : s.length = ops.size := by simpa using h1
    rw [hdr]
    refine wp_region (awL_sound hlen (fun i o x ho hx => h2 i o x (by simpa using ho) hx) hd hK _ Γ a w (fun i hi => List.mem_range.1 hi) hG ?_)
    rw [getD_self _ hlen]; exact h
theorem linearise_mem {ops : Array Oper} : ∀ (fuel t : Nat) (listed : Array Bool), Region.linearise.go .any ops fuel t listed [] ∈ ordersOf ops fuel listed := by
  intro fuel
  induction fuel with
  | zero => intro t listed; simp [Region.linearise.go, ordersOf]
  | succ fuel ih =>
    intro t listed
    simp only [Region.linearise.go, ordersOf]
    change (match (Region.ready .any ops listed)[t % (Region.ready .any ops listed).length]? with
      | some i => Region.linearise.go .any ops fuel (t / (Region.ready .any ops listed).length) (listed.setIfInBounds i true) [i]
      | none => [].reverse) ∈ _
    cases hr : Region.ready .any ops listed with
    | nil => simp
    | cons x xs =>
      have hlt : t % (x :: xs).length < (x :: xs).length := Nat.mod_lt _ (by simp)
      rw [List.getElem?_eq_getElem hlt]
      simp only
      rw [linearise_go_acc]
      simp only [List.mem_flatMap, List.mem_map]
      exact ⟨_, List.getElem_mem hlt, _, ih (t / (x :: xs).length) _, rfl⟩
theorem orders_lt {ops : Array Oper} : ∀ (fuel : Nat) (listed : Array Bool) (l : List Nat), l ∈ ordersOf ops fuel listed → ∀ i ∈ l, i < ops.size := by
  intro fuel
  induction fuel with
  | zero => intro listed l h; simp [ordersOf] at h; subst h; simp
  | succ fuel ih =>
    intro listed l h
    simp only [ordersOf] at h
    split at h
    · simp at h; subst h; simp
    · rename_i x xs hr
      rw [List.mem_flatMap] at h
      obtain ⟨i, hi, h⟩ := h
      rw [List.mem_map] at h
      obtain ⟨l', hl', rfl⟩ := h
      intro j hj
      rcases List.mem_cons.1 hj with rfl | hj
      · rw [← hr, mem_ready] at hi
        obtain ⟨_, o, ho, _⟩ := hi
        exact (Array.getElem?_eq_some_iff.1 ho).1
      · exact ih _ _ hl' j hj
theorem alts_sound {Q : Exit → Act → World → Prop} (hm : P.follows .mixedOrders = true) {id : Nat} {ops : Array Oper} {ls : List (List SOp)} (hs : slimA C.lo n ops = some ls) {K : Env → Prop} (hK : ∀ Γ' a' w', K Γ' → Gd C n Γ' a' w' → Q .normal a' w')
    (hG : Gd C n Γ a w) (h : ∀ l ∈ ls, ∃ Γ0, Wk Γ Γ0 ∧ ((∀ s, Am.okV (cont Γ0 s)) → awL P l Γ0 K)) : (Code.region id ops true).wp P Q a w := by
  unfold slimA at hs
  split at hs
  rotate_left
  · cases hs
  rename_i hdst
  split at hs
  rotate_left
  · cases hs
  rename_i s hs'
  cases hs
  obtain ⟨h1, h2⟩ := slimL_like hs'
  have hlen : s.length = ops.size := by simpa using h1
  refine wp_region_draw fun t => ?_
  simp only [Region.schedule, hm, Bool.true_or, if_true]
  have hmem := linearise_mem (ops := ops) ops.size t (Array.replicate ops.size false)
  have hG' : Gd C n Γ a { w with drawn := w.drawn + 1 } := by
    obtain ⟨hsz, S, F, hG⟩ := hG
    exact ⟨hsz, S, F, hG.drew⟩
  obtain ⟨Γ0, hw0, hl⟩ := h _ (List.mem_map.2 ⟨_, hmem, rfl⟩)
  have hG0 := hw0 _ _ _ _ hG'
  exact awL_sound hlen (fun i o x ho hx => h2 i o x (by simpa using ho) hx) (fun i o d ho hd => dstOk_at hdst ho hd) hK _ Γ0 a _ (orders_lt _ _ _ hmem) hG0 (hl hG0.okV)
theorem aw_sound (hm : P.follows .mixedOrders = true) : ∀ {c : Code} {sc : SC} {Γ : Env} {a : Act} {w : World} {Q : X → Env → Prop} {Q' : Exit → Act → World → Prop}, slim C.lo n c = some sc →
    Gd C n Γ a w → aw P sc Γ Q → (∀ x Γ' a' w', Q x Γ' → Gd C n Γ' a' w' → Q' x.out a' w') → c.wp P Q' a w := by
  intro c
  induction c with
  | skip =>
    intro sc Γ a w Q Q' hs hG h hQ
    simp only [slim] at hs; cases hs
    exact wp_skip (hQ _ _ _ _ h hG)
  | region id ops d =>
    intro sc Γ a w Q Q' hs hG h hQ
    simp only [slim] at hs
    split at hs
    · rename_i hd
      split at hs
      rotate_left
      · cases hs
      rename_i ls hls
      cases hs
      have hd : d = true := by unfold altB at hd; cases d <;> simp at hd ⊢
      subst hd
      refine alts_sound hm hls (K := fun Γ' => ∃ Γ'', Wk Γ' Γ'' ∧ Q .norm Γ'') (fun Γ' a' w' ⟨Γ'', hw, hk⟩ hG' => hQ .norm Γ'' a' w' hk (hw _ _ _ _ hG')) hG h
    split at hs
    · rename_i l hl
      cases hs
      obtain ⟨Γ0, hw0, h⟩ := h
      have hG := hw0 _ _ _ _ hG
      exact reg_sound hm hl (fun Γ' a' w' ⟨Γ'', hw, hk⟩ hG' => hQ .norm Γ'' a' w' hk (hw _ _ _ _ hG')) hG (h hG.okV)
    · cases hs
  | seq x y ihx ihy =>
    intro sc Γ a w Q Q' hs hG h hQ
    simp only [slim] at hs
    split at hs
    · rename_i sx sy hx hy
      cases hs
      refine wp_seq (ihx hx hG h ?_)
      intro e Γ' a' w' he hG'
      cases e with
      | norm => exact ihy hy hG' he hQ
      | exit id => exact hQ _ _ _ _ he hG'
      | ret => exact hQ _ _ _ _ he hG'
    · cases hs
  | cond c x y ihx ihy =>
    intro sc Γ a w Q Q' hs hG h hQ
    simp only [slim] at hs
    split at hs
    · rename_i sx sy hx hy
      cases hs
      simp only [aw] at h
      split at h
      · rename_i t ht
        have hv : a.eval c = .bool t := by
          obtain ⟨_, S, F, hG'⟩ := hG
          exact lookInt hG' ht
        exact wp_cond_split hv (fun e => ihx hx hG (h.1 e) hQ) (fun e => ihy hy hG (h.2 e) hQ)
      · exact h.elim
    · cases hs
  | block id c ih =>
    intro sc Γ a w Q Q' hs hG h hQ
    simp only [slim] at hs
    split at hs
    · rename_i sc' hc
      cases hs
      refine wp_block (ih hc hG h ?_)
      intro e Γ' a' w' he hG'
      cases e with
      | norm => exact hQ _ _ _ _ he hG'
      | exit id' =>
        simp only [inX] at he
        simp only [X.out, Exit.inBlock]
        split
        · rename_i hid; rw [if_pos hid] at he; exact hQ .norm _ _ _ he hG'
        · rename_i hid; rw [if_neg hid] at he; exact hQ (.exit id') _ _ _ he hG'
      | ret => exact hQ _ _ _ _ he hG'
    · cases hs
  | loop c ih =>
    intro sc Γ a w Q Q' hs hG h hQ
    simp only [slim] at hs
    split at hs
    · rename_i sc' hc
      cases hs
      obtain ⟨I, ⟨k0, Γ0, hw0, h0⟩, hI⟩ := h
      let J : Nat → Act → World → Prop := fun k a w => ∃ Γ, I k Γ ∧ Gd C n Γ a w
      have hex : ∀ a w, (∃ k, J k a w) → ∃ k, J k a w ∧ ∀ k', J k' a w → k ≤ k' := by
        intro a w hk
        obtain ⟨k, hk⟩ := hk
        induction k using Nat.strongRecOn with
        | _ k ih =>
          by_cases hex : ∃ k', k' < k ∧ J k' a w
          · obtain ⟨k', hlt, hk'⟩ := hex; exact ih k' hlt hk'
          · exact ⟨k, hk, fun k' hk' => Classical.byContradiction fun hlt => hex ⟨k', by omega, hk'⟩⟩
      let μ : Act → World → Nat := fun a w => by
        classical exact if h : ∃ k, J k a w then Classical.choose (hex a w h) else 0
      have hμ : ∀ a w, (∃ k, J k a w) → J (μ a w) a w ∧ ∀ k', J k' a w → μ a w ≤ k' := by
        intro a w hk
        have : μ a w = Classical.choose (hex a w hk) := by simp only [μ]; rw [dif_pos hk]
        rw [this]
        exact Classical.choose_spec (hex a w hk)
      refine wp_loop (fun a w => ∃ k, J k a w) μ ⟨k0, Γ0, h0, hw0 _ _ _ _ hG⟩ ?_
      intro a1 w1 hJ
      obtain ⟨⟨Γ1, hI1, hG1⟩, _⟩ := hμ a1 w1 hJ
      refine ih hc hG1 (hI _ Γ1 hI1) ?_
      intro e Γ' a' w' he hG'
      cases e with
      | norm =>
        obtain ⟨k', Γ3, hlt, hw3, hk'⟩ := he
        have hG3 := hw3 _ _ _ _ hG'
        have hJ' : ∃ k, J k a' w' := ⟨k', Γ3, hk', hG3⟩
        exact ⟨hJ', Nat.lt_of_le_of_lt ((hμ a' w' hJ').2 k' ⟨Γ3, hk', hG3⟩) hlt⟩
      | exit id => exact hQ _ _ _ _ he hG'
      | ret => exact hQ _ _ _ _ he hG'
    · cases hs
  | exit id =>
    intro sc Γ a w Q Q' hs hG h hQ
    simp only [slim] at hs; cases hs
    exact wp_exit (hQ _ _ _ _ h hG)
  | ret =>
    intro sc Γ a w Q Q' hs hG h hQ
    simp only [slim] at hs; cases hs
    exact wp_ret (hQ _ _ _ _ h hG)
  | _ => intro sc Γ a w Q Q' hs; simp [slim] at hs
end
theorem awL_mono {P : Program} : ∀ {l : List SOp} {Γ : Env} {K K' : Env → Prop}, (∀ Γ, K Γ → K' Γ) → awL P l Γ K → awL P l Γ K' := by
  intro l
  induction l with
  | nil => intro Γ K K' hK h; exact hK _ h
  | cons o l ih => intro Γ K K' hK h; exact awS_mono (fun Γ' h' => ih hK h') h
theorem aw_mono {P : Program} : ∀ {c : SC} {Γ : Env} {Q Q' : X → Env → Prop}, (∀ x Γ, Q x Γ → Q' x Γ) → aw P c Γ Q → aw P c Γ Q' := by
  intro c
  induction c with
  | skip => intro Γ Q Q' hQ h; exact hQ _ _ h
  | reg l ks =>
    rintro Γ Q Q' hQ ⟨Γ0, hw0, h⟩
    exact ⟨Γ0, hw0, fun hok => awL_mono (fun Γ' ⟨Γ'', hw, hk⟩ => ⟨Γ'', hw, hQ _ _ hk⟩) (h hok)⟩
  | alts ls ks =>
    intro Γ Q Q' hQ h l hl
    obtain ⟨Γ0, hw0, h⟩ := h l hl
    exact ⟨Γ0, hw0, fun hok => awL_mono (fun Γ' ⟨Γ'', hw, hk⟩ => ⟨Γ'', hw, hQ _ _ hk⟩) (h hok)⟩
  | seq a b iha ihb =>
    intro Γ Q Q' hQ h
    refine iha ?_ h
    intro x Γ' hx
    cases x with
    | norm => exact ihb hQ hx
    | exit id => exact hQ _ _ hx
    | ret => exact hQ _ _ hx
  | cond c a b iha ihb =>
    intro Γ Q Q' hQ h
    simp only [aw] at h ⊢
    split at h
    · exact ⟨fun e => iha hQ (h.1 e), fun e => ihb hQ (h.2 e)⟩
    · exact h
  | block id c ih =>
    intro Γ Q Q' hQ h
    refine ih ?_ h
    intro x Γ' hx
    cases x with
    | norm => exact hQ _ _ hx
    | exit id' =>
      simp only [inX] at hx ⊢
      split
      · rename_i he; rw [if_pos he] at hx; exact hQ _ _ hx
      · rename_i he; rw [if_neg he] at hx; exact hQ _ _ hx
    | ret => exact hQ _ _ hx
  | loop c ih =>
    intro Γ Q Q' hQ h
    obtain ⟨I, h0, hI⟩ := h
    refine ⟨I, h0, fun k Γ' hk => ih ?_ (hI k Γ' hk)⟩
    intro x Γ'' hx
    cases x with
    | norm => exact hx
    | exit id => exact hQ _ _ hx
    | ret => exact hQ _ _ hx
  | exit id => intro Γ Q Q' hQ h; exact hQ _ _ h
  | ret => intro Γ Q Q' hQ h; exact hQ _ _ h
def oL (d : Nat) (t : TypeId) (a : Nat) : SOp := ⟨some d, .load t (.tmp a), none, []⟩
def oM (d a : Nat) : SOp := ⟨some d, .move (.tmp a), none, []⟩
def oF (d : Nat) (t : TypeId) (a i : Nat) : SOp := ⟨some d, .fieldAddr t (.tmp a) i, none, []⟩
def oS (t : TypeId) (a b : Nat) : SOp := ⟨none, .store t (.tmp a) (.tmp b), none, []⟩
def oB (d : Nat) (o : BinOp) (t : TypeId) (a b : Nat) (r : TypeId) : SOp := ⟨some d, .binOp o t (.tmp a) (.tmp b) r, none, []⟩
def oK (d : Nat) (o : BinOp) (t : TypeId) (a : Nat) (n : Int) (r : TypeId) : SOp := ⟨some d, .binOp o t (.tmp a) (.const (.int .i64 n)) r, none, []⟩
def oN (d a : Nat) (t : TypeId) : SOp := ⟨some d, .call { callee := .builtin .len, args := #[.tmp a], argTypes := #[t] }, none, []⟩
def oC (d : Nat) (f : FuncId) (a : Array Operand) (t : Array TypeId) : SOp := ⟨some d, .call { callee := .value (.func f), args := a, argTypes := t }, none, []⟩
def oP (d : Nat) (a : Array Operand) (t : Array TypeId) : SOp := ⟨some d, .call { callee := .builtin .append, args := a, argTypes := t }, none, []⟩
def oI (d : Nat) (n : Int) : SOp := ⟨some d, .assign (.const (.int .i64 n)), none, []⟩
def oZ (d : Nat) (b : Bool) : SOp := ⟨some d, .assign (.const (.bool b)), none, []⟩
def oG (d a : Nat) : SOp := ⟨some d, .assign (.tmp a), none, []⟩
def oX (d a i : Nat) : SOp := ⟨some d, .extract (.tmp a) i, none, []⟩
def oJ (d : Nat) (t : TypeId) (a b : Nat) : SOp := ⟨some d, .indexAddr t (.tmp a) (.tmp b), none, []⟩
def oO (d : Nat) (t : TypeId) (a : Nat) : SOp := ⟨some d, .box t (.tmp a), none, []⟩
def oA (d : Nat) (t : TypeId) : SOp := ⟨some d, .alloc t, none, []⟩
def oQ (d a b : Nat) (c : Bool) : SOp := ⟨some d, .pick (.tmp a) (.tmp b) (.const (.bool c)), none, []⟩
def oR (d a : Nat) (c : Bool) (b : Nat) : SOp := ⟨some d, .pick (.tmp a) (.const (.bool c)) (.tmp b), none, []⟩
def oD (d : Nat) (o : Op) : SOp := ⟨some d, o, none, []⟩
def oW (n : Nat) (b : Bool) (s : SOp) : SOp := ⟨s.dst, s.op, some (n, b), s.u⟩
def oU (s : SOp) (l : List Nat) : SOp := ⟨s.dst, s.op, s.g, l⟩
end Go.Am
end
