/- Part of the proof of a law of the image. -/
import Derived.Test.YtfgfjgbggkdobaaGreatQPE
set_option linter.all false
namespace Go.Am
open Go Go.RowKit
section
variable {S : Nat → Nat → Prop} {w : World} {P : Program}
theorem R.app2 {t ty e : TypeId} {i : TypeInfo} {z : Value} (ht : P.underlying t = some (.slice e)) (hi : P.info? e = some i) (hz : i.zero = some z) (hzs : z.cells.size = i.size) (hsz : 0 < i.size)
    {l l2 : List V} {v : Value} {fy : List Nat} (h : R S w [.uq l] [v] fy) (hny : fy.Nodup) (hap : ∀ b o, b ∈ fy → ¬ S b o) (hlt : ∀ b o, S b o → b < w.heap.size) (hfl : ∀ b, b ∈ fy → b < w.heap.size)
    (hl : ∀ y ∈ l, y.cells.length = i.size) (hl2 : ∀ y ∈ l2, y.cells.length = i.size)
    {x : Value} {news : List Value} {fx : List Nat} (hR : R S w (l2.flatMap V.cells) news fx) (hnx : fx.Nodup) (hdx : ∀ b, b ∈ fx → b ∉ fy) (hlx : ∀ b, b ∈ fx → b < w.heap.size) (h1 : ∀ u ∈ news, u.oneCell' = true)
    (hx : l2 ≠ [] ∧ ∃ ad c, x = .slice (some ad) l2.length c ∧ ∀ j u, news[j]? = some u → w.cell? (ad.add j) = some u)
    (hm : l.length + l2.length ≤ maxLen) (hb : (l.length + l2.length) * i.bytes ≤ 140737488355328) :
    ∃ v' w' fy', (Builtin.append_ #[t, t] ty #[v, x]).run P w = .ok v' w' ∧ R S w' [.uq (l ++ l2)] [v'] fy' ∧ fy'.Nodup ∧ (∀ b, b ∈ fy' → b ∈ fy ∨ b ∈ fx ∨ w.heap.size ≤ b) ∧ (∀ b, b ∈ fy' → b < w'.heap.size) ∧ Far fy w w' := by
  obtain ⟨hne, ad, c, rfl, hnews⟩ := hx
  · have hpos : 0 < l2.length := by cases l2 with | nil => exact absurd rfl hne | cons _ _ => simp
    have hnl : news.length = l2.length * i.size := by rw [← hR.length]; exact flat_len hl2
    have hne' : l ++ l2 ≠ [] := by simp [hne]
    have hall : ∀ y ∈ l ++ l2, y.cells.length = i.size := by
      intro y hy; rcases List.mem_append.1 hy with hy | hy
      · exact hl y hy
      · exact hl2 y hy
    have hsmall : l.length + l2.length ≤ 9223372036854775807 := by simpa only [maxLen] using hm
    have grown : ∀ {cs : List Value} {fq : List Nat}, R S w (l.flatMap V.cells) cs fq → (∀ u ∈ cs, u.oneCell' = true) → fq.Nodup → (∀ b, b ∈ fq → b ∈ fy) → ∀ old, old < l.length + l2.length →
        R S (w.drew.alloc (.cells (cs.toArray ++ news.toArray ++ Builtin.zeroCells z.cells (grownCap w (l.length + l2.length) old e - (l.length + l2.length))) e))
          [.uq (l ++ l2)] [.slice (some ⟨w.heap.size, 0, none⟩) (l.length + l2.length) (grownCap w (l.length + l2.length) old e)] (w.heap.size :: (fq ++ fx)) := by
      intro cs fq hcs h1c hnq hsub old hold
      have hge := grownCap_ge w (l.length + l2.length) old e
      have hcm := grownCap_le_maxLen w (l.length + l2.length) old e hm
      have hcl : cs.length = l.length * i.size := by rw [← hcs.length]; exact flat_len hl
      have hA : R S (w.drew.alloc (.cells (cs.toArray ++ news.toArray ++ Builtin.zeroCells z.cells (grownCap w (l.length + l2.length) old e - (l.length + l2.length))) e)) ((l ++ l2).flatMap V.cells) (cs ++ news) (fq ++ fx) := by
        rw [List.flatMap_append]
        have hcell : ∀ b o, S b o → (w.drew.alloc (.cells (cs.toArray ++ news.toArray ++ Builtin.zeroCells z.cells (grownCap w (l.length + l2.length) old e - (l.length + l2.length))) e)).cell? ⟨b, o, none⟩ = w.cell? ⟨b, o, none⟩ :=
          fun b o hs => cell_alloc_lt w.drew _ b o (hlt b o hs)
        exact R.append (hcs.mono (fun _ _ h => h) hcell (fun b hb => Below.heap_alloc w.drew _ b (hfl b (hsub b hb)))) (hR.mono (fun _ _ h => h) hcell (fun b hb => Below.heap_alloc w.drew _ b (hlx b hb)))
      have := R.uq (S := S) (xs := []) (vs := []) (fp := []) w.heap.size (grownCap w (l.length + l2.length) old e) e i.size _ hsz hall hA (fun u hu => by
          rcases List.mem_append.1 hu with hu | hu
          · exact h1c u hu
          · exact h1 u hu) (heap_alloc_new w.drew _) (by simpa using hge) ⟨hcm, fun e => absurd e hne'⟩
        (by simp only [Array.size_append, List.size_toArray, zeroCells_size, hzs, hcl, hnl, ← Nat.add_mul]; congr 1; omega)
        (by
          simp only [Array.toList_append, List.append_assoc, List.length_append]
          rw [← List.append_assoc]
          have : (cs ++ news).length = (l.length + l2.length) * i.size := by rw [List.length_append, hcl, hnl, Nat.add_mul]
          rw [← this]; exact List.take_left) R.nil
      simpa using this
    cases h with
    | uq0 hh =>
      cases hh
      have hr := run_append_nil (P := P) w t ty e i z ht hi hz ad l2.length c news hnl hnews hpos (by simp at hsmall; omega) (by simp at hb; omega)
      have hg := grown (cs := []) (fq := []) .nil (by simp) List.nodup_nil (by simp) 0 (by simp; omega)
      simp only [List.length_nil, Nat.zero_add, List.nil_append] at hg ⊢
      refine ⟨_, _, w.heap.size :: fx, hr, ?_, List.nodup_cons.2 ⟨fun h => by have := hlx _ h; omega, hnx⟩, fun b hb => by rcases List.mem_cons.1 hb with rfl | hb; exact .inr (.inr (Nat.le_refl _)); exact .inr (.inl hb), fun b hb => by rcases List.mem_cons.1 hb with rfl | hb; simp; have := hlx b hb; simp; omega, ⟨rfl, rfl, rfl, by simp, fun k hk _ => heap_alloc_old w.drew _ k hk⟩⟩
      simpa using hg
    | @uq _ cs fq _ _ _ b cap e' es cur g1 g2 g3 g4 g5 g6 g7 g8 g9 hh =>
      cases hh
      have hes : l ≠ [] → es = i.size := by
        intro hl0
        cases l with
        | nil => exact absurd rfl hl0
        | cons y l => rw [← g2 y (by simp)]; exact hl y (by simp)
      have hcs : cur.size = cap * i.size := by
        by_cases hl0 : l = []
        · rw [g8, g7.2 hl0]; simp
        · rw [g8, hes hl0]
      have htk : cur.toList.take (l.length * i.size) = cs := by
        by_cases hl0 : l = []
        · subst hl0; simpa using g9
        · rw [← hes hl0]; exact g9
      have hcl : cs.length = l.length * i.size := by rw [← g3.length]; exact flat_len hl
      have hbin : b ∈ (b :: fq ++ []) := by simp
      have hnq : fq.Nodup := by simp at hny; exact hny.2
      have hbq : b ∉ fq := by simp at hny; exact hny.1
      by_cases hroom : l.length + l2.length ≤ cap
      · have hfit : l.length * i.size + news.length ≤ cur.size := by rw [hnl, hcs, ← Nat.add_mul]; exact Nat.mul_le_mul_right _ hroom
        have hr := run_append_room' ht hi b l.length cap cur e' g5 ad l2.length c news hnl hnews h1 hroom hfit (ty := ty)
        have hBut : But b w (w.setRow b (cur.toList.take (l.length * i.size) ++ news ++ cur.toList.drop (l.length * i.size + news.length)).toArray) :=
          ⟨rfl, rfl, rfl, by simp, fun k hk => setRow_other w b k _ hk⟩
        have hne2 : ∀ b' o', S b' o' → b' ≠ b := fun b' o' hs e => hap b o' hbin (e ▸ hs)
        have hA : R S (w.setRow b (cur.toList.take (l.length * i.size) ++ news ++ cur.toList.drop (l.length * i.size + news.length)).toArray) ((l ++ l2).flatMap V.cells) (cs ++ news) (fq ++ fx) := by
          rw [List.flatMap_append]
          exact R.append (g3.mono (fun _ _ h => h) (fun b' o' hs => hBut.cell (hne2 b' o' hs)) (fun k hk => hBut.block k (fun e => hbq (e ▸ hk)))) (hR.mono (fun _ _ h => h) (fun b' o' hs => hBut.cell (hne2 b' o' hs)) (fun k hk => hBut.block k (fun e => hdx k hk (e ▸ hbin))))
        have := R.uq (S := S) (xs := []) (vs := []) (fp := []) b cap e' i.size _ hsz hall hA (fun u hu => by
            rcases List.mem_append.1 hu with hu | hu
            · exact g4 u hu
            · exact h1 u hu) (setRow_heap w b cur _ e' _ g5) (by simpa using hroom) ⟨g7.1, fun e => absurd e hne'⟩
          (by simp only [List.size_toArray, List.length_append, List.length_take, List.length_drop, Array.length_toList]; omega)
          (by
            simp only [List.length_append]
            rw [htk]
            have : (cs ++ news).length = (l.length + l2.length) * i.size := by rw [List.length_append, hcl, hnl, Nat.add_mul]
            rw [← this]; exact List.take_left) R.nil
        rw [List.length_append] at this
        refine ⟨_, _, _, hr, this, ?_, ?_, ?_, ⟨rfl, rfl, rfl, by simp, fun k _ hk => hBut.block k (fun e => hk (e ▸ hbin))⟩⟩
        · rw [List.append_nil, List.nodup_cons, List.mem_append, List.nodup_append]
          exact ⟨fun h => h.elim hbq (fun h => hdx b h hbin), hnq, hnx, fun x hx y hy e => hdx y hy (by subst e; simp [hx])⟩
        · intro k hk
          simp only [List.append_nil, List.mem_cons, List.mem_append] at hk ⊢
          rcases hk with rfl | hk | hk
          · simp
          · simp [hk]
          · simp [hk]
        · intro k hk
          rw [hBut.size]
          simp only [List.append_nil, List.mem_cons, List.mem_append] at hk
          rcases hk with rfl | hk | hk
          · exact hfl k hbin
          · exact hfl k (by simp [hk])
          · exact hlx k hk
      · have holds : ∀ j u, cs[j]? = some u → w.cell? ((⟨b, 0, none⟩ : Addr).add j) = some u := by
          intro j u hu
          rw [Addr.add_lit, cell_of_row w b _ cur e' (0, 0) g5]
          have hj : j < l.length * i.size := by
            rcases Nat.lt_or_ge j cs.length with h' | h'
            · omega
            · simp [List.getElem?_eq_none h'] at hu
          rw [← htk, List.getElem?_take_of_lt hj] at hu
          simpa using hu
        have hr := run_append_grow (P := P) w t ty e i z ht hi hz ⟨b, 0, none⟩ l.length cap cs hcl holds ad l2.length c news hnl hnews (by omega) (by omega) (growslice_fits (by omega) hb)
        have hg := grown g3 g4 hnq (fun k hk => by simp [hk]) cap (by omega)
        refine ⟨_, _, _, hr, hg, ?_, fun k hk => ?_, fun k hk => ?_, ⟨rfl, rfl, rfl, by simp, fun k hk _ => heap_alloc_old w.drew _ k hk⟩⟩
        · rw [List.nodup_cons, List.mem_append, List.nodup_append]
          exact ⟨fun h => h.elim (fun hk => by have := hfl w.heap.size (by simp [hk]); omega) (fun hk => by have := hlx _ hk; omega), hnq, hnx, fun x hx y hy e => hdx y hy (by subst e; simp [hx])⟩
        · rcases List.mem_cons.1 hk with rfl | hk
          · exact .inr (.inr (Nat.le_refl _))
          · rcases List.mem_append.1 hk with hk | hk
            · exact .inl (by simp [hk])
            · exact .inr (.inl hk)
        · rcases List.mem_cons.1 hk with rfl | hk
          · simp
          · rcases List.mem_append.1 hk with hk | hk
            · have := hfl k (by simp [hk]); simp; omega
            · have := hlx k hk; simp; omega
end
end Go.Am
