/- Part of the proof of a law of the image. -/
import Derived.Test.YtfgfjgbggkdobaaGreatQData
import Derived.Test.YtfgfjgbggkdobaaGreatQIN
import Derived.Test.YtfgfjgbggkdobaaGreatChecked
import Derived.WalkKit
import Derived.Deep.LoopGhost
import Derived.Deep.RegionLaw
import Derived.Shelf.RegionOpenPlain
set_option linter.all false
section
namespace Go.Am
open Go
variable {P : Program}
theorem del_gen {f : FuncId} {es : Nat} (hes0 : 0 < es) (hen : entr P f = true)
    (hrun : ∀ (b cap i n : Nat) (cur : Array Value) (e : TypeId) (w : World), w.heap[b]? = some (.cells cur e (0, 0)) → i < i + 1 → i + 1 ≤ n → n ≤ cap → cap ≤ 9223372036854775807 → cur.size = cap * es → (∀ v ∈ cur.toList.take (n * es), v.oneCell' = true) →
      Calls P f #[.slice (some ⟨b, 0, none⟩) n cap, .int .i64 i, .int .i64 ((i + 1 : Nat) : Int)] w fun r w' => r = .returned (.slice (some ⟨b, 0, none⟩) (i + (n - (i + 1))) cap) ∧ But b w w' ∧
        ∃ cur2 : Array Value, w'.heap[b]? = some (.cells cur2 e (0, 0)) ∧ cur2.size = cap * es ∧ cur2.toList.take ((i + (n - (i + 1))) * es) = cur.toList.take (i * es) ++ (cur.toList.take (n * es)).drop ((i + 1) * es))
    (L : List V) (i : Nat) (hi : i < L.length) (hes : ∀ y ∈ L, y.cells.length = es) :
    ACallM P f [.uq L] [.c (.int .i64 i), .c (.int .i64 ((i : Int) + 1))] (.sl (pvL (L.take i ++ L.drop (i + 1)))) [.any] := by
  refine ⟨hen, fun S w vo vs fo hRo hnd hfS hflt hRx hSlt _ => ?_⟩
  cases hRx with
  | c h1 =>
  cases h1 with
  | c h2 =>
  cases h2
  cases hRo with
  | uq0 h0 => simp at hi
  | @uq _ cs fq _ _ _ b cap e es' cur g1 g2 g3 g4 g5 g6 g7 g8 g9 g10 =>
    cases g10
    have he : es' = es := by have h := g2 L[i] (List.getElem_mem hi); rw [hes _ (List.getElem_mem hi)] at h; exact h.symm
    subst he
    simp only [List.append_nil] at *
    have hm : maxLen = 9223372036854775807 := rfl
    have eL : L.flatMap V.cells = (L.take i).flatMap V.cells ++ (L[i].cells ++ (L.drop (i + 1)).flatMap V.cells) := by
      have e : L = L.take i ++ L[i] :: L.drop (i + 1) := by rw [List.getElem_cons_drop, List.take_append_drop]
      have h := congrArg (List.flatMap V.cells) e
      rw [List.flatMap_append, List.flatMap_cons] at h; exact h
    rw [eL] at g3
    obtain ⟨c1, c23, f1, f23, hc, hf, r1, r23⟩ := g3.split
    obtain ⟨c2, c3, f2, f3, hc', hf', r2, r3⟩ := r23.split
    subst hc hf hc' hf'
    have l1 : c1.length = i * es' := by rw [← r1.length, flat_len (fun x hx => g2 x (List.mem_of_mem_take hx)), List.length_take, Nat.min_eq_left (by omega)]
    have l2 : c2.length = es' := by rw [← r2.length]; exact g2 _ (List.getElem_mem hi)
    have l3 : c3.length = (L.length - (i + 1)) * es' := by rw [← r3.length, flat_len (fun x hx => g2 x (List.mem_of_mem_drop hx)), List.length_drop]
    have hn1 := List.nodup_cons.1 hnd
    have hb1 : ∀ k, k ∈ f1 ++ f3 → k ∈ f1 ++ (f2 ++ f3) := fun k hk => by rcases List.mem_append.1 hk with h | h <;> simp [h]
    have hrow : R S w ((L.take i ++ L.drop (i + 1)).flatMap V.cells) (c1 ++ c3) (f1 ++ f3) := by rw [List.flatMap_append]; exact r1.append r3
    have hview := hrow.view
    rw [← flat_pv] at hview
    refine (hrun b cap i L.length cur e w g5 (by omega) (by omega) (by omega) (by omega) g8 (by rw [g9]; exact g4)).mono ?_
    rintro r w' ⟨rfl, hBut, cur2, hb2, hs2, hv2⟩
    have hbS : ∀ o, ¬ S b o := fun o => hfS b o (by simp)
    have hcell : ∀ b' o, b' ≠ b → w'.cell? ⟨b', o, none⟩ = w.cell? ⟨b', o, none⟩ := fun b' o hne => by simp only [World.cell?, hBut.block b' hne]
    have hview2 : R (fun b' o => S b' o ∨ b' = b ∨ b' ∈ f1 ++ f3) w' ((pvL (L.take i ++ L.drop (i + 1))).flatMap V.cells) (c1 ++ c3) [] :=
      hview.mono (fun b' o h => h.elim .inl fun h => .inr (.inr h)) (fun b' o h => hcell b' o (by
        rintro rfl
        rcases h with h | h
        · exact hbS o h
        · exact hn1.1 (hb1 _ h))) (by simp)
    have hlen : (pvL (L.take i ++ L.drop (i + 1))).length = i + (L.length - (i + 1)) := by rw [pvL_eq]; simp; omega
    have hv : cur2.toList.take ((i + (L.length - (i + 1))) * es') = c1 ++ c3 := by
      rw [hv2, g9]
      have t1 : cur.toList.take (i * es') = c1 := by
        have : cur.toList.take (i * es') = (cur.toList.take (L.length * es')).take (i * es') := by rw [List.take_take, Nat.min_eq_left (Nat.mul_le_mul_right _ (by omega))]
        rw [this, g9, List.take_left' l1]
      have t2 : (c1 ++ (c2 ++ c3)).drop ((i + 1) * es') = c3 := by
        rw [← List.append_assoc, List.drop_left' (by rw [List.length_append, l1, l2, Nat.add_mul]; omega)]
      rw [t1, t2]
    refine ⟨_, fun b' o => S b' o ∨ b' = b ∨ b' ∈ f1 ++ f3, [], [], rfl, ?_, .any .nil, by simp, by simp, by simp, fun _ _ h => .inl h, ?_, ?_, ?_⟩
    · by_cases h0 : pvL (L.take i ++ L.drop (i + 1)) = []
      · rw [h0] at hlen ⊢
        rw [← hlen]
        exact .sl0 .nil
      · rw [← hlen]
        have := R.sl (S := fun b' o => S b' o ∨ b' = b ∨ b' ∈ f1 ++ f3) (w := w') (l := pvL (L.take i ++ L.drop (i + 1))) (cs := c1 ++ c3) (xs := []) (vs := []) (fp := []) b 0 cap es' h0 hes0 ?_ hview2 ?_ ?_ ?_ ?_ .nil
        · simpa using this
        · intro x hx
          rw [pvL_eq] at hx
          obtain ⟨y, hy, rfl⟩ := List.mem_map.1 hx
          rw [cells_pv, pvL_length]
          rcases List.mem_append.1 hy with hy | hy
          · exact g2 y (List.mem_of_mem_take hy)
          · exact g2 y (List.mem_of_mem_drop hy)
        · intro u hu
          rcases List.mem_append.1 hu with hu | hu <;> exact g4 u (by simp [hu])
        · intro j hj
          refine ⟨.inr (.inl rfl), ?_⟩
          have hlt : j < (i + (L.length - (i + 1))) * es' := by rw [List.length_append, l1, l3, ← Nat.add_mul] at hj; exact hj
          have h := congrArg (fun l => l[j]?) hv
          simp only [List.getElem?_take] at h
          rw [if_pos hlt] at h
          simp only [World.cell?, hb2, Nat.zero_add]
          rw [← h, Array.getElem?_toList]
          rfl
        · rw [hlen]; omega
        · omega
    · rintro b' o (h | h | h)
      · exact .inl h
      · exact .inr (.inl (by simp [h]))
      · exact .inr (.inl (by simp [hb1 b' h]))
    · rintro b' o (h | h | h)
      · have := hSlt b' o h; rw [hBut.size]; exact this
      · rw [hBut.size]; exact hflt b' (by simp [h])
      · rw [hBut.size]; exact hflt b' (by simp [hb1 b' h])
    · exact ⟨hBut.os, hBut.tape, hBut.output, by rw [hBut.size]; exact Nat.le_refl _, fun k hk hkf => hBut.block k (by rintro rfl; exact hkf (by simp))⟩
end Go.Am
end
section
set_option maxRecDepth 100000
set_option maxHeartbeats 0
namespace Go.Am
open Go Go.Proofs Go.RowKit Go.Lib Go.Shelf
noncomputable section
theorem delrunB (b cap i j n : Nat) (cur : Array Value) (e : TypeId) (w : World) (hb : w.heap[b]? = some (.cells cur e (0, 0))) (hij : i < j) (hj : j ≤ n) (hn : n ≤ cap)
    (hcap : cap ≤ 9223372036854775807) (hcur : cur.size = cap * 5) (h1c : ∀ v ∈ cur.toList.take (n * 5), v.oneCell' = true) :
    Calls pg 58 #[.slice (some ⟨b, 0, none⟩) n cap, .int .i64 i, .int .i64 j] w fun r w' => r = .returned (.slice (some ⟨b, 0, none⟩) (i + (n - j)) cap) ∧ But b w w' ∧
      ∃ cur2 : Array Value, w'.heap[b]? = some (.cells cur2 e (0, 0)) ∧ cur2.size = cap * 5 ∧ cur2.toList.take ((i + (n - j)) * 5) = cur.toList.take (i * 5) ++ (cur.toList.take (n * 5)).drop (j * 5) := by
  have mixed := mo
  obtain ⟨i0, hi0, hz0, hzs⟩ : ∃ i0 : TypeInfo, Tryz.prog.info? 51 = some i0 ∧ i0.zero = some (.agg #[.int .i64 0, .int .i64 0, .string ⟨#[]⟩, .bool false, .bool false]) ∧ i0.size = 5 := ⟨(Tryz.prog.info? 51).get (by kernel_rfl), by kernel_rfl, by kernel_rfl, by kernel_rfl⟩
  obtain ⟨news, hnews⟩ : ∃ news, news = (cur.toList.take (n * 5)).drop (j * 5) := ⟨_, rfl⟩
  have hlen : news.length = (n - j) * 5 := by rw [hnews]; simp; omega
  have hget : ∀ t u, news[t]? = some u → cur[j * 5 + t]? = some u := by
    intro t u hu
    rw [hnews, List.getElem?_drop, List.getElem?_take] at hu
    split at hu
    · simpa using hu
    · cases hu
  obtain ⟨A, hA, hsrc⟩ : ∃ A : Addr, (if cap = j then some (⟨b, 0, none⟩ : Addr) else some ⟨b, j * 5, none⟩) = some A ∧ Hid (∀ t u, news[t]? = some u → w.drew.cell? (A.add t) = some u) := by
    by_cases h : cap = j
    · refine ⟨⟨b, 0, none⟩, by simp [h], fun t u hu => ?_⟩
      have h0 : news.length = 0 := by rw [hlen]; omega
      rw [List.length_eq_zero_iff.1 h0] at hu
      simp at hu
    · refine ⟨⟨b, j * 5, none⟩, by simp [h], fun t u hu => ?_⟩
      rw [Addr.add_lit]
      have hb1 : w.drew.heap[b]? = some (.cells cur e (0, 0)) := hb
      simp only [World.cell?, hb1]
      exact hget t u hu
  have hone : ∀ u ∈ news, u.oneCell' = true := fun u hu => h1c u (by rw [hnews] at hu; exact List.mem_of_mem_drop hu)
  have s1 : Hid (news.length = (n - j) * 5) := hlen
  have s2 : Hid (∀ u ∈ news, u.oneCell' = true) := hone
  have s3 : Hid (∀ t, t < news.length → (w.drew.cell? ⟨b, 0 + i * 5 + t, none⟩).isSome = true ∧ w.drew.frozen? ⟨b, 0 + i * 5 + t, none⟩ = false) := by
    intro t ht
    rw [hlen] at ht
    have hb1 : w.drew.heap[b]? = some (.cells cur e (0, 0)) := hb
    refine ⟨?_, by simp [World.frozen?, hb1]⟩
    simp only [World.cell?, hb1]
    rw [Array.getElem?_eq_getElem (by omega)]; rfl
  obtain ⟨c1, hc1⟩ : ∃ c1 : Array Value, c1 = (cur.toList.take (i * 5) ++ news ++ cur.toList.drop (i * 5 + news.length)).toArray := ⟨_, rfl⟩
  have hc1s : c1.size = cap * 5 := by rw [hc1]; simp; omega
  obtain ⟨W1, hW1⟩ : ∃ W1, W1 = w.drew.setCells b (0 + i * 5) news := ⟨_, rfl⟩
  have hW1' : W1 = w.drew.setRow b c1 := by
    have hb1 : w.drew.heap[b]? = some (.cells cur e (0, 0)) := hb
    have h2 := run_storeCells_at Tryz.prog b (i * 5) e news 0 cur w.drew hb1 (by omega) hone
    have h3 := run_storeCells_cells (P := Tryz.prog) b (i * 5) news 0 w.drew (fun t ht => by have := (s3 t ht).1; simpa using this) (fun t ht => by have := (s3 t ht).2; simpa using this) hone
    rw [h2] at h3
    simp only [Nat.add_zero, Result.ok.injEq, true_and] at h3
    rw [hW1, Nat.zero_add, ← h3, hc1]
  have hb2 : W1.heap[b]? = some (.cells c1 e (0, 0)) := by rw [hW1']; exact setRow_heap w.drew b cur c1 e (0, 0) hb
  obtain ⟨zs, hzs'⟩ : ∃ zs : List Value, zs = (Builtin.zeroCells (.agg #[.int .i64 0, .int .i64 0, .string ⟨#[]⟩, .bool false, .bool false] : Value).cells (n - (i + (n - j)))).toList := ⟨_, rfl⟩
  have hzl : zs.length = (n - (i + (n - j))) * 5 := by rw [hzs', Array.length_toList, zeroCells_size]; rfl
  have hz1 : ∀ u ∈ zs, u.oneCell' = true := by
    intro u hu
    rw [hzs'] at hu
    simp only [Builtin.zeroCells, Value.cells] at hu
    simp at hu
    obtain ⟨k, _, rfl⟩ := hu
    have : k % 5 < 5 := Nat.mod_lt _ (by decide)
    first | rfl | (rcases (show k % 5 = 0 ∨ k % 5 = 1 ∨ k % 5 = 2 ∨ k % 5 = 3 ∨ k % 5 = 4 by omega) with h | h | h | h | h <;> first | (exfalso; omega) | (simp [h]; done) | (simp [h, Value.oneCell']; done) | (simp only [h]; rfl))
  obtain ⟨c2, hc2⟩ : ∃ c2 : Array Value, c2 = (c1.toList.take ((i + (n - j)) * 5) ++ zs ++ c1.toList.drop ((i + (n - j)) * 5 + zs.length)).toArray := ⟨_, rfl⟩
  have hcl : ∀ ty, (Builtin.clear_ #[25] ty #[.slice (some ⟨b, (i + (n - j)) * 5, none⟩) (n - (i + (n - j))) (cap - (i + (n - j)))]).run Tryz.prog W1 = .ok (.tuple #[]) (W1.setRow b c2) := by
    intro ty
    have h2 := run_storeCells_at Tryz.prog b ((i + (n - j)) * 5) e zs 0 c1 W1 hb2 (by omega) hz1
    simp only [Nat.add_zero] at h2
    obtain ⟨m, hm⟩ : ∃ m, n - (i + (n - j)) = m + 1 := ⟨n - (i + (n - j)) - 1, by omega⟩
    rw [hm] at hzs' ⊢
    simp [Builtin.clear_, run_underlying Tryz.underlying25, Tryz.zeroValue51, ← hzs', h2]
    first | done | (rw [hc2]; done) | (rw [hc2, List.append_assoc]; done) | (rw [hc2]; simp)
  have hW : Hid (W1 = w.drew.setCells b (0 + i * 5) news) := hW1
  have hfin : But b w (W1.setRow b c2) ∧ (W1.setRow b c2).heap[b]? = some (.cells c2 e (0, 0)) := by
    refine ⟨?_, setRow_heap W1 b c1 c2 e (0, 0) hb2⟩
    rw [hW1']
    exact ((But.drew w b).trans (But.setRow _ b c1)).trans (But.setRow _ b c2)
  have hc2s : c2.size = cap * 5 := by rw [hc2]; simp; omega
  have hval : c2.toList.take ((i + (n - j)) * 5) = cur.toList.take (i * 5) ++ news := by
    have e1 : c1.toList.take ((i + (n - j)) * 5) = cur.toList.take (i * 5) ++ news := by
      rw [hc1]
      show (cur.toList.take (i * 5) ++ news ++ _).take _ = _
      exact List.take_left' (by simp; omega)
    rw [hc2]
    show (c1.toList.take ((i + (n - j)) * 5) ++ zs ++ _).take _ = _
    rw [List.append_assoc, List.take_left' (by simp; omega), e1]
  have hic : i ≤ cap := by omega
  have hjc : j ≤ cap := by omega
  have hin : i ≤ n := by omega
  have hne : ¬ i = j := by omega
  have hlt : i + (n - j) ≤ n := by omega
  have hltc : ¬ cap = i + (n - j) := by omega
  rw [hnews] at hval
  clear hW1 hW1' hb2 hnews hlen hget hc1 hc2 hzs' hone hzl hz1
  go_enter Tryz.func58, Tryz.ntmps58
  go_wp2_with fail
  go_region_law_o (refine step_append_room rfl (.tmp 22) (.tmp 25) 25 rfl 51 i0 5 Tryz.underlying25 hi0 hzs b 0 i cap (by simp [Act.eval, Act.put]) A (n - j) (cap - j) news (by first | (simp [Act.eval, Act.put]; done) | (simp [Act.eval, Act.put]; exact hA)) s1.out hsrc.out s2.out (by omega) s3.out ?_; rw [← hW.out])
  go_wp2
  go_ret
  exact ⟨rfl, hfin.1, c2, hfin.2, hc2s, hval⟩
end
end Go.Am
end
section
set_option maxRecDepth 100000
set_option maxHeartbeats 0
namespace Go.Am
open Go Go.Proofs Go.RowKit Go.Lib Go.Shelf
noncomputable section
theorem delrunT (b cap i j n : Nat) (cur : Array Value) (e : TypeId) (w : World) (hb : w.heap[b]? = some (.cells cur e (0, 0))) (hij : i < j) (hj : j ≤ n) (hn : n ≤ cap)
    (hcap : cap ≤ 9223372036854775807) (hcur : cur.size = cap * 3) (h1c : ∀ v ∈ cur.toList.take (n * 3), v.oneCell' = true) :
    Calls pg 63 #[.slice (some ⟨b, 0, none⟩) n cap, .int .i64 i, .int .i64 j] w fun r w' => r = .returned (.slice (some ⟨b, 0, none⟩) (i + (n - j)) cap) ∧ But b w w' ∧
      ∃ cur2 : Array Value, w'.heap[b]? = some (.cells cur2 e (0, 0)) ∧ cur2.size = cap * 3 ∧ cur2.toList.take ((i + (n - j)) * 3) = cur.toList.take (i * 3) ++ (cur.toList.take (n * 3)).drop (j * 3) := by
  have mixed := mo
  obtain ⟨i0, hi0, hz0, hzs⟩ : ∃ i0 : TypeInfo, Tryz.prog.info? 65 = some i0 ∧ i0.zero = some (.agg #[.int .i64 0, .string ⟨#[]⟩, .slice none 0 0]) ∧ i0.size = 3 := ⟨(Tryz.prog.info? 65).get (by kernel_rfl), by kernel_rfl, by kernel_rfl, by kernel_rfl⟩
  obtain ⟨news, hnews⟩ : ∃ news, news = (cur.toList.take (n * 3)).drop (j * 3) := ⟨_, rfl⟩
  have hlen : news.length = (n - j) * 3 := by rw [hnews]; simp; omega
  have hget : ∀ t u, news[t]? = some u → cur[j * 3 + t]? = some u := by
    intro t u hu
    rw [hnews, List.getElem?_drop, List.getElem?_take] at hu
    split at hu
    · simpa using hu
    · cases hu
  obtain ⟨A, hA, hsrc⟩ : ∃ A : Addr, (if cap = j then some (⟨b, 0, none⟩ : Addr) else some ⟨b, j * 3, none⟩) = some A ∧ Hid (∀ t u, news[t]? = some u → w.drew.cell? (A.add t) = some u) := by
    by_cases h : cap = j
    · refine ⟨⟨b, 0, none⟩, by simp [h], fun t u hu => ?_⟩
      have h0 : news.length = 0 := by rw [hlen]; omega
      rw [List.length_eq_zero_iff.1 h0] at hu
      simp at hu
    · refine ⟨⟨b, j * 3, none⟩, by simp [h], fun t u hu => ?_⟩
      rw [Addr.add_lit]
      have hb1 : w.drew.heap[b]? = some (.cells cur e (0, 0)) := hb
      simp only [World.cell?, hb1]
      exact hget t u hu
  have hone : ∀ u ∈ news, u.oneCell' = true := fun u hu => h1c u (by rw [hnews] at hu; exact List.mem_of_mem_drop hu)
  have s1 : Hid (news.length = (n - j) * 3) := hlen
  have s2 : Hid (∀ u ∈ news, u.oneCell' = true) := hone
  have s3 : Hid (∀ t, t < news.length → (w.drew.cell? ⟨b, 0 + i * 3 + t, none⟩).isSome = true ∧ w.drew.frozen? ⟨b, 0 + i * 3 + t, none⟩ = false) := by
    intro t ht
    rw [hlen] at ht
    have hb1 : w.drew.heap[b]? = some (.cells cur e (0, 0)) := hb
    refine ⟨?_, by simp [World.frozen?, hb1]⟩
    simp only [World.cell?, hb1]
    rw [Array.getElem?_eq_getElem (by omega)]; rfl
  obtain ⟨c1, hc1⟩ : ∃ c1 : Array Value, c1 = (cur.toList.take (i * 3) ++ news ++ cur.toList.drop (i * 3 + news.length)).toArray := ⟨_, rfl⟩
  have hc1s : c1.size = cap * 3 := by rw [hc1]; simp; omega
  obtain ⟨W1, hW1⟩ : ∃ W1, W1 = w.drew.setCells b (0 + i * 3) news := ⟨_, rfl⟩
  have hW1' : W1 = w.drew.setRow b c1 := by
    have hb1 : w.drew.heap[b]? = some (.cells cur e (0, 0)) := hb
    have h2 := run_storeCells_at Tryz.prog b (i * 3) e news 0 cur w.drew hb1 (by omega) hone
    have h3 := run_storeCells_cells (P := Tryz.prog) b (i * 3) news 0 w.drew (fun t ht => by have := (s3 t ht).1; simpa using this) (fun t ht => by have := (s3 t ht).2; simpa using this) hone
    rw [h2] at h3
    simp only [Nat.add_zero, Result.ok.injEq, true_and] at h3
    rw [hW1, Nat.zero_add, ← h3, hc1]
  have hb2 : W1.heap[b]? = some (.cells c1 e (0, 0)) := by rw [hW1']; exact setRow_heap w.drew b cur c1 e (0, 0) hb
  obtain ⟨zs, hzs'⟩ : ∃ zs : List Value, zs = (Builtin.zeroCells (.agg #[.int .i64 0, .string ⟨#[]⟩, .slice none 0 0] : Value).cells (n - (i + (n - j)))).toList := ⟨_, rfl⟩
  have hzl : zs.length = (n - (i + (n - j))) * 3 := by rw [hzs', Array.length_toList, zeroCells_size]; rfl
  have hz1 : ∀ u ∈ zs, u.oneCell' = true := by
    intro u hu
    rw [hzs'] at hu
    simp only [Builtin.zeroCells, Value.cells] at hu
    simp at hu
    obtain ⟨k, _, rfl⟩ := hu
    have : k % 3 < 3 := Nat.mod_lt _ (by decide)
    first | rfl | (rcases (show k % 3 = 0 ∨ k % 3 = 1 ∨ k % 3 = 2 ∨ k % 3 = 3 ∨ k % 3 = 4 by omega) with h | h | h | h | h <;> first | (exfalso; omega) | (simp [h]; done) | (simp [h, Value.oneCell']; done) | (simp only [h]; rfl))
  obtain ⟨c2, hc2⟩ : ∃ c2 : Array Value, c2 = (c1.toList.take ((i + (n - j)) * 3) ++ zs ++ c1.toList.drop ((i + (n - j)) * 3 + zs.length)).toArray := ⟨_, rfl⟩
  have hcl : ∀ ty, (Builtin.clear_ #[26] ty #[.slice (some ⟨b, (i + (n - j)) * 3, none⟩) (n - (i + (n - j))) (cap - (i + (n - j)))]).run Tryz.prog W1 = .ok (.tuple #[]) (W1.setRow b c2) := by
    intro ty
    have h2 := run_storeCells_at Tryz.prog b ((i + (n - j)) * 3) e zs 0 c1 W1 hb2 (by omega) hz1
    simp only [Nat.add_zero] at h2
    obtain ⟨m, hm⟩ : ∃ m, n - (i + (n - j)) = m + 1 := ⟨n - (i + (n - j)) - 1, by omega⟩
    rw [hm] at hzs' ⊢
    simp [Builtin.clear_, run_underlying Tryz.underlying26, Tryz.zeroValue65, ← hzs', h2]
    first | done | (rw [hc2]; done) | (rw [hc2, List.append_assoc]; done) | (rw [hc2]; simp)
  have hW : Hid (W1 = w.drew.setCells b (0 + i * 3) news) := hW1
  have hfin : But b w (W1.setRow b c2) ∧ (W1.setRow b c2).heap[b]? = some (.cells c2 e (0, 0)) := by
    refine ⟨?_, setRow_heap W1 b c1 c2 e (0, 0) hb2⟩
    rw [hW1']
    exact ((But.drew w b).trans (But.setRow _ b c1)).trans (But.setRow _ b c2)
  have hc2s : c2.size = cap * 3 := by rw [hc2]; simp; omega
  have hval : c2.toList.take ((i + (n - j)) * 3) = cur.toList.take (i * 3) ++ news := by
    have e1 : c1.toList.take ((i + (n - j)) * 3) = cur.toList.take (i * 3) ++ news := by
      rw [hc1]
      show (cur.toList.take (i * 3) ++ news ++ _).take _ = _
      exact List.take_left' (by simp; omega)
    rw [hc2]
    show (c1.toList.take ((i + (n - j)) * 3) ++ zs ++ _).take _ = _
    rw [List.append_assoc, List.take_left' (by simp; omega), e1]
  have hic : i ≤ cap := by omega
  have hjc : j ≤ cap := by omega
  have hin : i ≤ n := by omega
  have hne : ¬ i = j := by omega
  have hlt : i + (n - j) ≤ n := by omega
  have hltc : ¬ cap = i + (n - j) := by omega
  rw [hnews] at hval
  clear hW1 hW1' hb2 hnews hlen hget hc1 hc2 hzs' hone hzl hz1
  go_enter Tryz.func63, Tryz.ntmps63
  go_wp2_with fail
  go_region_law_o (refine step_append_room rfl (.tmp 22) (.tmp 25) 26 rfl 65 i0 3 Tryz.underlying26 hi0 hzs b 0 i cap (by simp [Act.eval, Act.put]) A (n - j) (cap - j) news (by first | (simp [Act.eval, Act.put]; done) | (simp [Act.eval, Act.put]; exact hA)) s1.out hsrc.out s2.out (by omega) s3.out ?_; rw [← hW.out])
  go_wp2
  go_ret
  exact ⟨rfl, hfin.1, c2, hfin.2, hc2s, hval⟩
end
end Go.Am
end
section
set_option maxRecDepth 100000
set_option maxHeartbeats 0
namespace Go.Am
open Go Go.Proofs Go.RowKit Go.Lib Go.Shelf
noncomputable section
theorem delrunC (b cap i j n : Nat) (cur : Array Value) (e : TypeId) (w : World) (hb : w.heap[b]? = some (.cells cur e (0, 0))) (hij : i < j) (hj : j ≤ n) (hn : n ≤ cap)
    (hcap : cap ≤ 9223372036854775807) (hcur : cur.size = cap * 3) (h1c : ∀ v ∈ cur.toList.take (n * 3), v.oneCell' = true) :
    Calls pg 67 #[.slice (some ⟨b, 0, none⟩) n cap, .int .i64 i, .int .i64 j] w fun r w' => r = .returned (.slice (some ⟨b, 0, none⟩) (i + (n - j)) cap) ∧ But b w w' ∧
      ∃ cur2 : Array Value, w'.heap[b]? = some (.cells cur2 e (0, 0)) ∧ cur2.size = cap * 3 ∧ cur2.toList.take ((i + (n - j)) * 3) = cur.toList.take (i * 3) ++ (cur.toList.take (n * 3)).drop (j * 3) := by
  have mixed := mo
  obtain ⟨i0, hi0, hz0, hzs⟩ : ∃ i0 : TypeInfo, Tryz.prog.info? 67 = some i0 ∧ i0.zero = some (.agg #[.int .i64 0, .string ⟨#[]⟩, .string ⟨#[]⟩]) ∧ i0.size = 3 := ⟨(Tryz.prog.info? 67).get (by kernel_rfl), by kernel_rfl, by kernel_rfl, by kernel_rfl⟩
  obtain ⟨news, hnews⟩ : ∃ news, news = (cur.toList.take (n * 3)).drop (j * 3) := ⟨_, rfl⟩
  have hlen : news.length = (n - j) * 3 := by rw [hnews]; simp; omega
  have hget : ∀ t u, news[t]? = some u → cur[j * 3 + t]? = some u := by
    intro t u hu
    rw [hnews, List.getElem?_drop, List.getElem?_take] at hu
    split at hu
    · simpa using hu
    · cases hu
  obtain ⟨A, hA, hsrc⟩ : ∃ A : Addr, (if cap = j then some (⟨b, 0, none⟩ : Addr) else some ⟨b, j * 3, none⟩) = some A ∧ Hid (∀ t u, news[t]? = some u → w.drew.cell? (A.add t) = some u) := by
    by_cases h : cap = j
    · refine ⟨⟨b, 0, none⟩, by simp [h], fun t u hu => ?_⟩
      have h0 : news.length = 0 := by rw [hlen]; omega
      rw [List.length_eq_zero_iff.1 h0] at hu
      simp at hu
    · refine ⟨⟨b, j * 3, none⟩, by simp [h], fun t u hu => ?_⟩
      rw [Addr.add_lit]
      have hb1 : w.drew.heap[b]? = some (.cells cur e (0, 0)) := hb
      simp only [World.cell?, hb1]
      exact hget t u hu
  have hone : ∀ u ∈ news, u.oneCell' = true := fun u hu => h1c u (by rw [hnews] at hu; exact List.mem_of_mem_drop hu)
  have s1 : Hid (news.length = (n - j) * 3) := hlen
  have s2 : Hid (∀ u ∈ news, u.oneCell' = true) := hone
  have s3 : Hid (∀ t, t < news.length → (w.drew.cell? ⟨b, 0 + i * 3 + t, none⟩).isSome = true ∧ w.drew.frozen? ⟨b, 0 + i * 3 + t, none⟩ = false) := by
    intro t ht
    rw [hlen] at ht
    have hb1 : w.drew.heap[b]? = some (.cells cur e (0, 0)) := hb
    refine ⟨?_, by simp [World.frozen?, hb1]⟩
    simp only [World.cell?, hb1]
    rw [Array.getElem?_eq_getElem (by omega)]; rfl
  obtain ⟨c1, hc1⟩ : ∃ c1 : Array Value, c1 = (cur.toList.take (i * 3) ++ news ++ cur.toList.drop (i * 3 + news.length)).toArray := ⟨_, rfl⟩
  have hc1s : c1.size = cap * 3 := by rw [hc1]; simp; omega
  obtain ⟨W1, hW1⟩ : ∃ W1, W1 = w.drew.setCells b (0 + i * 3) news := ⟨_, rfl⟩
  have hW1' : W1 = w.drew.setRow b c1 := by
    have hb1 : w.drew.heap[b]? = some (.cells cur e (0, 0)) := hb
    have h2 := run_storeCells_at Tryz.prog b (i * 3) e news 0 cur w.drew hb1 (by omega) hone
    have h3 := run_storeCells_cells (P := Tryz.prog) b (i * 3) news 0 w.drew (fun t ht => by have := (s3 t ht).1; simpa using this) (fun t ht => by have := (s3 t ht).2; simpa using this) hone
    rw [h2] at h3
    simp only [Nat.add_zero, Result.ok.injEq, true_and] at h3
    rw [hW1, Nat.zero_add, ← h3, hc1]
  have hb2 : W1.heap[b]? = some (.cells c1 e (0, 0)) := by rw [hW1']; exact setRow_heap w.drew b cur c1 e (0, 0) hb
  obtain ⟨zs, hzs'⟩ : ∃ zs : List Value, zs = (Builtin.zeroCells (.agg #[.int .i64 0, .string ⟨#[]⟩, .string ⟨#[]⟩] : Value).cells (n - (i + (n - j)))).toList := ⟨_, rfl⟩
  have hzl : zs.length = (n - (i + (n - j))) * 3 := by rw [hzs', Array.length_toList, zeroCells_size]; rfl
  have hz1 : ∀ u ∈ zs, u.oneCell' = true := by
    intro u hu
    rw [hzs'] at hu
    simp only [Builtin.zeroCells, Value.cells] at hu
    simp at hu
    obtain ⟨k, _, rfl⟩ := hu
    have : k % 3 < 3 := Nat.mod_lt _ (by decide)
    first | rfl | (rcases (show k % 3 = 0 ∨ k % 3 = 1 ∨ k % 3 = 2 ∨ k % 3 = 3 ∨ k % 3 = 4 by omega) with h | h | h | h | h <;> first | (exfalso; omega) | (simp [h]; done) | (simp [h, Value.oneCell']; done) | (simp only [h]; rfl))
  obtain ⟨c2, hc2⟩ : ∃ c2 : Array Value, c2 = (c1.toList.take ((i + (n - j)) * 3) ++ zs ++ c1.toList.drop ((i + (n - j)) * 3 + zs.length)).toArray := ⟨_, rfl⟩
  have hcl : ∀ ty, (Builtin.clear_ #[27] ty #[.slice (some ⟨b, (i + (n - j)) * 3, none⟩) (n - (i + (n - j))) (cap - (i + (n - j)))]).run Tryz.prog W1 = .ok (.tuple #[]) (W1.setRow b c2) := by
    intro ty
    have h2 := run_storeCells_at Tryz.prog b ((i + (n - j)) * 3) e zs 0 c1 W1 hb2 (by omega) hz1
    simp only [Nat.add_zero] at h2
    obtain ⟨m, hm⟩ : ∃ m, n - (i + (n - j)) = m + 1 := ⟨n - (i + (n - j)) - 1, by omega⟩
    rw [hm] at hzs' ⊢
    simp [Builtin.clear_, run_underlying Tryz.underlying27, Tryz.zeroValue67, ← hzs', h2]
    first | done | (rw [hc2]; done) | (rw [hc2, List.append_assoc]; done) | (rw [hc2]; simp)
  have hW : Hid (W1 = w.drew.setCells b (0 + i * 3) news) := hW1
  have hfin : But b w (W1.setRow b c2) ∧ (W1.setRow b c2).heap[b]? = some (.cells c2 e (0, 0)) := by
    refine ⟨?_, setRow_heap W1 b c1 c2 e (0, 0) hb2⟩
    rw [hW1']
    exact ((But.drew w b).trans (But.setRow _ b c1)).trans (But.setRow _ b c2)
  have hc2s : c2.size = cap * 3 := by rw [hc2]; simp; omega
  have hval : c2.toList.take ((i + (n - j)) * 3) = cur.toList.take (i * 3) ++ news := by
    have e1 : c1.toList.take ((i + (n - j)) * 3) = cur.toList.take (i * 3) ++ news := by
      rw [hc1]
      show (cur.toList.take (i * 3) ++ news ++ _).take _ = _
      exact List.take_left' (by simp; omega)
    rw [hc2]
    show (c1.toList.take ((i + (n - j)) * 3) ++ zs ++ _).take _ = _
    rw [List.append_assoc, List.take_left' (by simp; omega), e1]
  have hic : i ≤ cap := by omega
  have hjc : j ≤ cap := by omega
  have hin : i ≤ n := by omega
  have hne : ¬ i = j := by omega
  have hlt : i + (n - j) ≤ n := by omega
  have hltc : ¬ cap = i + (n - j) := by omega
  rw [hnews] at hval
  clear hW1 hW1' hb2 hnews hlen hget hc1 hc2 hzs' hone hzl hz1
  go_enter Tryz.func67, Tryz.ntmps67
  go_wp2_with fail
  go_region_law_o (refine step_append_room rfl (.tmp 22) (.tmp 25) 27 rfl 67 i0 3 Tryz.underlying27 hi0 hzs b 0 i cap (by simp [Act.eval, Act.put]) A (n - j) (cap - j) news (by first | (simp [Act.eval, Act.put]; done) | (simp [Act.eval, Act.put]; exact hA)) s1.out hsrc.out s2.out (by omega) s3.out ?_; rw [← hW.out])
  go_wp2
  go_ret
  exact ⟨rfl, hfin.1, c2, hfin.2, hc2s, hval⟩
end
end Go.Am
end
section
namespace Go.Am
open Go
noncomputable section
theorem delB_ok (L : List V) (i : Nat) (hi : i < L.length) (hes : ∀ y ∈ L, y.cells.length = 5) : ACallM pg 58 [.uq L] [I i, I ((i : Int) + 1)] (.sl (pvL (L.take i ++ L.drop (i + 1)))) [.any] :=
  del_gen (by omega) (by kernel_rfl) (fun b cap i n cur e w h1 h2 h3 h4 h5 h6 h7 => delrunB b cap i (i + 1) n cur e w h1 h2 h3 h4 h5 h6 h7) L i hi hes
theorem delT_ok (L : List V) (i : Nat) (hi : i < L.length) (hes : ∀ y ∈ L, y.cells.length = 3) : ACallM pg 63 [.uq L] [I i, I ((i : Int) + 1)] (.sl (pvL (L.take i ++ L.drop (i + 1)))) [.any] :=
  del_gen (by omega) (by kernel_rfl) (fun b cap i n cur e w h1 h2 h3 h4 h5 h6 h7 => delrunT b cap i (i + 1) n cur e w h1 h2 h3 h4 h5 h6 h7) L i hi hes
theorem delC_ok (L : List V) (i : Nat) (hi : i < L.length) (hes : ∀ y ∈ L, y.cells.length = 3) : ACallM pg 67 [.uq L] [I i, I ((i : Int) + 1)] (.sl (pvL (L.take i ++ L.drop (i + 1)))) [.any] :=
  del_gen (by omega) (by kernel_rfl) (fun b cap i n cur e w h1 h2 h3 h4 h5 h6 h7 => delrunC b cap i (i + 1) n cur e w h1 h2 h3 h4 h5 h6 h7) L i hi hes
end
end Go.Am
end
