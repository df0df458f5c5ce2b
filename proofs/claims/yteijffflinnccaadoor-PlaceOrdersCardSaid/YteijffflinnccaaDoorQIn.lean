/- Part of the proof of a law of placing. -/
import Derived.Test.YteijffflinnccaaDoorQData
import Derived.Test.YteijffflinnccaaDoorQIn0
import Derived.Test.YteijffflinnccaaDoorChecked
import Derived.WalkKit
import Derived.Lib.Overlaps
import Derived.Lib.AppendZerosOnto
set_option linter.all false
set_option maxRecDepth 100000
set_option maxHeartbeats 0
namespace Go.Am
open Go Go.Proofs Go.RowKit Go.Lib
noncomputable section
theorem ins_shift (b cap vb vc i n : Nat) (cur curx : Array Value) (e ex : TypeId) (w : World) (hb : w.heap[b]? = some (.cells cur e (0, 0))) (hx : w.heap[vb]? = some (.cells curx ex (0, 0))) (hne : vb ≠ b) (hi : i < n) (hroom : n + 1 ≤ cap)
    (hcap : cap ≤ 9223372036854775807) (hcur : cur.size = cap * 2) (hxs : 2 ≤ curx.size) (h1c : ∀ v ∈ cur.toList.take (n * 2), v.oneCell' = true) (h1x : ∀ v ∈ curx.toList.take 2, v.oneCell' = true) :
    Calls pg 36 #[.slice (some ⟨b, 0, none⟩) n cap, .int .i64 i, .slice (some ⟨vb, 0, none⟩) 1 vc] w fun r w' => r = .returned (.slice (some ⟨b, 0, none⟩) (n + 1) cap) ∧ But b w w' ∧
      ∃ cur2 : Array Value, w'.heap[b]? = some (.cells cur2 e (0, 0)) ∧ cur2.size = cap * 2 ∧ cur2.toList.take ((n + 1) * 2) = cur.toList.take (i * 2) ++ curx.toList.take 2 ++ (cur.toList.take (n * 2)).drop (i * 2) := by
  have mixed := mo
  have hov : ∀ lb cb, (callFunc 46 #[.slice (some ⟨vb, 0, none⟩) 1 vc, .slice (some ⟨b, (i + 1) * 2, none⟩) lb cb]).run Tryd.prog w = .ok (.value (.bool false)) w := fun lb cb => by
    rw [run_callFunc_extern Tryd.func46 (by kernel_rfl) (by kernel_rfl) (by kernel_rfl) (e := Extern.SlicesOverlaps.overlaps #[52, 52] #[4]) (by kernel_rfl),
      Lib.run_overlaps_apart w 52 4 55 Tryd.underlying52 2 Tryd.sizeOf55 ⟨vb, 0, none⟩ ⟨b, (i + 1) * 2, none⟩ 1 vc lb cb hne ex e curx.size cur.size (by simp [World.shape?, hx]) (by simp [World.shape?, hb]) (by omega) (by simp [World.frozen?, hx]) (by simp [World.frozen?, hx])]
    rfl
  have hz2 : ¬ ((i : Int) = (n : Int)) := by omega
  have hw1 : IntKind.i64.wrap ((n : Int) + 1) = (n : Int) + 1 := by rw [IntKind.wrap_i64]; omega
  have hw2 : IntKind.i64.wrap ((i : Int) + 1) = (i : Int) + 1 := by rw [IntKind.wrap_i64]; omega
  have hz3 : ¬ ((cap : Int) < (n : Int) + 1) := by omega
  have htn : ((i : Int) + 1).toNat = i + 1 := by omega
  have hinf : (Tryd.prog.info? 55).map (·.size) = some 2 := by kernel_rfl
  obtain ⟨mv, hmv⟩ : ∃ mv, mv = (cur.toList.take (n * 2)).drop (i * 2) := ⟨_, rfl⟩
  obtain ⟨xs, hxs'⟩ : ∃ xs, xs = curx.toList.take 2 := ⟨_, rfl⟩
  have hxl : xs.length = 2 := by rw [hxs']; simp; omega
  have hml : mv.length = (n - i) * 2 := by rw [hmv]; simp; omega
  obtain ⟨c1, hc1⟩ : ∃ c1 : Array Value, c1 = (cur.toList.take ((i + 1) * 2) ++ mv ++ cur.toList.drop ((i + 1) * 2 + mv.length)).toArray := ⟨_, rfl⟩
  have hc1s : c1.size = cap * 2 := by rw [hc1]; simp [hml]; omega
  obtain ⟨c2, hc2⟩ : ∃ c2 : Array Value, c2 = (c1.toList.take (i * 2) ++ xs ++ c1.toList.drop (i * 2 + xs.length)).toArray := ⟨_, rfl⟩
  have hc2s : c2.size = cap * 2 := by rw [hc2]; simp [hxl, hc1s]; omega
  have hb1 : w.drew.heap[b]? = some (.cells cur e (0, 0)) := hb
  have hcp1 : ∀ ty dc sc, (Builtin.copy_ #[52, 52] ty #[.slice (some ⟨b, (i + 1) * 2, none⟩) (n - i) dc, .slice (some ⟨b, i * 2, none⟩) (n + 1 - i) sc]).run Tryd.prog w.drew = .ok (goInt ((n - i : Nat) : Int)) (w.drew.setRow b c1) := fun ty dc sc => by
    have := run_copy_rowE (P := Tryd.prog) w.drew 52 52 ty 55 b ((i + 1) * 2) (n - i) dc ⟨b, i * 2, none⟩ (n + 1 - i) sc 2 (n - i) cur e mv Tryd.underlying52 hinf hb1 (by simp only [Nat.min_def]; split <;> omega) hml
      (fun j v hj => by
        rw [Addr.add_lit, hmv, List.getElem?_drop, List.getElem?_take] at *
        split at hj
        · simp only [World.cell?, hb1]; simpa using hj
        · cases hj) (by rw [hml, hcur]; omega) (fun v hv => h1c v (by rw [hmv] at hv; exact List.mem_of_mem_drop hv))
    rw [this, ← hc1]
  have hb2 : ∀ W : World, W.heap = (w.drew.setRow b c1).heap → W.heap[b]? = some (.cells c1 e (0, 0)) := fun W hW => by rw [hW]; exact setRow_heap w.drew b cur c1 e (0, 0) hb1
  have hx2 : ∀ W : World, W.heap = (w.drew.setRow b c1).heap → W.heap[vb]? = some (.cells curx ex (0, 0)) := fun W hW => by rw [hW, (But.setRow w.drew b c1).block vb hne]; exact hx
  have hcp2 : ∀ W : World, W.heap = (w.drew.setRow b c1).heap → ∀ ty dc, (Builtin.copy_ #[52, 52] ty #[.slice (some ⟨b, i * 2, none⟩) (n + 1 - i) dc, .slice (some ⟨vb, 0, none⟩) 1 vc]).run Tryd.prog W = .ok (goInt ((1 : Nat) : Int)) (W.setRow b c2) := fun W hW ty dc => by
    have := run_copy_rowE (P := Tryd.prog) W 52 52 ty 55 b (i * 2) (n + 1 - i) dc ⟨vb, 0, none⟩ 1 vc 2 1 c1 e xs Tryd.underlying52 hinf (hb2 W hW) (by simp only [Nat.min_def]; split <;> omega) (by omega)
      (fun j v hj => by
        rw [Addr.add_lit, hxs', List.getElem?_take] at *
        split at hj
        · simp only [World.cell?, hx2 W hW]; simpa using hj
        · cases hj) (by rw [hxl, hc1s]; omega) (fun v hv => h1x v (by rw [← hxs']; exact hv))
    rw [this, ← hc2]
  have hfin : But b w ((w.drew.setRow b c1).setRow b c2) ∧ ((w.drew.setRow b c1).setRow b c2).heap[b]? = some (.cells c2 e (0, 0)) := by
    refine ⟨((But.drew w b).trans (But.setRow _ b c1)).trans (But.setRow _ b c2), setRow_heap _ b c1 c2 e (0, 0) (hb2 _ rfl)⟩
  have hval : c2.toList.take ((n + 1) * 2) = cur.toList.take (i * 2) ++ curx.toList.take 2 ++ (cur.toList.take (n * 2)).drop (i * 2) := by
    rw [← hmv, ← hxs']
    have e1 : c1.toList.take (i * 2) = cur.toList.take (i * 2) := by
      rw [hc1]
      show (cur.toList.take ((i + 1) * 2) ++ mv ++ _).take (i * 2) = _
      rw [List.append_assoc, List.take_append_of_le_length (by simp; omega), List.take_take, Nat.min_eq_left (by omega)]
    have e2 : c1.toList.drop (i * 2 + xs.length) = mv ++ cur.toList.drop ((i + 1) * 2 + mv.length) := by
      rw [hc1]
      show (cur.toList.take ((i + 1) * 2) ++ mv ++ _).drop _ = _
      rw [List.append_assoc]
      exact List.drop_left' (by simp; omega)
    rw [hc2, e1, e2]
    show (cur.toList.take (i * 2) ++ xs ++ (mv ++ _)).take _ = _
    rw [← List.append_assoc]
    exact List.take_left' (by simp [hxl, hml]; omega)
  have hq1 : (0 : Int) ≤ (i : Int) + 1 := by omega
  have hin : i ≤ n := by omega
  have hq2 : ¬ (cap = i + 1) := by omega
  have hq3 : (i : Int) ≤ (n : Int) + 1 := by omega
  have hq4 : ¬ (cap = i) := by omega
  clear hmv hxs' hc1 hc2
  go_enter Tryd.func36, Tryd.ntmps36
  go_wp2_with (simp only [hov])
  go_region_law_o (refine step_copy_runI rfl _ _ 52 52 rfl _ _ (by simp [Act.eval, Act.put]) (by simp [Act.eval, Act.put]) (hcp1 _ _ _) ?_)
  go_wp2_with (at_builtin; refine wpList_copy_runI _ rfl _ _ 52 52 rfl _ _ rfl rfl (hcp2 _ rfl _ _) ?_)
  go_ret
  exact ⟨rfl, hfin.1, c2, hfin.2, hc2s, hval⟩
structure New (w w' : World) : Prop where
  os : w'.os = w.os
  tape : w'.tape = w.tape
  output : w'.output = w.output
  size : w'.heap.size = w.heap.size + 1
  block : ∀ k, k < w.heap.size → w'.heap[k]? = w.heap[k]?
theorem New.of {w w' : World} (r r1 : Array Value) (e : TypeId) (h1 : w'.os = w.os) (h2 : w'.tape = w.tape) (h3 : w'.output = w.output) (h4 : w'.heap = ((w.alloc (.cells r e)).setRow w.heap.size r1).heap) : New w w' := by
  refine ⟨h1, h2, h3, by rw [h4]; simp [World.setRow], fun k hk => ?_⟩
  rw [h4, (But.setRow _ w.heap.size r1).block k (by omega)]
  exact Below.heap_alloc w _ k hk
theorem ins_grow (b cap vb vc i n : Nat) (cur curx : Array Value) (e ex : TypeId) (w : World) (hb : w.heap[b]? = some (.cells cur e (0, 0))) (hx : w.heap[vb]? = some (.cells curx ex (0, 0))) (hi : i < n) (hnc : n ≤ cap) (hroom : cap < n + 1)
    (hn : n ≤ 1000000) (hcur : cur.size = cap * 2) (hxs : 2 ≤ curx.size) (h1c : ∀ v ∈ cur.toList.take (n * 2), v.oneCell' = true) (h1x : ∀ v ∈ curx.toList.take 2, v.oneCell' = true) :
    Calls pg 36 #[.slice (some ⟨b, 0, none⟩) n cap, .int .i64 i, .slice (some ⟨vb, 0, none⟩) 1 vc] w fun r w' => ∃ G, r = .returned (.slice (some ⟨w.heap.size, 0, none⟩) (n + 1) G) ∧ n + 1 ≤ G ∧ G ≤ maxLen ∧ New w w' ∧
      ∃ cur2 : Array Value, w'.heap[w.heap.size]? = some (.cells cur2 55 (0, 0)) ∧ cur2.size = G * 2 ∧ cur2.toList.take ((n + 1) * 2) = cur.toList.take (i * 2) ++ curx.toList.take 2 ++ (cur.toList.take (n * 2)).drop (i * 2) := by
  have mixed := mo
  obtain ⟨i0, hi0, hz0, hzs, hzb⟩ : ∃ i0 : TypeInfo, Tryd.prog.info? 55 = some i0 ∧ i0.zero = some (.agg #[.string ⟨#[]⟩, .slice none 0 0]) ∧ i0.size = 2 ∧ i0.bytes = 40 := ⟨(Tryd.prog.info? 55).get (by kernel_rfl), by kernel_rfl, by kernel_rfl, by kernel_rfl, by kernel_rfl⟩
  have hinf : (Tryd.prog.info? 55).map (·.size) = some 2 := by rw [hi0]; simp [hzs]
  have hz2 : ¬ ((i : Int) = (n : Int)) := by omega
  have hw1 : IntKind.i64.wrap ((n : Int) + 1) = (n : Int) + 1 := by rw [IntKind.wrap_i64]; omega
  have hw2 : IntKind.i64.wrap ((i : Int) + 1) = (i : Int) + 1 := by rw [IntKind.wrap_i64]; omega
  have hw3 : IntKind.i64.wrap ((n : Int) + 1 - (i : Int)) = (n : Int) + 1 - (i : Int) := by rw [IntKind.wrap_i64]; omega
  have hz3 : (cap : Int) < (n : Int) + 1 := by omega
  have htn : ((i : Int) + 1).toNat = i + 1 := by omega
  have hbw : b < w.heap.size := (Array.getElem?_eq_some_iff.1 hb).1
  have hvw : vb < w.heap.size := (Array.getElem?_eq_some_iff.1 hx).1
  obtain ⟨mv, hmv⟩ : ∃ mv, mv = (cur.toList.take (n * 2)).drop (i * 2) := ⟨_, rfl⟩
  obtain ⟨xs, hxs'⟩ : ∃ xs, xs = curx.toList.take 2 := ⟨_, rfl⟩
  have hxl : xs.length = 2 := by rw [hxs']; simp; omega
  have hml : mv.length = (n - i) * 2 := by rw [hmv]; simp; omega
  have hold : (Builtin.firstCells i0.size i (.slice (some ⟨b, 0, none⟩) i cap)).run Tryd.prog w.drew = .ok (cur.toList.take (i * 2)).toArray w.drew := by
    rw [hzs]
    exact run_firstCells_some w.drew 2 i ⟨b, 0, none⟩ i cap (cur.toList.take (i * 2)) (by simp; omega) (fun j v hj => by
      rw [Addr.add_lit]
      rw [List.getElem?_take] at hj
      split at hj
      · have hb1 : w.drew.heap[b]? = some (.cells cur e (0, 0)) := hb
        simp only [World.cell?, hb1]; simpa using hj
      · cases hj)
  have hik : i + (n + 1 - i) = n + 1 := by omega
  have hkk : (n : Int) + 1 - (i : Int) = ((n + 1 - i : Nat) : Int) := by omega
  have hbig : (n + 1) * 40 ≤ 140737488355328 := by omega
  have hrz : ∀ ty, (Builtin.append_ #[52, 3] ty #[.slice (some ⟨b, 0, none⟩) i cap, .int .i64 ((n : Int) + 1 - (i : Int))]).run Tryd.prog w =
      .ok (.slice (some ⟨w.heap.size, 0, none⟩) (n + 1) (grownCap w (n + 1) cap 55)) (w.drew.alloc (.cells ((cur.toList.take (i * 2)).toArray ++ Builtin.zeroCells #[.string ⟨#[]⟩, .slice none 0 0] (n + 1 - i) ++ Builtin.zeroCells #[.string ⟨#[]⟩, .slice none 0 0] (grownCap w (n + 1) cap 55 - (n + 1))) 55)) := fun ty => by
    have h := Lib.run_append_grow_zeros w 52 3 ty 55 i0 _ .i64 .i64 Tryd.underlying52 Tryd.underlying3 hi0 hz0 (some ⟨b, 0, none⟩) i cap (cur.toList.take (i * 2)) hold (n + 1 - i) (by omega) (by omega) (by omega) (by omega) (by rw [hzb]; omega) (by rw [hzb, hik]; exact growslice_fits hroom hbig)
    rw [hik] at h
    rw [hkk]
    exact h
  obtain ⟨G, hG⟩ : ∃ G, G = grownCap w (n + 1) cap 55 := ⟨_, rfl⟩
  rw [← hG] at hrz
  have hGn : n + 1 ≤ G := by rw [hG]; exact grownCap_ge w _ _ _
  have hG63 : G ≤ maxLen := by
    rw [hG]; exact grownCap_le_maxLen w (n + 1) cap 55 (by unfold maxLen; omega)
  have hG63' : G ≤ 9223372036854775807 := hG63
  obtain ⟨ROW, hROW⟩ : ∃ ROW : Array Value, ROW = (cur.toList.take (i * 2)).toArray ++ Builtin.zeroCells #[.string ⟨#[]⟩, .slice none 0 0] (n + 1 - i) ++ Builtin.zeroCells #[.string ⟨#[]⟩, .slice none 0 0] (G - (n + 1)) := ⟨_, rfl⟩
  rw [← hROW] at hrz
  have hRs : ROW.size = G * 2 := by
    rw [hROW]
    simp [zeroCells_size]; omega
  obtain ⟨r2, hr2⟩ : ∃ r2 : Array Value, r2 = (ROW.toList.take (i * 2) ++ xs ++ ROW.toList.drop (i * 2 + xs.length)).toArray := ⟨_, rfl⟩
  have hr2s : r2.size = G * 2 := by rw [hr2]; simp [hxl, hRs]; omega
  obtain ⟨r3, hr3⟩ : ∃ r3 : Array Value, r3 = (r2.toList.take ((i + 1) * 2) ++ mv ++ r2.toList.drop ((i + 1) * 2 + mv.length)).toArray := ⟨_, rfl⟩
  have hr3s : r3.size = G * 2 := by rw [hr3]; simp [hml, hr2s]; omega
  have hNn : ∀ W : World, W.heap = (w.alloc (.cells ROW 55)).heap → W.heap[w.heap.size]? = some (.cells ROW 55 (0, 0)) := fun W hW => by rw [hW]; show (w.heap.push _)[w.heap.size]? = _; simp
  have hold2 : ∀ (W : World) (k : Nat), W.heap = (w.alloc (.cells ROW 55)).heap → k < w.heap.size → W.heap[k]? = w.heap[k]? := fun W k hW hk => by rw [hW]; exact Below.heap_alloc w _ k hk
  have hcpA : ∀ W : World, W.heap = (w.alloc (.cells ROW 55)).heap → ∀ ty dc, (Builtin.copy_ #[52, 52] ty #[.slice (some ⟨w.heap.size, i * 2, none⟩) (n + 1 - i) dc, .slice (some ⟨vb, 0, none⟩) 1 vc]).run Tryd.prog W = .ok (goInt ((1 : Nat) : Int)) (W.setRow w.heap.size r2) := fun W hW ty dc => by
    have := run_copy_rowE (P := Tryd.prog) W 52 52 ty 55 w.heap.size (i * 2) (n + 1 - i) dc ⟨vb, 0, none⟩ 1 vc 2 1 ROW 55 xs Tryd.underlying52 hinf (hNn W hW) (by simp only [Nat.min_def]; split <;> omega) (by omega)
      (fun j v hj => by
        rw [Addr.add_lit, hxs', List.getElem?_take] at *
        split at hj
        · simp only [World.cell?, hold2 W vb hW hvw, hx]; simpa using hj
        · cases hj) (by rw [hxl, hRs]; omega) (fun v hv => h1x v (by rw [← hxs']; exact hv))
    rw [this, ← hr2]
  have hcpB : ∀ W : World, W.heap = ((w.alloc (.cells ROW 55)).setRow w.heap.size r2).heap → ∀ ty dc sc, (Builtin.copy_ #[52, 52] ty #[.slice (some ⟨w.heap.size, (i + 1) * 2, none⟩) (n - i) dc, .slice (some ⟨b, i * 2, none⟩) (n - i) sc]).run Tryd.prog W = .ok (goInt ((n - i : Nat) : Int)) (W.setRow w.heap.size r3) := fun W hW ty dc sc => by
    have hbb : W.heap[b]? = some (.cells cur e (0, 0)) := by rw [hW, (But.setRow _ w.heap.size r2).block b (by omega), hold2 _ b rfl hbw]; exact hb
    have hnn : W.heap[w.heap.size]? = some (.cells r2 55 (0, 0)) := by rw [hW]; exact setRow_heap _ _ ROW r2 55 (0, 0) (hNn _ rfl)
    have := run_copy_rowE (P := Tryd.prog) W 52 52 ty 55 w.heap.size ((i + 1) * 2) (n - i) dc ⟨b, i * 2, none⟩ (n - i) sc 2 (n - i) r2 55 mv Tryd.underlying52 hinf hnn (by simp only [Nat.min_def]; split <;> omega) hml
      (fun j v hj => by
        rw [Addr.add_lit, hmv, List.getElem?_drop, List.getElem?_take] at *
        split at hj
        · simp only [World.cell?, hbb]; simpa using hj
        · cases hj) (by rw [hml, hr2s]; omega) (fun v hv => h1c v (by rw [hmv] at hv; exact List.mem_of_mem_drop hv))
    rw [this, ← hr3]
  have hfin : ((((w.alloc (.cells ROW 55)).setRow w.heap.size r2).setRow w.heap.size r3)).heap[w.heap.size]? = some (.cells r3 55 (0, 0)) := setRow_heap _ _ r2 r3 55 (0, 0) (setRow_heap _ _ ROW r2 55 (0, 0) (hNn _ rfl))
  have hss : (((w.alloc (.cells ROW 55)).setRow w.heap.size r2).setRow w.heap.size r3) = (w.alloc (.cells ROW 55)).setRow w.heap.size r3 := setRow_setRow _ _ _ _
  have hval : r3.toList.take ((n + 1) * 2) = cur.toList.take (i * 2) ++ curx.toList.take 2 ++ (cur.toList.take (n * 2)).drop (i * 2) := by
    rw [← hmv, ← hxs']
    have e0 : ROW.toList.take (i * 2) = cur.toList.take (i * 2) := by
      rw [hROW]
      simp only [Array.toList_append]
      rw [List.append_assoc]
      exact List.take_left' (by simp; omega)
    have e1 : r2.toList.take ((i + 1) * 2) = cur.toList.take (i * 2) ++ xs := by
      rw [hr2]
      show (ROW.toList.take (i * 2) ++ xs ++ _).take _ = _
      rw [e0]
      exact List.take_left' (by simp [hxl]; omega)
    rw [hr3, e1]
    show (cur.toList.take (i * 2) ++ xs ++ mv ++ _).take _ = _
    exact List.take_left' (by simp [hxl, hml]; omega)
  have hq1 : (0 : Int) ≤ (i : Int) + 1 := by omega
  have hin : i ≤ n := by omega
  have hq2 : ¬ (G = i + 1) := by omega
  have hq3 : (i : Int) ≤ (n : Int) + 1 := by omega
  have hq4 : ¬ (G = i) := by omega
  have hq5 : ¬ (cap = i) := by omega
  have hq6 : (i : Int) ≤ (n : Int) := by omega
  clear hkk hik hold hROW hG hmv hxs' hr2 hr3 e hb
  go_enter Tryd.func36, Tryd.ntmps36
  go_wp2_with (first
    | (at_builtin; refine Lib.wpList_append_run _ rfl _ _ _ _ rfl _ _ rfl rfl _ _ (hrz _) ?_)
    | (refine wpList_copy_runI _ rfl _ _ 52 52 rfl _ _ rfl rfl (hcpA _ (by exact rfl) _ _) ?_))
  go_region_law_o (refine step_copy_runI rfl _ _ 52 52 rfl (.slice (some ⟨w.heap.size, (i + 1) * 2, none⟩) (n - i) (G - (i + 1))) (.slice (some ⟨b, i * 2, none⟩) (n - i) (cap - i)) (by simp [Act.eval, Act.put]) (by simp [Act.eval, Act.put]) (hcpB ((w.alloc (.cells ROW 55)).drew.setRow w.heap.size r2).drew rfl 3 (G - (i + 1)) (cap - i)) ?_)
  go_wp2
  go_ret
  exact ⟨G, rfl, hGn, hG63, .of ROW r3 55 rfl rfl rfl (by rw [← hss]; rfl), r3, hfin, hr3s, hval⟩
end
end Go.Am
