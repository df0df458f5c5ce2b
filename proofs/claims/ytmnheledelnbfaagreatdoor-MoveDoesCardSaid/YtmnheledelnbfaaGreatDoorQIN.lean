/- Part of the proof of a law of moving. -/
import Derived.Test.YtmnheledelnbfaaGreatDoorQApp
import Derived.Test.YtmnheledelnbfaaGreatDoorQData
import Derived.Test.YtmnheledelnbfaaGreatDoorQIn0
import Derived.Test.YtmnheledelnbfaaGreatDoorChecked
import Derived.WalkKit
import Derived.Lib.Overlaps
import Derived.Lib.AppendZerosOnto
set_option linter.all false
section
set_option maxRecDepth 100000
set_option maxHeartbeats 0
namespace Go.Am
open Go Go.Proofs Go.RowKit Go.Lib
noncomputable section
theorem ins_shift (b cap vb vc i n : Nat) (cur curx : Array Value) (e ex : TypeId) (w : World) (hb : w.heap[b]? = some (.cells cur e (0, 0))) (hx : w.heap[vb]? = some (.cells curx ex (0, 0))) (hne : vb ≠ b) (hi : i < n) (hroom : n + 1 ≤ cap)
    (hcap : cap ≤ 9223372036854775807) (hcur : cur.size = cap * 2) (hxs : 2 ≤ curx.size) (h1c : ∀ v ∈ cur.toList.take (n * 2), v.oneCell' = true) (h1x : ∀ v ∈ curx.toList.take 2, v.oneCell' = true) :
    Calls pg 107 #[.slice (some ⟨b, 0, none⟩) n cap, .int .i64 i, .slice (some ⟨vb, 0, none⟩) 1 vc] w fun r w' => r = .returned (.slice (some ⟨b, 0, none⟩) (n + 1) cap) ∧ But b w w' ∧
      ∃ cur2 : Array Value, w'.heap[b]? = some (.cells cur2 e (0, 0)) ∧ cur2.size = cap * 2 ∧ cur2.toList.take ((n + 1) * 2) = cur.toList.take (i * 2) ++ curx.toList.take 2 ++ (cur.toList.take (n * 2)).drop (i * 2) := by
  have mixed := mo
  have hov : ∀ lb cb, (callFunc 110 #[.slice (some ⟨vb, 0, none⟩) 1 vc, .slice (some ⟨b, (i + 1) * 2, none⟩) lb cb]).run Tryz.prog w = .ok (.value (.bool false)) w := fun lb cb => by
    rw [run_callFunc_extern Tryz.func110 (by kernel_rfl) (by kernel_rfl) (by kernel_rfl) (e := Extern.SlicesOverlaps.overlaps #[158, 158] #[4]) (by kernel_rfl),
      Lib.run_overlaps_apart w 158 4 161 Tryz.underlying158 2 Tryz.sizeOf161 ⟨vb, 0, none⟩ ⟨b, (i + 1) * 2, none⟩ 1 vc lb cb hne ex e curx.size cur.size (by simp [World.shape?, hx]) (by simp [World.shape?, hb]) (by omega) (by simp [World.frozen?, hx]) (by simp [World.frozen?, hx])]
    rfl
  have hz2 : ¬ ((i : Int) = (n : Int)) := by omega
  have hw1 : IntKind.i64.wrap ((n : Int) + 1) = (n : Int) + 1 := by rw [IntKind.wrap_i64]; omega
  have hw2 : IntKind.i64.wrap ((i : Int) + 1) = (i : Int) + 1 := by rw [IntKind.wrap_i64]; omega
  have hz3 : ¬ ((cap : Int) < (n : Int) + 1) := by omega
  have htn : ((i : Int) + 1).toNat = i + 1 := by omega
  have hinf : (Tryz.prog.info? 161).map (·.size) = some 2 := by kernel_rfl
  obtain ⟨mv, hmv⟩ : ∃ mv, mv = (cur.toList.take (n * 2)).drop (i * 2) := ⟨_, rfl⟩
  obtain ⟨xs, hxs'⟩ : ∃ xs, xs = curx.toList.take 2 := ⟨_, rfl⟩
  have hxl : xs.length = 2 := by rw [hxs']; simp; omega
  have hml : mv.length = (n - i) * 2 := by rw [hmv]; simp; omega
  obtain ⟨c1, hc1⟩ : ∃ c1 : Array Value, c1 = (cur.toList.take ((i + 1) * 2) ++ mv ++ cur.toList.drop ((i + 1) * 2 + mv.length)).toArray := ⟨_, rfl⟩
  have hc1s : c1.size = cap * 2 := by rw [hc1]; simp [hml]; omega
  obtain ⟨c2, hc2⟩ : ∃ c2 : Array Value, c2 = (c1.toList.take (i * 2) ++ xs ++ c1.toList.drop (i * 2 + xs.length)).toArray := ⟨_, rfl⟩
  have hc2s : c2.size = cap * 2 := by rw [hc2]; simp [hxl, hc1s]; omega
  have hb1 : w.drew.heap[b]? = some (.cells cur e (0, 0)) := hb
  have hcp1 : ∀ ty dc sc, (Builtin.copy_ #[158, 158] ty #[.slice (some ⟨b, (i + 1) * 2, none⟩) (n - i) dc, .slice (some ⟨b, i * 2, none⟩) (n + 1 - i) sc]).run Tryz.prog w.drew = .ok (goInt ((n - i : Nat) : Int)) (w.drew.setRow b c1) := fun ty dc sc => by
    have := run_copy_rowE (P := Tryz.prog) w.drew 158 158 ty 161 b ((i + 1) * 2) (n - i) dc ⟨b, i * 2, none⟩ (n + 1 - i) sc 2 (n - i) cur e mv Tryz.underlying158 hinf hb1 (by simp only [Nat.min_def]; split <;> omega) hml
      (fun j v hj => by
        rw [Addr.add_lit, hmv, List.getElem?_drop, List.getElem?_take] at *
        split at hj
        · simp only [World.cell?, hb1]; simpa using hj
        · cases hj) (by rw [hml, hcur]; omega) (fun v hv => h1c v (by rw [hmv] at hv; exact List.mem_of_mem_drop hv))
    rw [this, ← hc1]
  have hb2 : ∀ W : World, W.heap = (w.drew.setRow b c1).heap → W.heap[b]? = some (.cells c1 e (0, 0)) := fun W hW => by rw [hW]; exact setRow_heap w.drew b cur c1 e (0, 0) hb1
  have hx2 : ∀ W : World, W.heap = (w.drew.setRow b c1).heap → W.heap[vb]? = some (.cells curx ex (0, 0)) := fun W hW => by rw [hW, (But.setRow w.drew b c1).block vb hne]; exact hx
  have hcp2 : ∀ W : World, W.heap = (w.drew.setRow b c1).heap → ∀ ty dc, (Builtin.copy_ #[158, 158] ty #[.slice (some ⟨b, i * 2, none⟩) (n + 1 - i) dc, .slice (some ⟨vb, 0, none⟩) 1 vc]).run Tryz.prog W = .ok (goInt ((1 : Nat) : Int)) (W.setRow b c2) := fun W hW ty dc => by
    have := run_copy_rowE (P := Tryz.prog) W 158 158 ty 161 b (i * 2) (n + 1 - i) dc ⟨vb, 0, none⟩ 1 vc 2 1 c1 e xs Tryz.underlying158 hinf (hb2 W hW) (by simp only [Nat.min_def]; split <;> omega) (by omega)
      (fun j v hj => by
        rw [Addr.add_lit, hxs', List.getElem?_take] at *
        split at hj
        · simp only [World.cell?, hx2 W hW]; simpa using hj
        · cases hj) (by rw [hxl, hc1s]; omega) (fun v hv => h1x v (by rw [← hxs']; exact hv))
    rw [this, ← hc2]
  have hfin : But b w ((w.drew.setRow b c1).setRow b c2) ∧ ((w.drew.setRow b c1).setRow b c2).heap[b]? = some (.cells c2 e (0, 0)) := by
    refine ⟨((But.drew w b).trans (But.setRow _ b c1)).trans (But.setRow _ b c2), setRow_heap _ b c1 c2 e (0, 0) (hb2 _ rfl)⟩
  have hval : c2.toList.take ((n + 1) * 2) = cur.toList.take (i * 2) ++ curx.toList.take 2 ++ (cur.toList.take (n * 2)).drop (i * 2) := by
    rw [← hmv, ← hxs']
    have e1 : c1.toList.take (i * 2) = cur.toList.take (i * 2) := by
      rw [hc1]
      show (cur.toList.take ((i + 1) * 2) ++ mv ++ _).take (i * 2) = _
      rw [List.append_assoc, List.take_append_of_le_length (by simp; omega), List.take_take, Nat.min_eq_left (by omega)]
    have e2 : c1.toList.drop (i * 2 + xs.length) = mv ++ cur.toList.drop ((i + 1) * 2 + mv.length) := by
      rw [hc1]
      show (cur.toList.take ((i + 1) * 2) ++ mv ++ _).drop _ = _
      rw [List.append_assoc]
      exact List.drop_left' (by simp; omega)
    rw [hc2, e1, e2]
    show (cur.toList.take (i * 2) ++ xs ++ (mv ++ _)).take _ = _
    rw [← List.append_assoc]
    exact List.take_left' (by simp [hxl, hml]; omega)
  have hq1 : (0 : Int) ≤ (i : Int) + 1 := by omega
  have hin : i ≤ n := by omega
  have hq2 : ¬ (cap = i + 1) := by omega
  have hq3 : (i : Int) ≤ (n : Int) + 1 := by omega
  have hq4 : ¬ (cap = i) := by omega
  clear hmv hxs' hc1 hc2
  go_enter Tryz.func107, Tryz.ntmps107
  go_wp2_with (simp only [hov])
  go_region_law_o (refine step_copy_runI rfl _ _ 158 158 rfl _ _ (by simp [Act.eval, Act.put]) (by simp [Act.eval, Act.put]) (hcp1 _ _ _) ?_)
  go_wp2_with (at_builtin; refine wpList_copy_runI _ rfl _ _ 158 158 rfl _ _ rfl rfl (hcp2 _ rfl _ _) ?_)
  go_ret
  exact ⟨rfl, hfin.1, c2, hfin.2, hc2s, hval⟩
structure New (w w' : World) : Prop where
  os : w'.os = w.os
  tape : w'.tape = w.tape
  output : w'.output = w.output
  size : w'.heap.size = w.heap.size + 1
  block : ∀ k, k < w.heap.size → w'.heap[k]? = w.heap[k]?
theorem New.of {w w' : World} (r r1 : Array Value) (e : TypeId) (h1 : w'.os = w.os) (h2 : w'.tape = w.tape) (h3 : w'.output = w.output) (h4 : w'.heap = ((w.alloc (.cells r e)).setRow w.heap.size r1).heap) : New w w' := by
  refine ⟨h1, h2, h3, by rw [h4]; simp [World.setRow], fun k hk => ?_⟩
  rw [h4, (But.setRow _ w.heap.size r1).block k (by omega)]
  exact Below.heap_alloc w _ k hk
theorem ins_grow (b cap vb vc i n : Nat) (cur curx : Array Value) (e ex : TypeId) (w : World) (hb : w.heap[b]? = some (.cells cur e (0, 0))) (hx : w.heap[vb]? = some (.cells curx ex (0, 0))) (hi : i < n) (hnc : n ≤ cap) (hroom : cap < n + 1)
    (hn : n ≤ 1000000) (hcur : cur.size = cap * 2) (hxs : 2 ≤ curx.size) (h1c : ∀ v ∈ cur.toList.take (n * 2), v.oneCell' = true) (h1x : ∀ v ∈ curx.toList.take 2, v.oneCell' = true) :
    Calls pg 107 #[.slice (some ⟨b, 0, none⟩) n cap, .int .i64 i, .slice (some ⟨vb, 0, none⟩) 1 vc] w fun r w' => ∃ G, r = .returned (.slice (some ⟨w.heap.size, 0, none⟩) (n + 1) G) ∧ n + 1 ≤ G ∧ G ≤ maxLen ∧ New w w' ∧
      ∃ cur2 : Array Value, w'.heap[w.heap.size]? = some (.cells cur2 161 (0, 0)) ∧ cur2.size = G * 2 ∧ cur2.toList.take ((n + 1) * 2) = cur.toList.take (i * 2) ++ curx.toList.take 2 ++ (cur.toList.take (n * 2)).drop (i * 2) := by
  have mixed := mo
  obtain ⟨i0, hi0, hz0, hzs, hzb⟩ : ∃ i0 : TypeInfo, Tryz.prog.info? 161 = some i0 ∧ i0.zero = some (.agg #[.string ⟨#[]⟩, .slice none 0 0]) ∧ i0.size = 2 ∧ i0.bytes = 40 := ⟨(Tryz.prog.info? 161).get (by kernel_rfl), by kernel_rfl, by kernel_rfl, by kernel_rfl, by kernel_rfl⟩
  have hinf : (Tryz.prog.info? 161).map (·.size) = some 2 := by rw [hi0]; simp [hzs]
  have hz2 : ¬ ((i : Int) = (n : Int)) := by omega
  have hw1 : IntKind.i64.wrap ((n : Int) + 1) = (n : Int) + 1 := by rw [IntKind.wrap_i64]; omega
  have hw2 : IntKind.i64.wrap ((i : Int) + 1) = (i : Int) + 1 := by rw [IntKind.wrap_i64]; omega
  have hw3 : IntKind.i64.wrap ((n : Int) + 1 - (i : Int)) = (n : Int) + 1 - (i : Int) := by rw [IntKind.wrap_i64]; omega
  have hz3 : (cap : Int) < (n : Int) + 1 := by omega
  have htn : ((i : Int) + 1).toNat = i + 1 := by omega
  have hbw : b < w.heap.size := (Array.getElem?_eq_some_iff.1 hb).1
  have hvw : vb < w.heap.size := (Array.getElem?_eq_some_iff.1 hx).1
  obtain ⟨mv, hmv⟩ : ∃ mv, mv = (cur.toList.take (n * 2)).drop (i * 2) := ⟨_, rfl⟩
  obtain ⟨xs, hxs'⟩ : ∃ xs, xs = curx.toList.take 2 := ⟨_, rfl⟩
  have hxl : xs.length = 2 := by rw [hxs']; simp; omega
  have hml : mv.length = (n - i) * 2 := by rw [hmv]; simp; omega
  have hold : (Builtin.firstCells i0.size i (.slice (some ⟨b, 0, none⟩) i cap)).run Tryz.prog w.drew = .ok (cur.toList.take (i * 2)).toArray w.drew := by
    rw [hzs]
    exact run_firstCells_some w.drew 2 i ⟨b, 0, none⟩ i cap (cur.toList.take (i * 2)) (by simp; omega) (fun j v hj => by
      rw [Addr.add_lit]
      rw [List.getElem?_take] at hj
      split at hj
      · have hb1 : w.drew.heap[b]? = some (.cells cur e (0, 0)) := hb
        simp only [World.cell?, hb1]; simpa using hj
      · cases hj)
  have hik : i + (n + 1 - i) = n + 1 := by omega
  have hkk : (n : Int) + 1 - (i : Int) = ((n + 1 - i : Nat) : Int) := by omega
  have hbig : (n + 1) * 40 ≤ 140737488355328 := by omega
  have hrz : ∀ ty, (Builtin.append_ #[158, 3] ty #[.slice (some ⟨b, 0, none⟩) i cap, .int .i64 ((n : Int) + 1 - (i : Int))]).run Tryz.prog w =
      .ok (.slice (some ⟨w.heap.size, 0, none⟩) (n + 1) (grownCap w (n + 1) cap 161)) (w.drew.alloc (.cells ((cur.toList.take (i * 2)).toArray ++ Builtin.zeroCells #[.string ⟨#[]⟩, .slice none 0 0] (n + 1 - i) ++ Builtin.zeroCells #[.string ⟨#[]⟩, .slice none 0 0] (grownCap w (n + 1) cap 161 - (n + 1))) 161)) := fun ty => by
    have h := Lib.run_append_grow_zeros w 158 3 ty 161 i0 _ .i64 .i64 Tryz.underlying158 Tryz.underlying3 hi0 hz0 (some ⟨b, 0, none⟩) i cap (cur.toList.take (i * 2)) hold (n + 1 - i) (by omega) (by omega) (by omega) (by omega) (by rw [hzb]; omega) (by rw [hzb, hik]; exact growslice_fits hroom hbig)
    rw [hik] at h
    rw [hkk]
    exact h
  obtain ⟨G, hG⟩ : ∃ G, G = grownCap w (n + 1) cap 161 := ⟨_, rfl⟩
  rw [← hG] at hrz
  have hGn : n + 1 ≤ G := by rw [hG]; exact grownCap_ge w _ _ _
  have hG63 : G ≤ maxLen := by
    rw [hG]; exact grownCap_le_maxLen w (n + 1) cap 161 (by unfold maxLen; omega)
  have hG63' : G ≤ 9223372036854775807 := hG63
  obtain ⟨ROW, hROW⟩ : ∃ ROW : Array Value, ROW = (cur.toList.take (i * 2)).toArray ++ Builtin.zeroCells #[.string ⟨#[]⟩, .slice none 0 0] (n + 1 - i) ++ Builtin.zeroCells #[.string ⟨#[]⟩, .slice none 0 0] (G - (n + 1)) := ⟨_, rfl⟩
  rw [← hROW] at hrz
  have hRs : ROW.size = G * 2 := by
    rw [hROW]
    simp [zeroCells_size]; omega
  obtain ⟨r2, hr2⟩ : ∃ r2 : Array Value, r2 = (ROW.toList.take (i * 2) ++ xs ++ ROW.toList.drop (i * 2 + xs.length)).toArray := ⟨_, rfl⟩
  have hr2s : r2.size = G * 2 := by rw [hr2]; simp [hxl, hRs]; omega
  obtain ⟨r3, hr3⟩ : ∃ r3 : Array Value, r3 = (r2.toList.take ((i + 1) * 2) ++ mv ++ r2.toList.drop ((i + 1) * 2 + mv.length)).toArray := ⟨_, rfl⟩
  have hr3s : r3.size = G * 2 := by rw [hr3]; simp [hml, hr2s]; omega
  have hNn : ∀ W : World, W.heap = (w.alloc (.cells ROW 161)).heap → W.heap[w.heap.size]? = some (.cells ROW 161 (0, 0)) := fun W hW => by rw [hW]; show (w.heap.push _)[w.heap.size]? = _; simp
  have hold2 : ∀ (W : World) (k : Nat), W.heap = (w.alloc (.cells ROW 161)).heap → k < w.heap.size → W.heap[k]? = w.heap[k]? := fun W k hW hk => by rw [hW]; exact Below.heap_alloc w _ k hk
  have hcpA : ∀ W : World, W.heap = (w.alloc (.cells ROW 161)).heap → ∀ ty dc, (Builtin.copy_ #[158, 158] ty #[.slice (some ⟨w.heap.size, i * 2, none⟩) (n + 1 - i) dc, .slice (some ⟨vb, 0, none⟩) 1 vc]).run Tryz.prog W = .ok (goInt ((1 : Nat) : Int)) (W.setRow w.heap.size r2) := fun W hW ty dc => by
    have := run_copy_rowE (P := Tryz.prog) W 158 158 ty 161 w.heap.size (i * 2) (n + 1 - i) dc ⟨vb, 0, none⟩ 1 vc 2 1 ROW 161 xs Tryz.underlying158 hinf (hNn W hW) (by simp only [Nat.min_def]; split <;> omega) (by omega)
      (fun j v hj => by
        rw [Addr.add_lit, hxs', List.getElem?_take] at *
        split at hj
        · simp only [World.cell?, hold2 W vb hW hvw, hx]; simpa using hj
        · cases hj) (by rw [hxl, hRs]; omega) (fun v hv => h1x v (by rw [← hxs']; exact hv))
    rw [this, ← hr2]
  have hcpB : ∀ W : World, W.heap = ((w.alloc (.cells ROW 161)).setRow w.heap.size r2).heap → ∀ ty dc sc, (Builtin.copy_ #[158, 158] ty #[.slice (some ⟨w.heap.size, (i + 1) * 2, none⟩) (n - i) dc, .slice (some ⟨b, i * 2, none⟩) (n - i) sc]).run Tryz.prog W = .ok (goInt ((n - i : Nat) : Int)) (W.setRow w.heap.size r3) := fun W hW ty dc sc => by
    have hbb : W.heap[b]? = some (.cells cur e (0, 0)) := by rw [hW, (But.setRow _ w.heap.size r2).block b (by omega), hold2 _ b rfl hbw]; exact hb
    have hnn : W.heap[w.heap.size]? = some (.cells r2 161 (0, 0)) := by rw [hW]; exact setRow_heap _ _ ROW r2 161 (0, 0) (hNn _ rfl)
    have := run_copy_rowE (P := Tryz.prog) W 158 158 ty 161 w.heap.size ((i + 1) * 2) (n - i) dc ⟨b, i * 2, none⟩ (n - i) sc 2 (n - i) r2 161 mv Tryz.underlying158 hinf hnn (by simp only [Nat.min_def]; split <;> omega) hml
      (fun j v hj => by
        rw [Addr.add_lit, hmv, List.getElem?_drop, List.getElem?_take] at *
        split at hj
        · simp only [World.cell?, hbb]; simpa using hj
        · cases hj) (by rw [hml, hr2s]; omega) (fun v hv => h1c v (by rw [hmv] at hv; exact List.mem_of_mem_drop hv))
    rw [this, ← hr3]
  have hfin : ((((w.alloc (.cells ROW 161)).setRow w.heap.size r2).setRow w.heap.size r3)).heap[w.heap.size]? = some (.cells r3 161 (0, 0)) := setRow_heap _ _ r2 r3 161 (0, 0) (setRow_heap _ _ ROW r2 161 (0, 0) (hNn _ rfl))
  have hss : (((w.alloc (.cells ROW 161)).setRow w.heap.size r2).setRow w.heap.size r3) = (w.alloc (.cells ROW 161)).setRow w.heap.size r3 := setRow_setRow _ _ _ _
  have hval : r3.toList.take ((n + 1) * 2) = cur.toList.take (i * 2) ++ curx.toList.take 2 ++ (cur.toList.take (n * 2)).drop (i * 2) := by
    rw [← hmv, ← hxs']
    have e0 : ROW.toList.take (i * 2) = cur.toList.take (i * 2) := by
      rw [hROW]
      simp only [Array.toList_append]
      rw [List.append_assoc]
      exact List.take_left' (by simp; omega)
    have e1 : r2.toList.take ((i + 1) * 2) = cur.toList.take (i * 2) ++ xs := by
      rw [hr2]
      show (ROW.toList.take (i * 2) ++ xs ++ _).take _ = _
      rw [e0]
      exact List.take_left' (by simp [hxl]; omega)
    rw [hr3, e1]
    show (cur.toList.take (i * 2) ++ xs ++ mv ++ _).take _ = _
    exact List.take_left' (by simp [hxl, hml]; omega)
  have hq1 : (0 : Int) ≤ (i : Int) + 1 := by omega
  have hin : i ≤ n := by omega
  have hq2 : ¬ (G = i + 1) := by omega
  have hq3 : (i : Int) ≤ (n : Int) + 1 := by omega
  have hq4 : ¬ (G = i) := by omega
  have hq5 : ¬ (cap = i) := by omega
  have hq6 : (i : Int) ≤ (n : Int) := by omega
  clear hkk hik hold hROW hG hmv hxs' hr2 hr3 e hb
  go_enter Tryz.func107, Tryz.ntmps107
  go_wp2_with (first
    | (at_builtin; refine Lib.wpList_append_run _ rfl _ _ _ _ rfl _ _ rfl rfl _ _ (hrz _) ?_)
    | (refine wpList_copy_runI _ rfl _ _ 158 158 rfl _ _ rfl rfl (hcpA _ (by exact rfl) _ _) ?_))
  go_region_law_o (refine step_copy_runI rfl _ _ 158 158 rfl (.slice (some ⟨w.heap.size, (i + 1) * 2, none⟩) (n - i) (G - (i + 1))) (.slice (some ⟨b, i * 2, none⟩) (n - i) (cap - i)) (by simp [Act.eval, Act.put]) (by simp [Act.eval, Act.put]) (hcpB ((w.alloc (.cells ROW 161)).drew.setRow w.heap.size r2).drew rfl 3 (G - (i + 1)) (cap - i)) ?_)
  go_wp2
  go_ret
  exact ⟨G, rfl, hGn, hG63, .of ROW r3 161 rfl rfl rfl (by rw [← hss]; rfl), r3, hfin, hr3s, hval⟩
end
end Go.Am
end
section
set_option maxRecDepth 100000
set_option maxHeartbeats 0
namespace Go.Am
open Go Go.Proofs Go.RowKit Go.Lib
noncomputable section
theorem ins_end (base : Option Addr) (n cap vb vc : Nat) (w w1 : World) (v1 : Value) (hn : n ≤ cap) (hcap : cap ≤ 9223372036854775807) (hnil : base = none → n = 0 ∧ cap = 0)
    (hr : (Builtin.append_ #[158, 158] 158 #[.slice base n cap, .slice (some ⟨vb, 0, none⟩) 1 vc]).run Tryz.prog w = .ok v1 w1) :
    Calls pg 107 #[.slice base n cap, .int .i64 n, .slice (some ⟨vb, 0, none⟩) 1 vc] w fun r w' => r = .returned v1 ∧ w' = w1 := by
  have mixed := mo
  have hnn : n ≤ n := Nat.le_refl n
  have hn0 : (0 : Int) ≤ n := by omega
  cases base with
  | none =>
    obtain ⟨rfl, rfl⟩ := hnil rfl
    go_enter Tryz.func107, Tryz.ntmps107
    go_wp2_with (refine Lib.wpList_append_run _ rfl _ _ _ _ rfl _ _ rfl rfl _ _ hr ?_)
    go_ret
    exact ⟨rfl, rfl⟩
  | some ad =>
    obtain ⟨b, o, s⟩ := ad
    go_enter Tryz.func107, Tryz.ntmps107
    go_wp2_with (refine Lib.wpList_append_run _ rfl _ _ _ _ rfl _ _ rfl rfl _ _ hr ?_)
    all_goals (go_ret; exact ⟨rfl, rfl⟩)
theorem rackIns_ok (L : List V) (x : V) (i : Nat) (hi : i ≤ L.length) (hL : L.length ≤ 1000000) (hes : ∀ y ∈ x :: L, y.cells.length = 2) :
    ACallM pg 107 [.uq L, I i, .uq [x]] [] (.uq (L.take i ++ x :: L.drop i)) [.any, .any, .any] := by
  refine ⟨by kernel_rfl, fun S w vo vs fo hR hnd hfS hlt hRx hSlt _ => ?_⟩
  cases hRx
  obtain ⟨v0, us, f0, f', rfl, rfl, h0, h1⟩ := R.uncons hR
  cases h1 with
  | c h2 =>
  cases h2 with
  | @uq _ cx fx _ _ _ vb vc ex es2 curx x1 x2 x3 x4 x5 x6 x7 x8 x9 x10 =>
  cases x10
  have hes2 : es2 = 2 := by rw [← x2 x (by simp)]; exact hes x (by simp)
  subst hes2
  simp only [List.append_nil] at hR hnd hfS hlt
  have hnd2 := List.nodup_append.1 hnd
  have hvbin : vb ∈ f0 ++ vb :: fx := by simp
  have hvlt := hlt vb hvbin
  have hfx : ∀ k, k ∈ fx → k ∈ f0 ++ vb :: fx := fun k hk => by simp [hk]
  have hf0 : ∀ k, k ∈ f0 → k ∈ f0 ++ vb :: fx := fun k hk => by simp [hk]
  have hndx : (vb :: fx).Nodup := hnd2.2.1
  rw [List.nodup_cons] at hndx
  have hcxl : cx.length = 2 := by rw [← x3.length]; have := hes x (by simp); simpa using this
  have hcx2 : curx.toList.take 2 = cx := by simpa using x9
  have hsx : 2 ≤ curx.size := by rw [x8]; have : 1 ≤ vc := x6; omega
  have hnews : ∀ j u, cx[j]? = some u → w.cell? ((⟨vb, 0, none⟩ : Addr).add j) = some u := by
    intro j u hu
    rw [Addr.add_lit]
    simp only [World.cell?, x5, Nat.zero_add]
    have hj : j < 2 := by
      rcases Nat.lt_or_ge j cx.length with h' | h'
      · omega
      · simp [List.getElem?_eq_none h'] at hu
    rw [← hcx2, List.getElem?_take_of_lt hj] at hu
    simpa using hu
  obtain ⟨i0, hi0, hz0, hzs, hzb⟩ : ∃ i0 : TypeInfo, Tryz.prog.info? 161 = some i0 ∧ i0.zero = some (.agg #[.string ⟨#[]⟩, .slice none 0 0]) ∧ i0.size = 2 ∧ i0.bytes = 40 := ⟨(Tryz.prog.info? 161).get (by kernel_rfl), by kernel_rfl, by kernel_rfl, by kernel_rfl, by kernel_rfl⟩
  have fin : ∀ {r : Ending} {v : Value} {w' : World} {fp : List Nat}, r = .returned v → R S w' [.uq (L.take i ++ x :: L.drop i)] [v] fp → fp.Nodup → (∀ k, k ∈ fp → k < w'.heap.size ∧ (k ∈ f0 ++ vb :: fx ∨ w.heap.size ≤ k)) → (∀ k o, k ∈ fp → ¬ S k o) → Far (f0 ++ vb :: fx) w w' →
      ∃ v S' fp fo', r = .returned v ∧ R S' w' [.uq (L.take i ++ x :: L.drop i)] [v] fp ∧ R S' w' [.any, .any, .any] [v0, .int .i64 i, .slice (some ⟨vb, 0, none⟩) 1 vc] fo' ∧ (fp ++ fo').Nodup ∧ (∀ b, b ∈ fp ++ fo' → b < w'.heap.size ∧ (b ∈ f0 ++ vb :: fx ∨ w.heap.size ≤ b)) ∧ (∀ b o, b ∈ fp ++ fo' → ¬ S' b o) ∧
        (∀ b o, S b o → S' b o) ∧ (∀ b o, S' b o → S b o ∨ b ∈ f0 ++ vb :: fx ∨ w.heap.size ≤ b) ∧ (∀ b o, S' b o → b < w'.heap.size) ∧ Far (f0 ++ vb :: fx) w w' := by
    intro r v w' fp e hR' hn hm hap hF
    exact ⟨v, S, fp, [], e, hR', .any (.any (.any .nil)), by simpa using hn, by simpa using hm, by simpa using hap, fun _ _ h => h, fun _ _ h => .inl h, fun b o h => by have := hSlt b o h; have := hF.size; omega, hF⟩
  simp only [List.append_nil]
  by_cases hin : i = L.length
  · subst hin
    obtain ⟨v', w', fy', r1, r2, r3, r4, r5, r6⟩ := R.app2 (P := Tryz.prog) (t := 158) (ty := 158) (e := 161) (i := i0) (l := L) (l2 := [x]) Tryz.underlying158 hi0 hz0 (by rw [hzs]; rfl) (by rw [hzs]; decide) h0 hnd2.1 (fun b o hb => hfS b o (hf0 b hb)) hSlt (fun b hb => hlt b (hf0 b hb))
      (fun y hy => by rw [hzs]; exact hes y (by simp [hy])) (fun y hy => by rw [hzs]; exact hes y (by simp at hy; simp [hy])) (by simpa using x3) hndx.2 (fun b hb hb' => hnd2.2.2 b hb' b (by simp [hb]) rfl) (fun b hb => hlt b (hfx b hb)) x4 (x := .slice (some ⟨vb, 0, none⟩) 1 vc)
      ⟨by simp, _, _, rfl, hnews⟩ (by simp [maxLen]; omega) (by rw [hzb]; simp; omega)
    have hcall : ∃ base n cap, v0 = .slice base n cap ∧ n = L.length ∧ n ≤ cap ∧ cap ≤ 9223372036854775807 ∧ (base = none → n = 0 ∧ cap = 0) := by
      cases h0 with
      | uq0 hh => exact ⟨_, _, _, rfl, rfl, Nat.le_refl _, by omega, fun _ => ⟨rfl, rfl⟩⟩
      | uq b cap e es cur g1 g2 g3 g4 g5 g6 g7 g8 g9 g10 => exact ⟨_, _, _, rfl, rfl, g6, g7.1, fun e => by cases e⟩
    obtain ⟨base, n, cap, rfl, rfl, hnc, hc63, hnil⟩ := hcall
    refine (ins_end base L.length cap vb vc w w' v' hnc hc63 hnil r1).mono ?_
    rintro r w1 ⟨rfl, rfl⟩
    refine fin rfl (by simpa using r2) r3 (fun k hk => ⟨r5 k hk, ?_⟩) (fun k o hk hs => ?_) ⟨r6.os, r6.tape, r6.output, r6.size, fun k hk hk' => r6.block k hk (fun h => hk' (hf0 k h))⟩
    · rcases r4 k hk with h | h | h
      · exact .inl (hf0 k h)
      · exact .inl (hfx k h)
      · exact .inr h
    · rcases r4 k hk with h | h | h
      · exact hfS k o (hf0 k h) hs
      · exact hfS k o (hfx k h) hs
      · have := hSlt k o hs; omega
  · have hlt' : i < L.length := by omega
    cases h0 with
    | uq0 hh => simp at hlt'
    | @uq _ cs fq _ _ _ b cap e es cur g1 g2 g3 g4 g5 g6 g7 g8 g9 g10 =>
    cases g10
    simp only [List.append_nil] at hnd hfS hlt hnd2 hvbin hfx hf0 fin ⊢
    have hes1 : es = 2 := by
      have hm := List.getElem_mem hlt'
      rw [← g2 _ hm]; exact hes _ (by simp [hm])
    subst hes1
    have hbin : b ∈ b :: fq ++ vb :: fx := by simp
    have hbv : vb ≠ b := fun e => hnd2.2.2 b (by simp) vb (by simp) e.symm
    have hbq : b ∉ fq ∧ fq.Nodup := by have := hnd2.1; rw [List.nodup_cons] at this; exact this
    have hbx : b ∉ fx := fun h => hnd2.2.2 b (by simp) b (by simp [h]) rfl
    have hqx : ∀ k, k ∈ fq → k ∉ fx := fun k hk hk' => hnd2.2.2 k (by simp [hk]) k (by simp [hk']) rfl
    have hcsl : cs.length = L.length * 2 := by rw [← g3.length]; exact flat_len (fun y hy => hes y (by simp [hy]))
    have e1 : L.flatMap V.cells = (L.take i).flatMap V.cells ++ (L.drop i).flatMap V.cells := by rw [← List.flatMap_append, List.take_append_drop]
    rw [e1] at g3
    obtain ⟨c1, c2, q1, q2, hc, hq, k1, k2⟩ := R.split g3
    have hc1 : c1.length = i * 2 := by rw [← k1.length, flat_len (es := 2) (fun y hy => hes y (by have := List.mem_of_mem_take hy; simp [this]))]; simp; omega
    have ht1 : cur.toList.take (i * 2) = c1 := by
      have : cs.take (i * 2) = c1 := by rw [hc, ← hc1]; exact List.take_left
      rw [← this, ← g9, List.take_take, Nat.min_eq_left (by omega)]
    have hd2 : (cur.toList.take (L.length * 2)).drop (i * 2) = c2 := by rw [g9, hc, ← hc1]; exact List.drop_left
    have hall : ∀ y ∈ L.take i ++ x :: L.drop i, y.cells.length = 2 := by
      intro y hy
      rcases List.mem_append.1 hy with hy | hy
      · exact hes y (by have := List.mem_of_mem_take hy; simp [this])
      · rcases List.mem_cons.1 hy with rfl | hy
        · exact hes _ (by simp)
        · exact hes y (by have := List.mem_of_mem_drop hy; simp [this])
    have hlen : (L.take i ++ x :: L.drop i).length = L.length + 1 := by simp; omega
    have hone : ∀ u ∈ c1 ++ cx ++ c2, u.oneCell' = true := by
      intro u hu
      rcases List.mem_append.1 hu with hu | hu
      · rcases List.mem_append.1 hu with hu | hu
        · exact g4 u (by rw [hc]; simp [hu])
        · exact x4 u hu
      · exact g4 u (by rw [hc]; simp [hu])
    have hne : L.take i ++ x :: L.drop i ≠ [] := by simp
    have build : ∀ (w' : World), (∀ k, k ∈ fq → w'.heap[k]? = w.heap[k]?) → (∀ k, k ∈ fx → w'.heap[k]? = w.heap[k]?) → (∀ b' o, S b' o → w'.cell? ⟨b', o, none⟩ = w.cell? ⟨b', o, none⟩) →
        ∀ (B G : Nat) (e' : TypeId) (cur2 : Array Value), w'.heap[B]? = some (.cells cur2 e' (0, 0)) → L.length + 1 ≤ G → G ≤ maxLen → cur2.size = G * 2 → cur2.toList.take ((L.length + 1) * 2) = c1 ++ cx ++ c2 →
          R S w' [.uq (L.take i ++ x :: L.drop i)] [.slice (some ⟨B, 0, none⟩) (L.length + 1) G] (B :: (q1 ++ fx ++ q2)) := by
      intro w' hq' hx' hS' B G e' cur2 hB hG1 hG2 hsz hval
      have r1 := k1.mono (fun _ _ h => h) hS' (fun k hk => hq' k (by rw [hq]; simp [hk]))
      have r2 := x3.mono (fun _ _ h => h) hS' (fun k hk => hx' k hk)
      have r3 := k2.mono (fun _ _ h => h) hS' (fun k hk => hq' k (by rw [hq]; simp [hk]))
      have rr := R.append (R.append r1 r2) r3
      have := R.uq (S := S) (w := w') (xs := []) (vs := []) (fp := []) (l := L.take i ++ x :: L.drop i) (cs := c1 ++ cx ++ c2) (fq := q1 ++ fx ++ q2) B G e' 2 cur2 (by decide) hall (by simpa [List.flatMap_append, List.append_assoc] using rr) hone hB (by omega) ⟨hG2, fun e => absurd e hne⟩ hsz (by rw [hlen]; exact hval) .nil
      rw [hlen] at this
      simpa using this
    have hndf : (q1 ++ fx ++ q2).Nodup := by
      have h1 := hbq.2
      rw [hq, List.nodup_append] at h1
      rw [List.nodup_append, List.nodup_append]
      refine ⟨⟨h1.1, hndx.2, fun y hy z hz e => hqx y (by rw [hq]; simp [hy]) (e ▸ hz)⟩, h1.2.1, fun y hy z hz e => ?_⟩
      subst e
      rcases List.mem_append.1 hy with hy | hy
      · exact h1.2.2 y hy y hz rfl
      · exact hqx y (by rw [hq]; simp [hz]) hy
    have hsub : ∀ k, k ∈ q1 ++ fx ++ q2 → k ∈ b :: fq ++ vb :: fx := by
      intro k hk
      rw [hq]
      rcases List.mem_append.1 hk with hk | hk
      · rcases List.mem_append.1 hk with hk | hk <;> simp [hk]
      · simp [hk]
    have hbnot : b ∉ q1 ++ fx ++ q2 := by
      intro h
      rcases List.mem_append.1 h with h | h
      · rcases List.mem_append.1 h with h | h
        · exact hbq.1 (by rw [hq]; simp [h])
        · exact hbx h
      · exact hbq.1 (by rw [hq]; simp [h])
    have hSb : ∀ b' o', S b' o' → b' ≠ b := fun b' o' hs e => hfS b o' hbin (e ▸ hs)
    by_cases hroom : L.length + 1 ≤ cap
    · refine (ins_shift b cap vb vc i L.length cur curx e ex w g5 x5 hbv hlt' hroom g7.1 g8 hsx (by rw [g9]; exact g4) (by rw [hcx2]; exact x4)).mono ?_
      rintro r w' ⟨rfl, hB, cur2, z1, z2, z3⟩
      rw [ht1, hcx2, hd2] at z3
      have hR' := build w' (fun k hk => hB.block k (fun e => hbq.1 (e ▸ hk))) (fun k hk => hB.block k (fun e => hbx (e ▸ hk))) (fun b' o hs => hB.cell (hSb b' o hs)) b cap e cur2 z1 hroom g7.1 z2 z3
      refine fin rfl hR' (List.nodup_cons.2 ⟨hbnot, hndf⟩) (fun k hk => ?_) (fun k o hk => ?_) ⟨hB.os, hB.tape, hB.output, by rw [hB.size]; exact Nat.le_refl _, fun k _ hk => hB.block k (fun e => hk (e ▸ hbin))⟩
      · have hm : k ∈ b :: fq ++ vb :: fx := by
          rcases List.mem_cons.1 hk with rfl | hk
          · exact hbin
          · exact hsub k hk
        exact ⟨by rw [hB.size]; exact hlt k hm, .inl hm⟩
      · rcases List.mem_cons.1 hk with rfl | hk
        · exact hfS _ o hbin
        · exact hfS k o (hsub k hk)
    · refine (ins_grow b cap vb vc i L.length cur curx e ex w g5 x5 hlt' g6 (by omega) hL g8 hsx (by rw [g9]; exact g4) (by rw [hcx2]; exact x4)).mono ?_
      rintro r w' ⟨G, rfl, hG1, hG2, hN, cur2, z1, z2, z3⟩
      rw [ht1, hcx2, hd2] at z3
      have hbl : ∀ k, k ∈ b :: fq ++ vb :: fx → w'.heap[k]? = w.heap[k]? := fun k hk => hN.block k (hlt k hk)
      have hR' := build w' (fun k hk => hbl k (by simp [hk])) (fun k hk => hbl k (by simp [hk])) (fun b' o hs => World.cell?_of_block (w := w) (a := ⟨b', o, none⟩) (hN.block b' (hSlt b' o hs))) w.heap.size G 161 cur2 z1 hG1 hG2 z2 z3
      refine fin rfl hR' (List.nodup_cons.2 ⟨fun h => by have := hlt _ (hsub _ h); omega, hndf⟩) (fun k hk => ?_) (fun k o hk hs => ?_) ⟨hN.os, hN.tape, hN.output, by rw [hN.size]; omega, fun k hk _ => hN.block k hk⟩
      · rcases List.mem_cons.1 hk with rfl | hk
        · exact ⟨by rw [hN.size]; omega, .inr (Nat.le_refl _)⟩
        · have := hlt k (hsub k hk); exact ⟨by rw [hN.size]; omega, .inl (hsub k hk)⟩
      · rcases List.mem_cons.1 hk with rfl | hk
        · have := hSlt _ o hs; omega
        · exact hfS k o (hsub k hk) hs
end
end Go.Am
end
