/- Part of the proof of a law of the image. -/
import Derived.Test.YtfgfjgbggkdobaaGreatQApp
import Derived.Test.YtfgfjgbggkdobaaGreatQData
import Derived.Test.YtfgfjgbggkdobaaGreatQIN
import Derived.Test.YtfgfjgbggkdobaaGreatQJA
import Derived.Test.YtfgfjgbggkdobaaGreatQW0
import Derived.Test.YtfgfjgbggkdobaaGreatChecked
import Derived.WalkKit
import Derived.Lib.Overlaps
import Derived.Lib.AppendZerosOnto
set_option linter.all false
section
set_option maxRecDepth 100000
set_option maxHeartbeats 0
namespace Go.Am
open Go Go.Proofs Go.RowKit Go.Lib
noncomputable section
theorem ins_shiftB (b cap vb vc i n : Nat) (cur curx : Array Value) (e ex : TypeId) (w : World) (hb : w.heap[b]? = some (.cells cur e (0, 0))) (hx : w.heap[vb]? = some (.cells curx ex (0, 0))) (hne : vb ≠ b) (hi : i < n) (hroom : n + 1 ≤ cap)
    (hcap : cap ≤ 9223372036854775807) (hcur : cur.size = cap * 5) (hxs : 5 ≤ curx.size) (h1c : ∀ v ∈ cur.toList.take (n * 5), v.oneCell' = true) (h1x : ∀ v ∈ curx.toList.take 5, v.oneCell' = true) :
    Calls pg 53 #[.slice (some ⟨b, 0, none⟩) n cap, .int .i64 i, .slice (some ⟨vb, 0, none⟩) 1 vc] w fun r w' => r = .returned (.slice (some ⟨b, 0, none⟩) (n + 1) cap) ∧ But b w w' ∧
      ∃ cur2 : Array Value, w'.heap[b]? = some (.cells cur2 e (0, 0)) ∧ cur2.size = cap * 5 ∧ cur2.toList.take ((n + 1) * 5) = cur.toList.take (i * 5) ++ curx.toList.take 5 ++ (cur.toList.take (n * 5)).drop (i * 5) := by
  have mixed := mo
  have hov : ∀ lb cb, (callFunc 82 #[.slice (some ⟨vb, 0, none⟩) 1 vc, .slice (some ⟨b, (i + 1) * 5, none⟩) lb cb]).run Tryz.prog w = .ok (.value (.bool false)) w := fun lb cb => by
    rw [run_callFunc_extern Tryz.func82 (by kernel_rfl) (by kernel_rfl) (by kernel_rfl) (e := Extern.SlicesOverlaps.overlaps #[25, 25] #[4]) (by kernel_rfl),
      Lib.run_overlaps_apart w 25 4 51 Tryz.underlying25 5 Tryz.sizeOf51 ⟨vb, 0, none⟩ ⟨b, (i + 1) * 5, none⟩ 1 vc lb cb hne ex e curx.size cur.size (by simp [World.shape?, hx]) (by simp [World.shape?, hb]) (by omega) (by simp [World.frozen?, hx]) (by simp [World.frozen?, hx])]
    rfl
  have hz2 : ¬ ((i : Int) = (n : Int)) := by omega
  have hw1 : IntKind.i64.wrap ((n : Int) + 1) = (n : Int) + 1 := by rw [IntKind.wrap_i64]; omega
  have hw2 : IntKind.i64.wrap ((i : Int) + 1) = (i : Int) + 1 := by rw [IntKind.wrap_i64]; omega
  have hz3 : ¬ ((cap : Int) < (n : Int) + 1) := by omega
  have htn : ((i : Int) + 1).toNat = i + 1 := by omega
  have hinf : (Tryz.prog.info? 51).map (·.size) = some 5 := by kernel_rfl
  obtain ⟨mv, hmv⟩ : ∃ mv, mv = (cur.toList.take (n * 5)).drop (i * 5) := ⟨_, rfl⟩
  obtain ⟨xs, hxs'⟩ : ∃ xs, xs = curx.toList.take 5 := ⟨_, rfl⟩
  have hxl : xs.length = 5 := by rw [hxs']; simp; omega
  have hml : mv.length = (n - i) * 5 := by rw [hmv]; simp; omega
  obtain ⟨c1, hc1⟩ : ∃ c1 : Array Value, c1 = (cur.toList.take ((i + 1) * 5) ++ mv ++ cur.toList.drop ((i + 1) * 5 + mv.length)).toArray := ⟨_, rfl⟩
  have hc1s : c1.size = cap * 5 := by rw [hc1]; simp [hml]; omega
  obtain ⟨c2, hc2⟩ : ∃ c2 : Array Value, c2 = (c1.toList.take (i * 5) ++ xs ++ c1.toList.drop (i * 5 + xs.length)).toArray := ⟨_, rfl⟩
  have hc2s : c2.size = cap * 5 := by rw [hc2]; simp [hxl, hc1s]; omega
  have hb1 : w.drew.heap[b]? = some (.cells cur e (0, 0)) := hb
  have hcp1 : ∀ ty dc sc, (Builtin.copy_ #[25, 25] ty #[.slice (some ⟨b, (i + 1) * 5, none⟩) (n - i) dc, .slice (some ⟨b, i * 5, none⟩) (n + 1 - i) sc]).run Tryz.prog w.drew = .ok (goInt ((n - i : Nat) : Int)) (w.drew.setRow b c1) := fun ty dc sc => by
    have := run_copy_rowE (P := Tryz.prog) w.drew 25 25 ty 51 b ((i + 1) * 5) (n - i) dc ⟨b, i * 5, none⟩ (n + 1 - i) sc 5 (n - i) cur e mv Tryz.underlying25 hinf hb1 (by simp only [Nat.min_def]; split <;> omega) hml
      (fun j v hj => by
        rw [Addr.add_lit, hmv, List.getElem?_drop, List.getElem?_take] at *
        split at hj
        · simp only [World.cell?, hb1]; simpa using hj
        · cases hj) (by rw [hml, hcur]; omega) (fun v hv => h1c v (by rw [hmv] at hv; exact List.mem_of_mem_drop hv))
    rw [this, ← hc1]
  have hb2 : ∀ W : World, W.heap = (w.drew.setRow b c1).heap → W.heap[b]? = some (.cells c1 e (0, 0)) := fun W hW => by rw [hW]; exact setRow_heap w.drew b cur c1 e (0, 0) hb1
  have hx2 : ∀ W : World, W.heap = (w.drew.setRow b c1).heap → W.heap[vb]? = some (.cells curx ex (0, 0)) := fun W hW => by rw [hW, (But.setRow w.drew b c1).block vb hne]; exact hx
  have hcp2 : ∀ W : World, W.heap = (w.drew.setRow b c1).heap → ∀ ty dc, (Builtin.copy_ #[25, 25] ty #[.slice (some ⟨b, i * 5, none⟩) (n + 1 - i) dc, .slice (some ⟨vb, 0, none⟩) 1 vc]).run Tryz.prog W = .ok (goInt ((1 : Nat) : Int)) (W.setRow b c2) := fun W hW ty dc => by
    have := run_copy_rowE (P := Tryz.prog) W 25 25 ty 51 b (i * 5) (n + 1 - i) dc ⟨vb, 0, none⟩ 1 vc 5 1 c1 e xs Tryz.underlying25 hinf (hb2 W hW) (by simp only [Nat.min_def]; split <;> omega) (by omega)
      (fun j v hj => by
        rw [Addr.add_lit, hxs', List.getElem?_take] at *
        split at hj
        · simp only [World.cell?, hx2 W hW]; simpa using hj
        · cases hj) (by rw [hxl, hc1s]; omega) (fun v hv => h1x v (by rw [← hxs']; exact hv))
    rw [this, ← hc2]
  have hfin : But b w ((w.drew.setRow b c1).setRow b c2) ∧ ((w.drew.setRow b c1).setRow b c2).heap[b]? = some (.cells c2 e (0, 0)) := by
    refine ⟨((But.drew w b).trans (But.setRow _ b c1)).trans (But.setRow _ b c2), setRow_heap _ b c1 c2 e (0, 0) (hb2 _ rfl)⟩
  have hval : c2.toList.take ((n + 1) * 5) = cur.toList.take (i * 5) ++ curx.toList.take 5 ++ (cur.toList.take (n * 5)).drop (i * 5) := by
    rw [← hmv, ← hxs']
    have e1 : c1.toList.take (i * 5) = cur.toList.take (i * 5) := by
      rw [hc1]
      show (cur.toList.take ((i + 1) * 5) ++ mv ++ _).take (i * 5) = _
      rw [List.append_assoc, List.take_append_of_le_length (by simp; omega), List.take_take, Nat.min_eq_left (by omega)]
    have e2 : c1.toList.drop (i * 5 + xs.length) = mv ++ cur.toList.drop ((i + 1) * 5 + mv.length) := by
      rw [hc1]
      show (cur.toList.take ((i + 1) * 5) ++ mv ++ _).drop _ = _
      rw [List.append_assoc]
      exact List.drop_left' (by simp; omega)
    rw [hc2, e1, e2]
    show (cur.toList.take (i * 5) ++ xs ++ (mv ++ _)).take _ = _
    rw [← List.append_assoc]
    exact List.take_left' (by simp [hxl, hml]; omega)
  have hq1 : (0 : Int) ≤ (i : Int) + 1 := by omega
  have hin : i ≤ n := by omega
  have hq2 : ¬ (cap = i + 1) := by omega
  have hq3 : (i : Int) ≤ (n : Int) + 1 := by omega
  have hq4 : ¬ (cap = i) := by omega
  clear hmv hxs' hc1 hc2
  go_enter Tryz.func53, Tryz.ntmps53
  go_wp2_with (simp only [hov])
  go_region_law_o (refine step_copy_runI rfl _ _ 25 25 rfl _ _ (by simp [Act.eval, Act.put]) (by simp [Act.eval, Act.put]) (hcp1 _ _ _) ?_)
  go_wp2_with (at_builtin; refine wpList_copy_runI _ rfl _ _ 25 25 rfl _ _ rfl rfl (hcp2 _ rfl _ _) ?_)
  go_ret
  exact ⟨rfl, hfin.1, c2, hfin.2, hc2s, hval⟩
theorem ins_growB (b cap vb vc i n : Nat) (cur curx : Array Value) (e ex : TypeId) (w : World) (hb : w.heap[b]? = some (.cells cur e (0, 0))) (hx : w.heap[vb]? = some (.cells curx ex (0, 0))) (hi : i < n) (hnc : n ≤ cap) (hroom : cap < n + 1)
    (hn : n ≤ 1000000) (hcur : cur.size = cap * 5) (hxs : 5 ≤ curx.size) (h1c : ∀ v ∈ cur.toList.take (n * 5), v.oneCell' = true) (h1x : ∀ v ∈ curx.toList.take 5, v.oneCell' = true) :
    Calls pg 53 #[.slice (some ⟨b, 0, none⟩) n cap, .int .i64 i, .slice (some ⟨vb, 0, none⟩) 1 vc] w fun r w' => ∃ G, r = .returned (.slice (some ⟨w.heap.size, 0, none⟩) (n + 1) G) ∧ n + 1 ≤ G ∧ G ≤ maxLen ∧ New w w' ∧
      ∃ cur2 : Array Value, w'.heap[w.heap.size]? = some (.cells cur2 51 (0, 0)) ∧ cur2.size = G * 5 ∧ cur2.toList.take ((n + 1) * 5) = cur.toList.take (i * 5) ++ curx.toList.take 5 ++ (cur.toList.take (n * 5)).drop (i * 5) := by
  have mixed := mo
  obtain ⟨i0, hi0, hz0, hzs, hzb⟩ : ∃ i0 : TypeInfo, Tryz.prog.info? 51 = some i0 ∧ i0.zero = some (.agg #[.int .i64 0, .int .i64 0, .string ⟨#[]⟩, .bool false, .bool false]) ∧ i0.size = 5 ∧ i0.bytes = 40 := ⟨(Tryz.prog.info? 51).get (by kernel_rfl), by kernel_rfl, by kernel_rfl, by kernel_rfl, by kernel_rfl⟩
  have hinf : (Tryz.prog.info? 51).map (·.size) = some 5 := by rw [hi0]; simp [hzs]
  have hz2 : ¬ ((i : Int) = (n : Int)) := by omega
  have hw1 : IntKind.i64.wrap ((n : Int) + 1) = (n : Int) + 1 := by rw [IntKind.wrap_i64]; omega
  have hw2 : IntKind.i64.wrap ((i : Int) + 1) = (i : Int) + 1 := by rw [IntKind.wrap_i64]; omega
  have hw3 : IntKind.i64.wrap ((n : Int) + 1 - (i : Int)) = (n : Int) + 1 - (i : Int) := by rw [IntKind.wrap_i64]; omega
  have hz3 : (cap : Int) < (n : Int) + 1 := by omega
  have htn : ((i : Int) + 1).toNat = i + 1 := by omega
  have hbw : b < w.heap.size := (Array.getElem?_eq_some_iff.1 hb).1
  have hvw : vb < w.heap.size := (Array.getElem?_eq_some_iff.1 hx).1
  obtain ⟨mv, hmv⟩ : ∃ mv, mv = (cur.toList.take (n * 5)).drop (i * 5) := ⟨_, rfl⟩
  obtain ⟨xs, hxs'⟩ : ∃ xs, xs = curx.toList.take 5 := ⟨_, rfl⟩
  have hxl : xs.length = 5 := by rw [hxs']; simp; omega
  have hml : mv.length = (n - i) * 5 := by rw [hmv]; simp; omega
  have hold : (Builtin.firstCells i0.size i (.slice (some ⟨b, 0, none⟩) i cap)).run Tryz.prog w.drew = .ok (cur.toList.take (i * 5)).toArray w.drew := by
    rw [hzs]
    exact run_firstCells_some w.drew 5 i ⟨b, 0, none⟩ i cap (cur.toList.take (i * 5)) (by simp; omega) (fun j v hj => by
      rw [Addr.add_lit]
      rw [List.getElem?_take] at hj
      split at hj
      · have hb1 : w.drew.heap[b]? = some (.cells cur e (0, 0)) := hb
        simp only [World.cell?, hb1]; simpa using hj
      · cases hj)
  have hik : i + (n + 1 - i) = n + 1 := by omega
  have hkk : (n : Int) + 1 - (i : Int) = ((n + 1 - i : Nat) : Int) := by omega
  have hbig : (n + 1) * 40 ≤ 140737488355328 := by omega
  have hrz : ∀ ty, (Builtin.append_ #[25, 3] ty #[.slice (some ⟨b, 0, none⟩) i cap, .int .i64 ((n : Int) + 1 - (i : Int))]).run Tryz.prog w =
      .ok (.slice (some ⟨w.heap.size, 0, none⟩) (n + 1) (grownCap w (n + 1) cap 51)) (w.drew.alloc (.cells ((cur.toList.take (i * 5)).toArray ++ Builtin.zeroCells #[.int .i64 0, .int .i64 0, .string ⟨#[]⟩, .bool false, .bool false] (n + 1 - i) ++ Builtin.zeroCells #[.int .i64 0, .int .i64 0, .string ⟨#[]⟩, .bool false, .bool false] (grownCap w (n + 1) cap 51 - (n + 1))) 51)) := fun ty => by
    have h := Lib.run_append_grow_zeros w 25 3 ty 51 i0 _ .i64 .i64 Tryz.underlying25 Tryz.underlying3 hi0 hz0 (some ⟨b, 0, none⟩) i cap (cur.toList.take (i * 5)) hold (n + 1 - i) (by omega) (by omega) (by omega) (by omega) (by rw [hzb]; omega) (by rw [hzb, hik]; exact growslice_fits hroom hbig)
    rw [hik] at h
    rw [hkk]
    exact h
  obtain ⟨G, hG⟩ : ∃ G, G = grownCap w (n + 1) cap 51 := ⟨_, rfl⟩
  rw [← hG] at hrz
  have hGn : n + 1 ≤ G := by rw [hG]; exact grownCap_ge w _ _ _
  have hG63 : G ≤ maxLen := by
    rw [hG]; exact grownCap_le_maxLen w (n + 1) cap 51 (by unfold maxLen; omega)
  have hG63' : G ≤ 9223372036854775807 := hG63
  obtain ⟨ROW, hROW⟩ : ∃ ROW : Array Value, ROW = (cur.toList.take (i * 5)).toArray ++ Builtin.zeroCells #[.int .i64 0, .int .i64 0, .string ⟨#[]⟩, .bool false, .bool false] (n + 1 - i) ++ Builtin.zeroCells #[.int .i64 0, .int .i64 0, .string ⟨#[]⟩, .bool false, .bool false] (G - (n + 1)) := ⟨_, rfl⟩
  rw [← hROW] at hrz
  have hRs : ROW.size = G * 5 := by
    rw [hROW]
    simp [zeroCells_size]; omega
  obtain ⟨r2, hr2⟩ : ∃ r2 : Array Value, r2 = (ROW.toList.take (i * 5) ++ xs ++ ROW.toList.drop (i * 5 + xs.length)).toArray := ⟨_, rfl⟩
  have hr2s : r2.size = G * 5 := by rw [hr2]; simp [hxl, hRs]; omega
  obtain ⟨r3, hr3⟩ : ∃ r3 : Array Value, r3 = (r2.toList.take ((i + 1) * 5) ++ mv ++ r2.toList.drop ((i + 1) * 5 + mv.length)).toArray := ⟨_, rfl⟩
  have hr3s : r3.size = G * 5 := by rw [hr3]; simp [hml, hr2s]; omega
  have hNn : ∀ W : World, W.heap = (w.alloc (.cells ROW 51)).heap → W.heap[w.heap.size]? = some (.cells ROW 51 (0, 0)) := fun W hW => by rw [hW]; show (w.heap.push _)[w.heap.size]? = _; simp
  have hold2 : ∀ (W : World) (k : Nat), W.heap = (w.alloc (.cells ROW 51)).heap → k < w.heap.size → W.heap[k]? = w.heap[k]? := fun W k hW hk => by rw [hW]; exact Below.heap_alloc w _ k hk
  have hcpA : ∀ W : World, W.heap = (w.alloc (.cells ROW 51)).heap → ∀ ty dc, (Builtin.copy_ #[25, 25] ty #[.slice (some ⟨w.heap.size, i * 5, none⟩) (n + 1 - i) dc, .slice (some ⟨vb, 0, none⟩) 1 vc]).run Tryz.prog W = .ok (goInt ((1 : Nat) : Int)) (W.setRow w.heap.size r2) := fun W hW ty dc => by
    have := run_copy_rowE (P := Tryz.prog) W 25 25 ty 51 w.heap.size (i * 5) (n + 1 - i) dc ⟨vb, 0, none⟩ 1 vc 5 1 ROW 51 xs Tryz.underlying25 hinf (hNn W hW) (by simp only [Nat.min_def]; split <;> omega) (by omega)
      (fun j v hj => by
        rw [Addr.add_lit, hxs', List.getElem?_take] at *
        split at hj
        · simp only [World.cell?, hold2 W vb hW hvw, hx]; simpa using hj
        · cases hj) (by rw [hxl, hRs]; omega) (fun v hv => h1x v (by rw [← hxs']; exact hv))
    rw [this, ← hr2]
  have hcpB : ∀ W : World, W.heap = ((w.alloc (.cells ROW 51)).setRow w.heap.size r2).heap → ∀ ty dc sc, (Builtin.copy_ #[25, 25] ty #[.slice (some ⟨w.heap.size, (i + 1) * 5, none⟩) (n - i) dc, .slice (some ⟨b, i * 5, none⟩) (n - i) sc]).run Tryz.prog W = .ok (goInt ((n - i : Nat) : Int)) (W.setRow w.heap.size r3) := fun W hW ty dc sc => by
    have hbb : W.heap[b]? = some (.cells cur e (0, 0)) := by rw [hW, (But.setRow _ w.heap.size r2).block b (by omega), hold2 _ b rfl hbw]; exact hb
    have hnn : W.heap[w.heap.size]? = some (.cells r2 51 (0, 0)) := by rw [hW]; exact setRow_heap _ _ ROW r2 51 (0, 0) (hNn _ rfl)
    have := run_copy_rowE (P := Tryz.prog) W 25 25 ty 51 w.heap.size ((i + 1) * 5) (n - i) dc ⟨b, i * 5, none⟩ (n - i) sc 5 (n - i) r2 51 mv Tryz.underlying25 hinf hnn (by simp only [Nat.min_def]; split <;> omega) hml
      (fun j v hj => by
        rw [Addr.add_lit, hmv, List.getElem?_drop, List.getElem?_take] at *
        split at hj
        · simp only [World.cell?, hbb]; simpa using hj
        · cases hj) (by rw [hml, hr2s]; omega) (fun v hv => h1c v (by rw [hmv] at hv; exact List.mem_of_mem_drop hv))
    rw [this, ← hr3]
  have hfin : ((((w.alloc (.cells ROW 51)).setRow w.heap.size r2).setRow w.heap.size r3)).heap[w.heap.size]? = some (.cells r3 51 (0, 0)) := setRow_heap _ _ r2 r3 51 (0, 0) (setRow_heap _ _ ROW r2 51 (0, 0) (hNn _ rfl))
  have hss : (((w.alloc (.cells ROW 51)).setRow w.heap.size r2).setRow w.heap.size r3) = (w.alloc (.cells ROW 51)).setRow w.heap.size r3 := setRow_setRow _ _ _ _
  have hval : r3.toList.take ((n + 1) * 5) = cur.toList.take (i * 5) ++ curx.toList.take 5 ++ (cur.toList.take (n * 5)).drop (i * 5) := by
    rw [← hmv, ← hxs']
    have e0 : ROW.toList.take (i * 5) = cur.toList.take (i * 5) := by
      rw [hROW]
      simp only [Array.toList_append]
      rw [List.append_assoc]
      exact List.take_left' (by simp; omega)
    have e1 : r2.toList.take ((i + 1) * 5) = cur.toList.take (i * 5) ++ xs := by
      rw [hr2]
      show (ROW.toList.take (i * 5) ++ xs ++ _).take _ = _
      rw [e0]
      exact List.take_left' (by simp [hxl]; omega)
    rw [hr3, e1]
    show (cur.toList.take (i * 5) ++ xs ++ mv ++ _).take _ = _
    exact List.take_left' (by simp [hxl, hml]; omega)
  have hq1 : (0 : Int) ≤ (i : Int) + 1 := by omega
  have hin : i ≤ n := by omega
  have hq2 : ¬ (G = i + 1) := by omega
  have hq3 : (i : Int) ≤ (n : Int) + 1 := by omega
  have hq4 : ¬ (G = i) := by omega
  have hq5 : ¬ (cap = i) := by omega
  have hq6 : (i : Int) ≤ (n : Int) := by omega
  clear hkk hik hold hROW hG hmv hxs' hr2 hr3 e hb
  go_enter Tryz.func53, Tryz.ntmps53
  go_wp2_with (first
    | (at_builtin; refine Lib.wpList_append_run _ rfl _ _ _ _ rfl _ _ rfl rfl _ _ (hrz _) ?_)
    | (refine wpList_copy_runI _ rfl _ _ 25 25 rfl _ _ rfl rfl (hcpA _ (by exact rfl) _ _) ?_))
  go_region_law_o (refine step_copy_runI rfl _ _ 25 25 rfl (.slice (some ⟨w.heap.size, (i + 1) * 5, none⟩) (n - i) (G - (i + 1))) (.slice (some ⟨b, i * 5, none⟩) (n - i) (cap - i)) (by simp [Act.eval, Act.put]) (by simp [Act.eval, Act.put]) (hcpB ((w.alloc (.cells ROW 51)).drew.setRow w.heap.size r2).drew rfl 3 (G - (i + 1)) (cap - i)) ?_)
  go_wp2
  go_ret
  exact ⟨G, rfl, hGn, hG63, .of ROW r3 51 rfl rfl rfl (by rw [← hss]; rfl), r3, hfin, hr3s, hval⟩
end
end Go.Am
end
section
set_option maxRecDepth 100000
set_option maxHeartbeats 0
namespace Go.Am
open Go Go.Proofs Go.RowKit Go.Lib
noncomputable section
theorem ins_endB (base : Option Addr) (n cap vb vc : Nat) (w w1 : World) (v1 : Value) (hn : n ≤ cap) (hcap : cap ≤ 9223372036854775807) (hnil : base = none → n = 0 ∧ cap = 0)
    (hr : (Builtin.append_ #[25, 25] 25 #[.slice base n cap, .slice (some ⟨vb, 0, none⟩) 1 vc]).run Tryz.prog w = .ok v1 w1) :
    Calls pg 53 #[.slice base n cap, .int .i64 n, .slice (some ⟨vb, 0, none⟩) 1 vc] w fun r w' => r = .returned v1 ∧ w' = w1 := by
  have mixed := mo
  have hnn : n ≤ n := Nat.le_refl n
  have hn0 : (0 : Int) ≤ n := by omega
  cases base with
  | none =>
    obtain ⟨rfl, rfl⟩ := hnil rfl
    go_enter Tryz.func53, Tryz.ntmps53
    go_wp2_with (refine Lib.wpList_append_run _ rfl _ _ _ _ rfl _ _ rfl rfl _ _ hr ?_)
    go_ret
    exact ⟨rfl, rfl⟩
  | some ad =>
    obtain ⟨b, o, s⟩ := ad
    go_enter Tryz.func53, Tryz.ntmps53
    go_wp2_with (refine Lib.wpList_append_run _ rfl _ _ _ _ rfl _ _ rfl rfl _ _ hr ?_)
    all_goals (go_ret; exact ⟨rfl, rfl⟩)
theorem insB_ok (L : List V) (x : V) (i : Nat) (hi : i ≤ L.length) (hL : L.length ≤ 1000000) (hes : ∀ y ∈ x :: L, y.cells.length = 5) :
    ACallM pg 53 [.uq L, I i, .uq [x]] [] (.uq (L.take i ++ x :: L.drop i)) [.any, .any, .any] := by
  refine ⟨by kernel_rfl, fun S w vo vs fo hR hnd hfS hlt hRx hSlt _ => ?_⟩
  cases hRx
  obtain ⟨v0, us, f0, f', rfl, rfl, h0, h1⟩ := R.uncons hR
  cases h1 with
  | c h2 =>
  cases h2 with
  | @uq _ cx fx _ _ _ vb vc ex es2 curx x1 x2 x3 x4 x5 x6 x7 x8 x9 x10 =>
  cases x10
  have hes2 : es2 = 5 := by rw [← x2 x (by simp)]; exact hes x (by simp)
  subst hes2
  simp only [List.append_nil] at hR hnd hfS hlt
  have hnd2 := List.nodup_append.1 hnd
  have hvbin : vb ∈ f0 ++ vb :: fx := by simp
  have hvlt := hlt vb hvbin
  have hfx : ∀ k, k ∈ fx → k ∈ f0 ++ vb :: fx := fun k hk => by simp [hk]
  have hf0 : ∀ k, k ∈ f0 → k ∈ f0 ++ vb :: fx := fun k hk => by simp [hk]
  have hndx : (vb :: fx).Nodup := hnd2.2.1
  rw [List.nodup_cons] at hndx
  have hcxl : cx.length = 5 := by rw [← x3.length]; have := hes x (by simp); simpa using this
  have hcx2 : curx.toList.take 5 = cx := by simpa using x9
  have hsx : 5 ≤ curx.size := by rw [x8]; have : 1 ≤ vc := x6; omega
  have hnews : ∀ j u, cx[j]? = some u → w.cell? ((⟨vb, 0, none⟩ : Addr).add j) = some u := by
    intro j u hu
    rw [Addr.add_lit]
    simp only [World.cell?, x5, Nat.zero_add]
    have hj : j < 5 := by
      rcases Nat.lt_or_ge j cx.length with h' | h'
      · omega
      · simp [List.getElem?_eq_none h'] at hu
    rw [← hcx2, List.getElem?_take_of_lt hj] at hu
    simpa using hu
  obtain ⟨i0, hi0, hz0, hzs, hzb⟩ : ∃ i0 : TypeInfo, Tryz.prog.info? 51 = some i0 ∧ i0.zero = some (.agg #[.int .i64 0, .int .i64 0, .string ⟨#[]⟩, .bool false, .bool false]) ∧ i0.size = 5 ∧ i0.bytes = 40 := ⟨(Tryz.prog.info? 51).get (by kernel_rfl), by kernel_rfl, by kernel_rfl, by kernel_rfl, by kernel_rfl⟩
  have fin : ∀ {r : Ending} {v : Value} {w' : World} {fp : List Nat}, r = .returned v → R S w' [.uq (L.take i ++ x :: L.drop i)] [v] fp → fp.Nodup → (∀ k, k ∈ fp → k < w'.heap.size ∧ (k ∈ f0 ++ vb :: fx ∨ w.heap.size ≤ k)) → (∀ k o, k ∈ fp → ¬ S k o) → Far (f0 ++ vb :: fx) w w' →
      ∃ v S' fp fo', r = .returned v ∧ R S' w' [.uq (L.take i ++ x :: L.drop i)] [v] fp ∧ R S' w' [.any, .any, .any] [v0, .int .i64 i, .slice (some ⟨vb, 0, none⟩) 1 vc] fo' ∧ (fp ++ fo').Nodup ∧ (∀ b, b ∈ fp ++ fo' → b < w'.heap.size ∧ (b ∈ f0 ++ vb :: fx ∨ w.heap.size ≤ b)) ∧ (∀ b o, b ∈ fp ++ fo' → ¬ S' b o) ∧
        (∀ b o, S b o → S' b o) ∧ (∀ b o, S' b o → S b o ∨ b ∈ f0 ++ vb :: fx ∨ w.heap.size ≤ b) ∧ (∀ b o, S' b o → b < w'.heap.size) ∧ Far (f0 ++ vb :: fx) w w' := by
    intro r v w' fp e hR' hn hm hap hF
    exact ⟨v, S, fp, [], e, hR', .any (.any (.any .nil)), by simpa using hn, by simpa using hm, by simpa using hap, fun _ _ h => h, fun _ _ h => .inl h, fun b o h => by have := hSlt b o h; have := hF.size; omega, hF⟩
  simp only [List.append_nil]
  by_cases hin : i = L.length
  · subst hin
    obtain ⟨v', w', fy', r1, r2, r3, r4, r5, r6⟩ := R.app2 (P := Tryz.prog) (t := 25) (ty := 25) (e := 51) (i := i0) (l := L) (l2 := [x]) Tryz.underlying25 hi0 hz0 (by rw [hzs]; rfl) (by rw [hzs]; decide) h0 hnd2.1 (fun b o hb => hfS b o (hf0 b hb)) hSlt (fun b hb => hlt b (hf0 b hb))
      (fun y hy => by rw [hzs]; exact hes y (by simp [hy])) (fun y hy => by rw [hzs]; exact hes y (by simp at hy; simp [hy])) (by simpa using x3) hndx.2 (fun b hb hb' => hnd2.2.2 b hb' b (by simp [hb]) rfl) (fun b hb => hlt b (hfx b hb)) x4 (x := .slice (some ⟨vb, 0, none⟩) 1 vc)
      ⟨by simp, _, _, rfl, hnews⟩ (by simp [maxLen]; omega) (by rw [hzb]; simp; omega)
    have hcall : ∃ base n cap, v0 = .slice base n cap ∧ n = L.length ∧ n ≤ cap ∧ cap ≤ 9223372036854775807 ∧ (base = none → n = 0 ∧ cap = 0) := by
      cases h0 with
      | uq0 hh => exact ⟨_, _, _, rfl, rfl, Nat.le_refl _, by omega, fun _ => ⟨rfl, rfl⟩⟩
      | uq b cap e es cur g1 g2 g3 g4 g5 g6 g7 g8 g9 g10 => exact ⟨_, _, _, rfl, rfl, g6, g7.1, fun e => by cases e⟩
    obtain ⟨base, n, cap, rfl, rfl, hnc, hc63, hnil⟩ := hcall
    refine (ins_endB base L.length cap vb vc w w' v' hnc hc63 hnil r1).mono ?_
    rintro r w1 ⟨rfl, rfl⟩
    refine fin rfl (by simpa using r2) r3 (fun k hk => ⟨r5 k hk, ?_⟩) (fun k o hk hs => ?_) ⟨r6.os, r6.tape, r6.output, r6.size, fun k hk hk' => r6.block k hk (fun h => hk' (hf0 k h))⟩
    · rcases r4 k hk with h | h | h
      · exact .inl (hf0 k h)
      · exact .inl (hfx k h)
      · exact .inr h
    · rcases r4 k hk with h | h | h
      · exact hfS k o (hf0 k h) hs
      · exact hfS k o (hfx k h) hs
      · have := hSlt k o hs; omega
  · have hlt' : i < L.length := by omega
    cases h0 with
    | uq0 hh => simp at hlt'
    | @uq _ cs fq _ _ _ b cap e es cur g1 g2 g3 g4 g5 g6 g7 g8 g9 g10 =>
    cases g10
    simp only [List.append_nil] at hnd hfS hlt hnd2 hvbin hfx hf0 fin ⊢
    have hes1 : es = 5 := by
      have hm := List.getElem_mem hlt'
      rw [← g2 _ hm]; exact hes _ (by simp [hm])
    subst hes1
    have hbin : b ∈ b :: fq ++ vb :: fx := by simp
    have hbv : vb ≠ b := fun e => hnd2.2.2 b (by simp) vb (by simp) e.symm
    have hbq : b ∉ fq ∧ fq.Nodup := by have := hnd2.1; rw [List.nodup_cons] at this; exact this
    have hbx : b ∉ fx := fun h => hnd2.2.2 b (by simp) b (by simp [h]) rfl
    have hqx : ∀ k, k ∈ fq → k ∉ fx := fun k hk hk' => hnd2.2.2 k (by simp [hk]) k (by simp [hk']) rfl
    have hcsl : cs.length = L.length * 5 := by rw [← g3.length]; exact flat_len (fun y hy => hes y (by simp [hy]))
    have e1 : L.flatMap V.cells = (L.take i).flatMap V.cells ++ (L.drop i).flatMap V.cells := by rw [← List.flatMap_append, List.take_append_drop]
    rw [e1] at g3
    obtain ⟨c1, c2, q1, q2, hc, hq, k1, k2⟩ := R.split g3
    have hc1 : c1.length = i * 5 := by rw [← k1.length, flat_len (es := 5) (fun y hy => hes y (by have := List.mem_of_mem_take hy; simp [this]))]; simp; omega
    have ht1 : cur.toList.take (i * 5) = c1 := by
      have : cs.take (i * 5) = c1 := by rw [hc, ← hc1]; exact List.take_left
      rw [← this, ← g9, List.take_take, Nat.min_eq_left (by omega)]
    have hd2 : (cur.toList.take (L.length * 5)).drop (i * 5) = c2 := by rw [g9, hc, ← hc1]; exact List.drop_left
    have hall : ∀ y ∈ L.take i ++ x :: L.drop i, y.cells.length = 5 := by
      intro y hy
      rcases List.mem_append.1 hy with hy | hy
      · exact hes y (by have := List.mem_of_mem_take hy; simp [this])
      · rcases List.mem_cons.1 hy with rfl | hy
        · exact hes _ (by simp)
        · exact hes y (by have := List.mem_of_mem_drop hy; simp [this])
    have hlen : (L.take i ++ x :: L.drop i).length = L.length + 1 := by simp; omega
    have hone : ∀ u ∈ c1 ++ cx ++ c2, u.oneCell' = true := by
      intro u hu
      rcases List.mem_append.1 hu with hu | hu
      · rcases List.mem_append.1 hu with hu | hu
        · exact g4 u (by rw [hc]; simp [hu])
        · exact x4 u hu
      · exact g4 u (by rw [hc]; simp [hu])
    have hne : L.take i ++ x :: L.drop i ≠ [] := by simp
    have build : ∀ (w' : World), (∀ k, k ∈ fq → w'.heap[k]? = w.heap[k]?) → (∀ k, k ∈ fx → w'.heap[k]? = w.heap[k]?) → (∀ b' o, S b' o → w'.cell? ⟨b', o, none⟩ = w.cell? ⟨b', o, none⟩) →
        ∀ (B G : Nat) (e' : TypeId) (cur2 : Array Value), w'.heap[B]? = some (.cells cur2 e' (0, 0)) → L.length + 1 ≤ G → G ≤ maxLen → cur2.size = G * 5 → cur2.toList.take ((L.length + 1) * 5) = c1 ++ cx ++ c2 →
          R S w' [.uq (L.take i ++ x :: L.drop i)] [.slice (some ⟨B, 0, none⟩) (L.length + 1) G] (B :: (q1 ++ fx ++ q2)) := by
      intro w' hq' hx' hS' B G e' cur2 hB hG1 hG2 hsz hval
      have r1 := k1.mono (fun _ _ h => h) hS' (fun k hk => hq' k (by rw [hq]; simp [hk]))
      have r2 := x3.mono (fun _ _ h => h) hS' (fun k hk => hx' k hk)
      have r3 := k2.mono (fun _ _ h => h) hS' (fun k hk => hq' k (by rw [hq]; simp [hk]))
      have rr := R.append (R.append r1 r2) r3
      have := R.uq (S := S) (w := w') (xs := []) (vs := []) (fp := []) (l := L.take i ++ x :: L.drop i) (cs := c1 ++ cx ++ c2) (fq := q1 ++ fx ++ q2) B G e' 5 cur2 (by decide) hall (by simpa [List.flatMap_append, List.append_assoc] using rr) hone hB (by omega) ⟨hG2, fun e => absurd e hne⟩ hsz (by rw [hlen]; exact hval) .nil
      rw [hlen] at this
      simpa using this
    have hndf : (q1 ++ fx ++ q2).Nodup := by
      have h1 := hbq.2
      rw [hq, List.nodup_append] at h1
      rw [List.nodup_append, List.nodup_append]
      refine ⟨⟨h1.1, hndx.2, fun y hy z hz e => hqx y (by rw [hq]; simp [hy]) (e ▸ hz)⟩, h1.2.1, fun y hy z hz e => ?_⟩
      subst e
      rcases List.mem_append.1 hy with hy | hy
      · exact h1.2.2 y hy y hz rfl
      · exact hqx y (by rw [hq]; simp [hz]) hy
    have hsub : ∀ k, k ∈ q1 ++ fx ++ q2 → k ∈ b :: fq ++ vb :: fx := by
      intro k hk
      rw [hq]
      rcases List.mem_append.1 hk with hk | hk
      · rcases List.mem_append.1 hk with hk | hk <;> simp [hk]
      · simp [hk]
    have hbnot : b ∉ q1 ++ fx ++ q2 := by
      intro h
      rcases List.mem_append.1 h with h | h
      · rcases List.mem_append.1 h with h | h
        · exact hbq.1 (by rw [hq]; simp [h])
        · exact hbx h
      · exact hbq.1 (by rw [hq]; simp [h])
    have hSb : ∀ b' o', S b' o' → b' ≠ b := fun b' o' hs e => hfS b o' hbin (e ▸ hs)
    by_cases hroom : L.length + 1 ≤ cap
    · refine (ins_shiftB b cap vb vc i L.length cur curx e ex w g5 x5 hbv hlt' hroom g7.1 g8 hsx (by rw [g9]; exact g4) (by rw [hcx2]; exact x4)).mono ?_
      rintro r w' ⟨rfl, hB, cur2, z1, z2, z3⟩
      rw [ht1, hcx2, hd2] at z3
      have hR' := build w' (fun k hk => hB.block k (fun e => hbq.1 (e ▸ hk))) (fun k hk => hB.block k (fun e => hbx (e ▸ hk))) (fun b' o hs => hB.cell (hSb b' o hs)) b cap e cur2 z1 hroom g7.1 z2 z3
      refine fin rfl hR' (List.nodup_cons.2 ⟨hbnot, hndf⟩) (fun k hk => ?_) (fun k o hk => ?_) ⟨hB.os, hB.tape, hB.output, by rw [hB.size]; exact Nat.le_refl _, fun k _ hk => hB.block k (fun e => hk (e ▸ hbin))⟩
      · have hm : k ∈ b :: fq ++ vb :: fx := by
          rcases List.mem_cons.1 hk with rfl | hk
          · exact hbin
          · exact hsub k hk
        exact ⟨by rw [hB.size]; exact hlt k hm, .inl hm⟩
      · rcases List.mem_cons.1 hk with rfl | hk
        · exact hfS _ o hbin
        · exact hfS k o (hsub k hk)
    · refine (ins_growB b cap vb vc i L.length cur curx e ex w g5 x5 hlt' g6 (by omega) hL g8 hsx (by rw [g9]; exact g4) (by rw [hcx2]; exact x4)).mono ?_
      rintro r w' ⟨G, rfl, hG1, hG2, hN, cur2, z1, z2, z3⟩
      rw [ht1, hcx2, hd2] at z3
      have hbl : ∀ k, k ∈ b :: fq ++ vb :: fx → w'.heap[k]? = w.heap[k]? := fun k hk => hN.block k (hlt k hk)
      have hR' := build w' (fun k hk => hbl k (by simp [hk])) (fun k hk => hbl k (by simp [hk])) (fun b' o hs => World.cell?_of_block (w := w) (a := ⟨b', o, none⟩) (hN.block b' (hSlt b' o hs))) w.heap.size G 51 cur2 z1 hG1 hG2 z2 z3
      refine fin rfl hR' (List.nodup_cons.2 ⟨fun h => by have := hlt _ (hsub _ h); omega, hndf⟩) (fun k hk => ?_) (fun k o hk hs => ?_) ⟨hN.os, hN.tape, hN.output, by rw [hN.size]; omega, fun k hk _ => hN.block k hk⟩
      · rcases List.mem_cons.1 hk with rfl | hk
        · exact ⟨by rw [hN.size]; omega, .inr (Nat.le_refl _)⟩
        · have := hlt k (hsub k hk); exact ⟨by rw [hN.size]; omega, .inl (hsub k hk)⟩
      · rcases List.mem_cons.1 hk with rfl | hk
        · have := hSlt _ o hs; omega
        · exact hfS k o (hsub k hk) hs
end
end Go.Am
end
section
set_option maxRecDepth 100000
set_option maxHeartbeats 0
namespace Go.Am
open Go
noncomputable section
def c23 : SC := (.seq (.reg [oO 3 37 1,oD 4 (.assign (.const .nilIface))] [0,3,9,11,67,77,78,83,85,88,97,116,127,146,159]) (.seq (.reg [oF 13 37 3 0,oL 14 3 13,oK 15 .eql 3 14 2 3] [0,3,9,11,15,67,77,78,83,85,88,97,116,127,146,159]) (.seq (.cond (.tmp 15) (.seq (.reg [oU (oM 17 0) [20,21],oU (oD 18 (.nilCheck (.tmp 17))) [20,21],oU (oL 19 30 18) [20,21],oU (oF 20 37 3 1) [17,18,19],oU (oL 21 3 20) [17,18,19],oC 22 33 #[.tmp 19,.tmp 21] #[30,3],oM 16 22,oU (oX 23 16 0) [24],oU (oX 24 16 1) [23,5],oU (oG 5 23) [24],oG 6 24] [0,3,5,6,9,11,16,22,23,24,67,77,78,83,85,88,97,116,127,146,159]) (.seq (.reg [oF 25 37 3 1,oL 26 3 25,oF 27 37 3 2,oL 28 3 27,oF 29 37 3 13,oL 30 9 29,oD 31 (.build 51 #[(0,.tmp 26),(1,.tmp 28),(2,.tmp 30),(3,.const (.bool true))]),oA 7 51,oS 51 7 31] [0,3,5,6,7,9,11,16,22,23,24,67,77,78,83,85,88,97,116,127,146,159]) (.seq (.block 0 (.seq (.reg [oM 40 6,oD 41 (.unOp .not 4 (.tmp 40)),oG 39 41] [0,3,5,7,9,11,16,22,23,39,41,67,77,78,83,85,88,97,116,127,146,159]) (.seq (.cond (.tmp 39) (.seq (.reg [oM 42 0,oM 43 0,oM 47 5,oU (oD 44 (.nilCheck (.tmp 43))) [48,49],oU (oF 45 30 44 0) [48,49],oU (oL 46 25 45) [48,49],oU (oL 48 51 7) [44,45,46],oU (oD 49 (.buildSlice 25 1 #[(0,.tmp 48)])) [44,45,46],oC 50 53 #[.tmp 46,.tmp 47,.tmp 49] #[25,3,25],oD 51 (.nilCheck (.tmp 42)),oF 52 30 51 0,oS 25 52 50] [0,9,11,67,77,78,83,85,88,97,116,127,146,159]) .skip) (.seq (.reg [oU (oM 54 0) [58,62,63],oU (oD 55 (.nilCheck (.tmp 54))) [58,62,63],oU (oF 56 30 55 0) [58,62,63],oU (oL 57 25 56) [58,62,63],oU (oM 58 5) [54,55,56,57,62,63],oU (oJ 59 25 57 58) [62,63],oU (oF 60 51 59 1) [62,63],oU (oL 61 3 60) [62,63],oU (oF 62 37 3 2) [54,55,56,57,58,59,60,61],oU (oL 63 3 62) [54,55,56,57,58,59,60,61],oB 64 .geq 3 61 63 3,oG 53 64] [0,3,5,7,9,11,16,22,23,53,64,67,77,78,83,85,88,97,116,127,146,159]) (.seq (.cond (.tmp 53) (.seq (.reg [oF 65 37 3 1,oL 66 3 65,oD 67 (.call { callee := .value (.func 39),args := #[.const (.string ⟨#[98,114,111,107,101,114]⟩),.tmp 66,.const (.int .i64 11)],argTypes := #[9,3,55] }),oG 4 67] [0,4,9,11,67,77,78,83,85,88,97,116,127,146,159]) .ret) (.seq (.reg [oU (oM 69 0) [72,73],oU (oD 70 (.nilCheck (.tmp 69))) [72,73],oU (oL 71 30 70) [72,73],oU (oF 72 37 3 1) [69,70,71],oU (oL 73 3 72) [69,70,71],oC 74 19 #[.tmp 71,.tmp 73] #[30,3],oG 68 74] [0,3,5,7,9,11,16,22,23,67,68,74,77,78,83,85,88,97,116,127,146,159]) (.seq (.cond (.tmp 68) (.seq (.reg [oF 75 37 3 1,oL 76 3 75,oD 77 (.call { callee := .value (.func 39),args := #[.const (.string ⟨#[98,114,111,107,101,114]⟩),.tmp 76,.const (.int .i64 10)],argTypes := #[9,3,55] }),oG 4 77] [0,4,9,11,67,77,78,83,85,88,97,116,127,146,159]) .ret) (.seq (.reg [oU (oM 32 0) [36,37],oU (oD 33 (.nilCheck (.tmp 32))) [36,37],oU (oF 34 30 33 0) [36,37],oU (oL 35 25 34) [36,37],oU (oM 36 5) [32,33,34,35,37],oU (oL 37 51 7) [32,33,34,35,36],oJ 38 25 35 36,oS 51 38 37] [0,9,11,67,77,78,83,85,88,97,116,127,146,159]) .skip)) .skip))) .skip))) .skip))) (.seq (.reg [oD 4 (.assign (.const .nilIface))] [0,4,9,11,67,77,78,83,85,88,97,116,127,146,159]) .ret)))) .skip) (.seq (.reg [oU (oM 79 0) [82],oU (oD 80 (.nilCheck (.tmp 79))) [82],oU (oL 81 30 80) [82],oU (oL 82 37 3) [79,80,81],oC 83 54 #[.tmp 81,.tmp 82] #[30,37],oM 78 83,oU (oX 84 78 0) [85],oU (oX 85 78 1) [84,8],oU (oG 8 84) [85],oG 9 85] [0,3,8,9,11,67,77,78,83,84,85,88,97,116,127,146,159]) (.seq (.reg [oM 86 9,oD 87 (.binOp .neq 32 (.tmp 86) (.const .nilIface) 32)] [0,3,8,9,11,67,77,78,83,84,85,87,88,97,116,127,146,159]) (.seq (.cond (.tmp 87) (.seq (.reg [oM 88 9,oG 4 88] [0,4,9,11,67,77,78,83,85,88,97,116,127,146,159]) .ret) .skip) (.seq (.reg [oM 89 0,oD 90 (.nilCheck (.tmp 89)),oF 91 30 90 0,oL 92 25 91,oM 93 8,oJ 94 25 92 93,oA 10 103,oS 103 10 94] [0,3,8,9,10,11,67,77,78,83,84,85,88,89,90,91,92,93,94,97,116,127,146,159]) (.seq (.reg [oF 95 37 3 1,oL 96 3 95,oD 97 (.call { callee := .value (.func 39),args := #[.const (.string ⟨#[98,114,111,107,101,114]⟩),.tmp 96,.const (.int .i64 10)],argTypes := #[9,3,55] }),oG 11 97] [0,3,8,9,10,11,67,77,78,83,84,85,88,89,90,91,92,93,94,97,116,127,146,159]) (.seq (.reg [oF 98 37 3 0,oL 99 3 98] [0,3,8,9,10,11,67,77,78,83,84,85,88,89,90,91,92,93,94,97,98,99,116,127,146,159]) (.seq (.block 1 (.seq (.reg [oK 101 .eql 3 99 3 3,oG 100 101] [0,3,8,9,10,11,67,77,78,83,84,85,88,89,90,91,92,93,94,97,98,99,100,101,116,127,146,159]) (.seq (.cond (.tmp 100) (.seq (.reg [oL 102 103 10,oD 103 (.nilCheck (.tmp 102)),oF 104 51 103 3,oL 105 4 104,oM 106 105,oU (oW 106 false (oM 107 0)) [110,111,112,113],oU (oW 106 false (oD 108 (.nilCheck (.tmp 107)))) [110,111,112,113],oU (oW 106 false (oL 109 30 108)) [110,111,112,113],oU (oW 106 false (oL 110 103 10)) [107,108,109],oU (oW 106 false (oD 111 (.nilCheck (.tmp 110)))) [107,108,109],oU (oW 106 false (oF 112 51 111 0)) [107,108,109],oU (oW 106 false (oL 113 3 112)) [107,108,109],oW 106 false (oC 114 19 #[.tmp 109,.tmp 113] #[30,3]),oR 115 106 true 114] [0,8,9,10,11,67,77,78,83,84,85,88,89,90,91,92,93,94,97,102,103,104,105,106,114,115,116,127,146,159]) (.seq (.cond (.tmp 115) (.seq (.reg [oM 116 11,oG 4 116] [0,4,9,11,67,77,78,83,85,88,97,116,127,146,159]) .ret) .skip) (.seq (.reg [oL 117 103 10,oD 118 (.nilCheck (.tmp 117)),oF 119 51 118 3,⟨none,.store 4 (.tmp 119) (.const (.bool true)),none,[]⟩] [0,9,11,67,77,78,83,85,88,97,116,127,146,159]) .skip))) (.seq (.reg [oK 121 .eql 3 99 4 3,oG 120 121] [0,3,8,9,10,11,67,77,78,83,84,85,88,89,90,91,92,93,94,97,98,99,116,120,121,127,146,159]) (.seq (.cond (.tmp 120) (.seq (.reg [oL 122 103 10,oD 123 (.nilCheck (.tmp 122)),oF 124 51 123 3,oL 125 4 124,oD 126 (.unOp .not 4 (.tmp 125))] [0,8,9,10,11,67,77,78,83,84,85,88,89,90,91,92,93,94,97,116,126,127,146,159]) (.seq (.cond (.tmp 126) (.seq (.reg [oM 127 11,oG 4 127] [0,4,9,11,67,77,78,83,85,88,97,116,127,146,159]) .ret) .skip) (.seq (.alts [[oL 128 103 10,oL 129 103 10,oD 130 (.nilCheck (.tmp 128)),oF 131 51 130 3,⟨none,.store 4 (.tmp 131) (.const (.bool false)),none,[]⟩,oD 132 (.nilCheck (.tmp 129)),oF 133 51 132 4,⟨none,.store 4 (.tmp 133) (.const (.bool false)),none,[]⟩],[oL 128 103 10,oD 130 (.nilCheck (.tmp 128)),oL 129 103 10,oF 131 51 130 3,⟨none,.store 4 (.tmp 131) (.const (.bool false)),none,[]⟩,oD 132 (.nilCheck (.tmp 129)),oF 133 51 132 4,⟨none,.store 4 (.tmp 133) (.const (.bool false)),none,[]⟩],[oL 128 103 10,oD 130 (.nilCheck (.tmp 128)),oF 131 51 130 3,oL 129 103 10,⟨none,.store 4 (.tmp 131) (.const (.bool false)),none,[]⟩,oD 132 (.nilCheck (.tmp 129)),oF 133 51 132 4,⟨none,.store 4 (.tmp 133) (.const (.bool false)),none,[]⟩],[oL 128 103 10,oD 130 (.nilCheck (.tmp 128)),oF 131 51 130 3,⟨none,.store 4 (.tmp 131) (.const (.bool false)),none,[]⟩,oL 129 103 10,oD 132 (.nilCheck (.tmp 129)),oF 133 51 132 4,⟨none,.store 4 (.tmp 133) (.const (.bool false)),none,[]⟩],[oL 129 103 10,oL 128 103 10,oD 130 (.nilCheck (.tmp 128)),oF 131 51 130 3,⟨none,.store 4 (.tmp 131) (.const (.bool false)),none,[]⟩,oD 132 (.nilCheck (.tmp 129)),oF 133 51 132 4,⟨none,.store 4 (.tmp 133) (.const (.bool false)),none,[]⟩]] [0,9,11,67,77,78,83,85,88,97,116,127,146,159]) .skip))) (.seq (.reg [oK 135 .eql 3 99 5 3,oG 134 135] [0,3,8,9,10,11,67,77,78,83,84,85,88,89,90,91,92,93,94,97,98,99,116,127,134,135,146,159]) (.seq (.cond (.tmp 134) (.seq (.reg [oL 136 103 10,oD 137 (.nilCheck (.tmp 136)),oF 138 51 137 4,oL 139 4 138,oM 140 139,oW 140 false (oL 141 103 10),oW 140 false (oD 142 (.nilCheck (.tmp 141))),oW 140 false (oF 143 51 142 3),oW 140 false (oL 144 4 143),oR 145 140 true 144] [0,8,9,10,11,67,77,78,83,84,85,88,89,90,91,92,93,94,97,116,127,136,137,138,139,140,141,142,143,144,145,146,159]) (.seq (.cond (.tmp 145) (.seq (.reg [oM 146 11,oG 4 146] [0,4,9,11,67,77,78,83,85,88,97,116,127,146,159]) .ret) .skip) (.seq (.reg [oL 147 103 10,oD 148 (.nilCheck (.tmp 147)),oF 149 51 148 4,⟨none,.store 4 (.tmp 149) (.const (.bool true)),none,[]⟩] [0,9,11,67,77,78,83,85,88,97,116,127,146,159]) .skip))) (.seq (.reg [oK 151 .eql 3 99 6 3,oG 150 151] [0,8,9,10,11,67,77,78,83,84,85,88,89,90,91,92,93,94,97,116,127,146,150,151,159]) (.seq (.cond (.tmp 150) (.seq (.reg [oD 152 (.makeFunc (Fn.func 55) #[] #[.tmp 10]),oA 12 82,oS 82 12 152] [0,8,9,10,11,12,67,77,78,83,84,85,88,89,90,91,92,93,94,97,116,127,146,152,159]) (.seq (.reg [oM 153 0,oD 154 (.nilCheck (.tmp 153)),oF 155 30 154 1,oL 156 26 155,oD 157 (.makeFunc (Fn.func 57) #[] #[.tmp 12]),oC 158 35 #[.tmp 156,.tmp 157] #[26,83]] [0,8,9,11,67,77,78,83,84,85,88,97,116,127,146,158,159]) (.seq (.cond (.tmp 158) (.seq (.reg [oM 159 11,oG 4 159] [0,4,9,11,67,77,78,83,85,88,97,116,127,146,159]) .ret) .skip) (.seq (.reg [oM 160 0,oM 161 0,oD 162 (.nilCheck (.tmp 161)),oF 163 30 162 0,oL 164 25 163,oM 165 8,oM 166 8,oK 167 .add 3 166 1 3,oC 168 58 #[.tmp 164,.tmp 165,.tmp 167] #[25,3,3],oD 169 (.nilCheck (.tmp 160)),oF 170 30 169 0,oS 25 170 168] [0,9,11,67,77,78,83,85,88,97,116,127,146,159]) .skip)))) .skip) .skip))) .skip))) .skip))) .skip))) (.seq (.reg [oD 4 (.assign (.const .nilIface))] [0,4,9,11,67,77,78,83,85,88,97,116,127,146,159]) .ret)))))))))))
theorem s23 : TextK Proofs.Tryz.prog 1 23 171 [ResultVar.tmp 4] c23 := .mk' Proofs.Tryz.f23 _ (by kernel_rfl) rfl rfl rfl (by kernel_rfl) rfl (by kernel_rfl)
structure BrPre (m : Image) (r : Record) : Prop where
  bs : srtB m.brokers
  br : ∀ b ∈ m.brokers, 1 ≤ b.id ∧ b.id ≤ 64
  bl : m.brokers.length ≤ 1000
  tl : m.topics.length ≤ 1000
  pl : ∀ t ∈ m.topics, t.parts.length ≤ 1000
  bn : big62 r.broker
def newB (r : Record) : Broker := ⟨r.broker, r.epoch, r.rack, true, false⟩
theorem reg_new (m : Image) (r : Record) (h : BrPre m r) (hk : r.kind = 2) (hf : m.broker r.broker = none) : TurnsE pg 23 m r ({ m with brokers := putB m.brokers (newB r) }, 0) := by
  have hb := ibroker_ok m r.broker h.bs h.br (by have := h.bl; omega) h.bn
  rw [hf] at hb
  have hbl := h.bl
  have hpl := pos_le Broker.id m.brokers r.broker
  have hpn := putB_new (l := m.brokers) (b := newB r) h.bs (fun x hx he => by
    have := List.find?_eq_none.1 hf x hx
    simp at this; exact this he)
  have hni : (newB r).id = r.broker := rfl
  rw [hni] at hpn
  generalize posOf Broker.id m.brokers r.broker = i at *
  have hin := insB_ok (m.brokers.map encB) (encB (newB r)) i (by simpa using hpl) (by simp; omega) (by intro y hy; rcases List.mem_cons.1 hy with rfl | hy; rfl; obtain ⟨b, _, rfl⟩ := List.mem_map.1 hy; rfl)
  refine turns_E ⟨none, [.uq ((m.brokers.map encB).take i ++ encB (newB r) :: (m.brokers.map encB).drop i), .uq (m.topics.map encTO), .uq (m.configs.map encC), .uq (m.done.map encD), I m.last], ?_, ?_, rfl⟩
  · refine s23.callM (os := [.own (cellsO m)]) mo (by simp) fun ho hx => ?_
    clear ho hx
    unfold c23; dsimp only [oA, oB, oC, oD, oF, oG, oJ, oK, oL, oM, oO, oR, oS, oU, oW, oX]
    have q1 : (r.kind == 2) = true := by simp [hk]
    clear hpn hni
    simp only [encB_eq, newB] at hin ⊢
    have F := q1
    refine wkF ?_
    exact fn0
  · have e : pvL ((m.brokers.map encB).take i ++ encB (newB r) :: (m.brokers.map encB).drop i) = (putB m.brokers (newB r)).map encB := by
      rw [hpn]
      simp only [pvL_append, pvL_take, pvL, pvL_drop, pvL_B, List.map_append, List.map_cons, List.map_take, List.map_drop]
      congr 2
    simp only [pvL, pv, e, cellsM_eq, pvL_TO', pvL_C, pvL_D]
theorem reg_11 (m : Image) (r : Record) (h : BrPre m r) (hk : r.kind = 2) {b : Broker} (hf : m.broker r.broker = some b) (he : r.epoch ≤ b.epoch) : TurnsE pg 23 m r (m, 11) := by
  have hb := ibroker_ok m r.broker h.bs h.br (by have := h.bl; omega) h.bn
  rw [hf] at hb
  have hbl := h.bl
  obtain ⟨hi, hti, hid⟩ := pos_hit (f := Broker.id) h.bs hf
  generalize posOf Broker.id m.brokers r.broker = i at *
  subst hti
  refine turns_E ⟨some (brk, r.broker, 11), cellsO m, ?_, pv_cells m, rfl⟩
  refine s23.callM (os := [.own (cellsO m)]) mo (by simp) fun ho hx => ?_
  clear ho hx
  unfold c23; dsimp only [oA, oB, oC, oD, oF, oG, oJ, oK, oL, oM, oO, oR, oS, oU, oW, oX]
  have hil : i < m.brokers.length := hi
  have q1 : (r.kind == 2) = true := by simp [hk]
  have G := @new_ok
  have F := And.intro q1 (And.intro hil he)
  refine wkF ?_
  exact fn1
theorem reg_10 (m : Image) (r : Record) (h : BrPre m r) (hk : r.kind = 2) {b : Broker} (hf : m.broker r.broker = some b) (he : ¬ r.epoch ≤ b.epoch) (hld : (m.any fun p => p.leader == r.broker) = true) : TurnsE pg 23 m r (m, 10) := by
  have hb := ibroker_ok m r.broker h.bs h.br (by have := h.bl; omega) h.bn
  rw [hf] at hb
  have hbl := h.bl
  have hle := iLeads_ok m r.broker (by have := h.tl; omega) (fun t ht => by have := h.pl t ht; omega)
  rw [hld] at hle
  obtain ⟨hi, hti, hid⟩ := pos_hit (f := Broker.id) h.bs hf
  generalize posOf Broker.id m.brokers r.broker = i at *
  subst hti
  refine turns_E ⟨some (brk, r.broker, 10), cellsO m, ?_, pv_cells m, rfl⟩
  refine s23.callM (os := [.own (cellsO m)]) mo (by simp) fun ho hx => ?_
  clear ho hx
  unfold c23; dsimp only [oA, oB, oC, oD, oF, oG, oJ, oK, oL, oM, oO, oR, oS, oU, oW, oX]
  have hil : i < m.brokers.length := hi
  have q1 : (r.kind == 2) = true := by simp [hk]
  have G := @new_ok
  have F := And.intro q1 (And.intro hil he)
  refine wkF ?_
  exact fn1
theorem reg_set (m : Image) (r : Record) (h : BrPre m r) (hk : r.kind = 2) {b : Broker} (hf : m.broker r.broker = some b) (he : ¬ r.epoch ≤ b.epoch) (hld : (m.any fun p => p.leader == r.broker) = false) : TurnsE pg 23 m r ({ m with brokers := putB m.brokers (newB r) }, 0) := by
  have hb := ibroker_ok m r.broker h.bs h.br (by have := h.bl; omega) h.bn
  rw [hf] at hb
  have hbl := h.bl
  have hle := iLeads_ok m r.broker (by have := h.tl; omega) (fun t ht => by have := h.pl t ht; omega)
  rw [hld] at hle
  obtain ⟨hi, hti, hid⟩ := pos_hit (f := Broker.id) h.bs hf
  have hpo := putB_old (b := newB r) h.bs hi (by rw [hti]; exact hid)
  generalize posOf Broker.id m.brokers r.broker = i at *
  subst hti
  refine turns_E ⟨none, [.uq (mixM encB encB m.brokers i (encB (newB r))), .uq (m.topics.map encTO), .uq (m.configs.map encC), .uq (m.done.map encD), I m.last], ?_, ?_, rfl⟩
  · refine s23.callM (os := [.own (cellsO m)]) mo (by simp) fun ho hx => ?_
    clear ho hx
    rw [cellsO_eq, ← mixL_same' encB m.brokers i, show encB (newB r) = .agg [I r.broker, I r.epoch, St r.rack, B true, B false] from rfl]
    unfold c23; dsimp only [oA, oB, oC, oD, oF, oG, oJ, oK, oL, oM, oO, oR, oS, oU, oW, oX]
    have hil : i < m.brokers.length := hi
    have q1 : (r.kind == 2) = true := by simp [hk]
    have pvm : pvL (mixL encB encB m.brokers i) = m.brokers.map encB := by rw [mixL_same', pvL_B]
    clear hpo
    have F := And.intro q1 (And.intro hil (And.intro he pvm))
    refine wkF ?_
    (refine aEnR (aRes [] fun K hK => ?_); simp (maxSteps := 10000000) (disch := first | omega | simp) [newB]; refine hK _ ?_ (by simp); clear hK; first | done | (simp (maxSteps := 10000000) (disch := first | omega | simp) [newB, *]; done) | (simp (maxSteps := 10000000) (disch := first | omega | simp) [newB, *]; omega) | (simp_all [newB]; done) | (simp_all [newB]; omega))
  · have e : pvL (mixM encB encB m.brokers i (encB (newB r))) = (putB m.brokers (newB r)).map encB := by
      rw [hpo]
      simp only [mixM, pvL_append, pvL, pvL_B, List.map_append, List.map_cons]
      congr 2
    simp only [pvL, pv, e, cellsM_eq, pvL_TO', pvL_C, pvL_D]
theorem iregister_ok (m : Image) (r : Record) (h : BrPre m r) (hk : r.kind = 2) : TurnsE pg 23 m r (m.register r) := by
  unfold Image.register
  cases hf : m.broker r.broker with
  | none => simp; exact reg_new m r h hk hf
  | some b =>
    simp only [Option.isSome_some, Bool.true_and, Option.getD_some, decide_eq_true_eq]
    by_cases he : r.epoch ≤ b.epoch
    · rw [if_pos he]; exact reg_11 m r h hk hf he
    · rw [if_neg he]
      cases hld : (m.any fun p => p.leader == r.broker) with
      | true => rw [if_pos rfl]; exact reg_10 m r h hk hf he hld
      | false => rw [if_neg (by simp)]; exact reg_set m r h hk hf he hld
end
end Go.Am
end
