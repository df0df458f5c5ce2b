/- Part of the proof of ElectLeaves. -/
import Derived.Test.YteijffflinnccaaZE3
import Derived.Shelf.SlicesE.Delete
import Derived.Test.YteijffflinnccaaChecked
set_option linter.all false
set_option maxRecDepth 100000
set_option maxHeartbeats 0
namespace Go.Am
open Go Go.Proofs Go.Shelf Go.Lib Go.Sort
noncomputable section
def dlRen : Ren := ⟨fun | 45 => 116 | n => n, fun | 0 => 0 | 3 => 3 | 4 => 4 | 22 => 41 | 23 => 3 | n => n, fun n => n⟩
theorem dlL : SlLaysE.n45 Try.prog dlRen :=
  { mixed := mo
    f45 := ⟨Try.f116.name, by decide, Try.func116⟩
    t0 := Try.underlying0, a0 := Try.isAgg0, z0 := Try.sizeOf0, v0 := Try.zeroValue0
    t3 := Try.underlying3, a3 := Try.isAgg3, z3 := Try.sizeOf3, v3 := Try.zeroValue3
    t4 := Try.underlying4, a4 := Try.isAgg4, z4 := Try.sizeOf4, v4 := Try.zeroValue4
    t22 := Try.underlying41, a22 := Try.isAgg41, z22 := Try.sizeOf41, v22 := Try.zeroValue41
    a23 := Try.isAgg3, z23 := Try.sizeOf3 }
noncomputable def tiInt : TypeInfo := (Try.prog.info? 3).get (by kernel_rfl)
theorem flat_I (l : List Int) : (l.map I).flatMap V.cells = l.map I := by induction l with | nil => rfl | cons x l ih => simp_all
theorem R.ints {S : Nat → Nat → Prop} {w : World} : ∀ {l : List Int} {vs : List Value} {fp : List Nat}, R S w (l.map I) vs fp → vs = l.map (Value.int .i64) ∧ fp = [] := by
  intro l
  induction l with
  | nil => intro vs fp h; cases h; exact ⟨rfl, rfl⟩
  | cons x l ih =>
    intro vs fp h
    cases h with
    | c h => obtain ⟨rfl, rfl⟩ := ih h; exact ⟨rfl, rfl⟩
theorem ints_R (S : Nat → Nat → Prop) (w : World) : ∀ (l : List Int), R S w (l.map I) (l.map (Value.int .i64)) [] := by
  intro l
  induction l with
  | nil => exact .nil
  | cons x l ih => exact .c ih
theorem delete_ok (l : List Int) (i : Nat) (hi : i < l.length) (hl : l.length ≤ 1000000) : ACallM pg 116 [.uq (l.map I)] [I i, I ((i : Int) + 1)] (.sl ((l.take i ++ l.drop (i + 1)).map I)) [.any] := by
  refine ⟨by kernel_rfl, fun S w vo vs fo hRo hfn hfS hflt hRx hSlt => ?_⟩
  cases hRx with
  | c h1 =>
  cases h1 with
  | c h2 =>
  cases h2
  generalize hL : l.map I = L at hRo
  cases hRo with
  | uq0 h0 => have := congrArg List.length hL; simp at this; subst this; simp at hi
  | @uq _ cs fq _ _ _ b cap e es cur g1 g2 g3 g4 g5 g6 g7 g8 g9 g10 =>
    cases g10
    subst hL
    have hes : es = 1 := by
      have := g2 (I l[i]) (List.mem_map.2 ⟨l[i], List.getElem_mem hi, rfl⟩)
      simpa using this.symm
    subst hes
    rw [flat_I] at g3
    obtain ⟨rfl, rfl⟩ := R.ints g3
    simp only [List.append_nil, List.length_map, Nat.mul_one] at *
    have hm : maxLen = 9223372036854775807 := rfl
    have hget : ∀ j (h : j < l.length), cur[j]? = some (.int .i64 l[j]) := by
      intro j h
      have : (cur.toList.take l.length)[j]? = some (.int .i64 l[j]) := by rw [g9]; simp [h]
      rw [List.getElem?_take_of_lt h] at this
      simpa using this
    have hH : Holds (Value.int .i64) w b 0 l.toArray := by
      intro j hj
      simp only [List.size_toArray] at hj
      refine ⟨?_, ?_⟩
      · rw [World.cell?]
        simp only [g5, Nat.zero_add]
        rw [hget j hj]
        simp [hj]
      · simp [World.frozen?, g5]
    have hAny := AnyE.slices_Delete dlL (Value.int .i64) (fun _ => rfl) 0 Try.zeroValue3 tiInt (by kernel_rfl) (by kernel_rfl) b 0 cap i (i + 1) l.toArray w hH (by simpa using g6) (by omega) (by omega) (by simp; omega)
    have e1 : i + 1 - i = 1 := by omega
    rw [e1] at hAny
    have hAny : Calls Try.prog 116 #[.slice (some ⟨b, 0, none⟩) l.length cap, .int .i64 i, .int .i64 ((i : Int) + 1)] w fun e w' => e = .returned (.slice (some ⟨b, 0, none⟩) (l.length - 1) cap) ∧ ∃ q, w' = putRow (Value.int .i64) (Sort.ahead w q) b 0 (l.take i ++ l.drop (i + 1) ++ [0]).toArray := hAny
    refine hAny.mono ?_
    rintro r w' ⟨rfl, q, rfl⟩
    generalize hm2 : List.take i l ++ List.drop (i + 1) l = m
    have hml : m.length = l.length - 1 := by rw [← hm2]; simp; omega
    have hH' : Holds (Value.int .i64) (Sort.ahead w q) b 0 l.toArray := hH
    have hbw : b < w.heap.size := hflt b (by simp)
    have hnS : ∀ o, ¬ S b o := fun o => hfS b o (by simp)
    refine ⟨_, fun x o => S x o ∨ x = b, [], [], rfl, ?_, .any .nil, by simp, by simp, by simp, fun _ _ h => .inl h, ?_, ?_, ?_⟩
    · rw [← hml]
      by_cases hme : m = []
      · subst hme; exact .sl0 .nil
      · have := R.sl (S := fun x o => S x o ∨ x = b) (w := putRow (Value.int .i64) (Sort.ahead w q) b 0 (m ++ [0]).toArray) (l := m.map I) (cs := m.map (Value.int .i64)) (xs := []) (vs := []) (fp := []) b 0 cap 1 (by simpa using hme) (by omega)
          (by intro x hx; obtain ⟨n, _, rfl⟩ := List.mem_map.1 hx; rfl) (by rw [flat_I]; exact ints_R _ _ m) (by intro u hu; obtain ⟨n, _, rfl⟩ := List.mem_map.1 hu; rfl)
          (by
            intro j hj
            simp only [List.length_map] at hj
            refine ⟨.inr rfl, ?_⟩
            rw [cell?_putRow (Value.int .i64) (Sort.ahead w q) b 0 l.toArray _ hH' (by simp; omega) j (by simp; omega)]
            simp [List.getElem?_append_left hj, hj])
          (by simp; omega) (by omega) .nil
        simpa using this
    · rintro x o (h | rfl)
      · exact .inl h
      · exact .inr (.inl (by simp))
    · rintro x o (h | rfl)
      · simpa [Sort.ahead] using hSlt x o h
      · simpa [Sort.ahead] using hbw
    · refine ⟨rfl, rfl, rfl, by simp [Sort.ahead], ?_⟩
      intro k hk hkb
      simp only [List.mem_singleton] at hkb
      simp [putRow, mapBlock, Sort.ahead, Array.getElem?_modify]
      intro e; exact absurd e.symm hkb
end
end Go.Am
