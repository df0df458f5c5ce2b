/- Part of the proof of a law of placing. -/
import Derived.Test.YteijffflinnccaaDoorQE6c
import Derived.Test.YteijffflinnccaaDoorQP1
set_option linter.all false
set_option maxRecDepth 100000
set_option maxHeartbeats 0
namespace Go.Am
open Go
noncomputable section
theorem insR_ok (l : List Rack) (s : ByteArray) (i : Nat) (hi : i ≤ l.length) (hl : l.length ≤ 1000000) :
    ACallM pg 36 [.uq (l.map encK), I i, .uq [.agg [St s, .uq []]]] [] (.uq ((l.take i ++ ⟨s, []⟩ :: l.drop i).map encK)) [.any, .any, .any] := by
  have := rackIns_ok (l.map encK) (.agg [St s, .uq []]) i (by simpa using hi) (by simpa using hl) (by simp)
  simpa [List.map_take, List.map_drop] using this
theorem map_mixL {α : Type} (f : α → V) (l : List α) (i : Nat) : l.map f = mixL f f l i := by rw [mixL, ← List.map_append, List.take_append_drop]
@[simp] theorem setCell_map {α : Type} (f : α → V) (l : List α) (i j : Nat) (y : V) (h : i < l.length) : (V.uq (l.map f)).setCell i j y = .uq (mixM f f l i ((f l[i]).recell ((f l[i]).cells.set j y))) := by
  rw [map_mixL f l i, setCell_mixL h]
theorem radd_map (L : List Rack) (k : Nat) (id : Int) (h : k < L.length) : (radd L k id).map encK = mixM encK encK L k (.agg [St L[k].name, .uq (L[k].ids.map I ++ [I id])]) := by
  unfold radd mixM
  rw [List.modify_eq_take_cons_drop h]
  simp
theorem ids_le_put {s : List Rack} {n : ByteArray} {i : Nat} (h : ∀ r ∈ s, r.ids.length ≤ i) : ∀ r ∈ rput s n, r.ids.length ≤ i := by
  intro r hr
  unfold rput at hr
  split at hr
  · exact h r hr
  · rcases List.mem_append.1 hr with hr | hr
    · exact h r (List.mem_of_mem_take hr)
    · rcases List.mem_cons.1 hr with rfl | hr
      · simp
      · exact h r (List.mem_of_mem_drop hr)
theorem ids_le_add {s : List Rack} {k : Nat} {id : Int} {i : Nat} (h : ∀ r ∈ s, r.ids.length ≤ i) : ∀ r ∈ radd s k id, r.ids.length ≤ i + 1 := by
  intro r hr
  obtain ⟨j, hj, rfl⟩ := List.getElem_of_mem hr
  simp only [radd, List.length_modify] at hj
  simp only [radd, List.getElem_modify]
  have := h s[j] (List.getElem_mem hj)
  split
  · simp; omega
  · omega
theorem racks_ok (m : Image) (hb : m.brokers.length ≤ 1000) : ACall pg 19 [encM m] (.uq ((racksOf m.brokers).map encK)) := by
  refine s19.call mo (by simp) fun hxs => ?_
  clear hxs
  unfold c19
  repeat' first
      | (with_reducible first | refine thN ?_ | refine thR ?_ | refine thE ?_ | refine inN ?_ | refine inR ?_ | refine inH ?_ | refine fF ?_ | refine fS ?_ | refine fR ?_ | refine fQ ?_ | refine fC ?_ | refine fB ?_ | refine fL ?_ | refine fE ?_ | refine fT ?_ | refine awBlock ?_ | refine awExit ?_ | refine awRet ?_ | refine awSkip ?_ | refine inM (by decide) ?_)
      | ((with_reducible refine awReg fun K hok hK => ?_); clear hok; (try simp (maxSteps := 10000000) (disch := first | omega | simp) []); (repeat' first
          | (with_reducible refine hK _ (by simp) ?_)
          | ((with_reducible refine gdT (fun h => ?_) (fun h => ?_)) <;> (simp (maxSteps := 10000000) (disch := first | omega | simp) [h]; (try simp at h); (try (exfalso; omega))))
          | ((with_reducible refine gdF (fun h => ?_) (fun h => ?_)) <;> (simp (maxSteps := 10000000) (disch := first | omega | simp) [h]; (try simp at h); (try (exfalso; omega))))
          | ((with_reducible refine sideSt' fun K2 hK2 => ?_); (try simp (maxSteps := 10000000) (disch := first | omega | simp) []); refine hK2 _ ?_; clear hK2 K2; (try simp (maxSteps := 10000000) (disch := first | omega | simp) []))
          | ((with_reducible refine gdU ?_); (try simp (maxSteps := 10000000) (disch := first | omega | simp) []))
          | ((with_reducible refine sideQ' ?_ ?_ fun K2 hK2 => ?_); exact rfl; exact rfl; (try simp (maxSteps := 10000000) (disch := first | omega | simp) []); with_reducible refine hK2 _ _ ?_; clear hK2 K2; (try simp (maxSteps := 10000000) (disch := first | omega | simp) []))
          | ((with_reducible refine side' ?_ fun K2 hK2 => ?_); exact rfl; (try simp (maxSteps := 10000000) (disch := first | omega | simp) []); refine hK2 _ _ (by simp) ?_; clear hK2 K2; (try simp (maxSteps := 10000000) (disch := first | omega | simp) []))) <;> clear hK K)
      | ((with_reducible refine awCond fun A B hA hB => ?_); simp (maxSteps := 10000000) (disch := first | omega | simp) []; (first | refine ⟨fun h => hA ?_, fun h => hB ?_⟩ | refine hA ?_ | refine hB ?_) <;> (clear hA hB A B; (try (exfalso; omega))))
  refine awFor m.brokers.length (fun i (s : List Rack) => (m.brokers.drop i).foldl rackStep s = racksOf m.brokers ∧ srtK s ∧ s.length ≤ i ∧ ∀ r ∈ s, r.ids.length ≤ i) (fun i s => [(11, .p (I i)), (10, .p (I m.brokers.length)), (9, .p (.sl (m.brokers.map encB))), (3, .p (.uq (s.map encK)))]) [] (Wk.ofA (by simp)) ⟨rfl, by simp, by simp, by simp⟩ fun i s hi hs => ?_
  obtain ⟨hs, hsr, hsl, hid⟩ := hs
  by_cases hlt : i < m.brokers.length
  · rw [foldl_drop hlt] at hs
    generalize hbb : m.brokers[i] = b at hs
    cases hrd : readyB b with
    | false =>
      have e : rackStep s b = s := by simp [rackStep, hrd]
      rw [e] at hs
      have hre := placeReady_ok b
      rw [hrd] at hre
      repeat' first
          | (with_reducible first | refine thN ?_ | refine thR ?_ | refine thE ?_ | refine inN ?_ | refine inR ?_ | refine inH ?_ | refine fF ?_ | refine fS ?_ | refine fR ?_ | refine fQ ?_ | refine fC ?_ | refine fB ?_ | refine fL ?_ | refine fE ?_ | refine fT ?_ | refine awBlock ?_ | refine awExit ?_ | refine awRet ?_ | refine awSkip ?_ | refine inM (by decide) ?_)
          | ((with_reducible refine awReg fun K hok hK => ?_); clear hok; (try simp (maxSteps := 10000000) (disch := first | omega | simp) [hbb]); (repeat' first
              | (with_reducible refine hK _ (by simp) ?_)
              | ((with_reducible refine gdT (fun h => ?_) (fun h => ?_)) <;> (simp (maxSteps := 10000000) (disch := first | omega | simp) [h, hbb]; (try simp at h); (try (exfalso; omega))))
              | ((with_reducible refine gdF (fun h => ?_) (fun h => ?_)) <;> (simp (maxSteps := 10000000) (disch := first | omega | simp) [h, hbb]; (try simp at h); (try (exfalso; omega))))
              | ((with_reducible refine callS' fun K2 hK2 => ?_); (try simp (maxSteps := 10000000) (disch := first | omega | simp) [hbb]); (first | (refine hK2 _ _ (hre) rfl fun hk9 => ?_; clear hk9)); clear hK2 K2; (try simp (maxSteps := 10000000) (disch := first | omega | simp) [hbb]))
              | ((with_reducible refine callF' fun K2 hK2 => ?_); (try simp (maxSteps := 10000000) (disch := first | omega | simp) [hbb]); (first | refine hK2 _ _ _ (hre) fun _ => ?_); clear hK2 K2; (try simp (maxSteps := 10000000) (disch := first | omega | simp) [hbb]))
              | ((with_reducible refine sideS' fun K2 hK2 => ?_); (try simp (maxSteps := 10000000) (disch := first | omega | simp) [hbb]); (first | refine hK2 _ _ (hre) rfl ?_); clear hK2 K2; (try simp (maxSteps := 10000000) (disch := first | omega | simp) [hbb]))
              | ((with_reducible refine sideF' fun K2 hK2 => ?_); (try simp (maxSteps := 10000000) (disch := first | omega | simp) [hbb]); (first | refine hK2 _ _ _ (hre) (by simp) ?_); clear hK2 K2; (try simp (maxSteps := 10000000) (disch := first | omega | simp) [hbb]))
              | ((with_reducible refine callCS' fun K2 hK2 => ?_); (try simp (maxSteps := 10000000) (disch := first | omega | simp) [hbb]); (first | (refine hK2 _ _ _ _ (hre) rfl fun hk9 => ?_; clear hk9)); clear hK2 K2; (try simp (maxSteps := 10000000) (disch := first | omega | simp) [hbb]))
              | ((with_reducible refine callC' fun K2 hK2 => ?_); (try simp (maxSteps := 10000000) (disch := first | omega | simp) [hbb]); (first | refine hK2 _ _ _ _ _ (hre) fun _ => ?_); clear hK2 K2; (try simp (maxSteps := 10000000) (disch := first | omega | simp) [hbb]))
              | ((with_reducible refine sideCS' fun K2 hK2 => ?_); (try simp (maxSteps := 10000000) (disch := first | omega | simp) [hbb]); (first | refine hK2 _ _ _ _ (hre) rfl ?_); clear hK2 K2; (try simp (maxSteps := 10000000) (disch := first | omega | simp) [hbb]))
              | ((with_reducible refine callM' rfl fun K2 hK2 => ?_); (try simp (maxSteps := 10000000) (disch := first | omega | simp) [hbb]); (first | refine hK2 _ _ _ _ _ _ _ (hre) rfl fun _ _ => ?_); clear hK2 K2; (try simp (maxSteps := 10000000) (disch := first | omega | simp) [hbb]))
              | ((with_reducible refine callT' rfl fun K2 hK2 => ?_); (try simp (maxSteps := 10000000) (disch := first | omega | simp) [hbb]); (first | refine hK2 _ _ _ _ _ (hre) fun _ => ?_); clear hK2 K2; (try simp (maxSteps := 10000000) (disch := first | omega | simp) [hbb]))
              | ((with_reducible refine callA' fun K2 hK2 => ?_); (try simp (maxSteps := 10000000) (disch := first | omega | simp) [hbb]); (first | refine hK2 _ _ _ _ (hre) fun _ => ?_); clear hK2 K2; (try simp (maxSteps := 10000000) (disch := first | omega | simp) [hbb]))
              | ((with_reducible refine sideSt' fun K2 hK2 => ?_); (try simp (maxSteps := 10000000) (disch := first | omega | simp) [hbb]); refine hK2 _ ?_; clear hK2 K2; (try simp (maxSteps := 10000000) (disch := first | omega | simp) [hbb]))
              | ((with_reducible refine gdU ?_); (try simp (maxSteps := 10000000) (disch := first | omega | simp) [hbb]))
              | ((with_reducible refine sideQ' ?_ ?_ fun K2 hK2 => ?_); exact rfl; exact rfl; (try simp (maxSteps := 10000000) (disch := first | omega | simp) [hbb]); with_reducible refine hK2 _ _ ?_; clear hK2 K2; (try simp (maxSteps := 10000000) (disch := first | omega | simp) [hbb]))
              | ((with_reducible refine side' ?_ fun K2 hK2 => ?_); exact rfl; (try simp (maxSteps := 10000000) (disch := first | omega | simp) [hbb]); refine hK2 _ _ (by simp) ?_; clear hK2 K2; (try simp (maxSteps := 10000000) (disch := first | omega | simp) [hbb]))) <;> clear hK K)
          | ((with_reducible refine awCond fun A B hA hB => ?_); simp (maxSteps := 10000000) (disch := first | omega | simp) [hbb]; (first | refine ⟨fun h => hA ?_, fun h => hB ?_⟩ | refine hA ?_ | refine hB ?_) <;> (clear hA hB A B; (try (exfalso; omega))))
      (refine ⟨?_, s, ?_, Wk.ofA ?_⟩; assumption; rotate_left; focus (simp []; done))
      exact ⟨hs, hsr, by omega, fun r hr => by have := hid r hr; omega⟩
    | true =>
      have hre := placeReady_ok b
      rw [hrd] at hre
      have e : rackStep s b = radd (rput s b.rack) (rpos s b.rack) b.id := by simp [rackStep, hrd]
      have hbs := bsearchK_ok s b.rack hsr (by omega)
      have hk := rput_at s b.rack
      have hkl := rput_len s b.rack
      have hss := rackStep_srt b hsr
      have hsl' := rackStep_len s b
      have hin := insR_ok s b.rack (rpos s b.rack) (rpos_le _ _) (by omega)
      have hid2 := ids_le_put (n := b.rack) hid
      generalize hL : rput s b.rack = L at *
      generalize hkk : rpos s b.rack = k at *
      have hid3 := hid2 L[k] (List.getElem_mem hk)
      have hrm := radd_map L k b.id hk
      have hid4 := ids_le_add (k := k) (id := b.id) hid2
      rw [← e] at hrm hid4
      cases hth : rthere s b.rack with
      | true =>
        rw [hth] at hbs
        have eL : L = s := by rw [← hL]; simp [rput, hth]
        subst eL
        repeat' first
            | (with_reducible first | refine thN ?_ | refine thR ?_ | refine thE ?_ | refine inN ?_ | refine inR ?_ | refine inH ?_ | refine fF ?_ | refine fS ?_ | refine fR ?_ | refine fQ ?_ | refine fC ?_ | refine fB ?_ | refine fL ?_ | refine fE ?_ | refine fT ?_ | refine awBlock ?_ | refine awExit ?_ | refine awRet ?_ | refine awSkip ?_ | refine inM (by decide) ?_)
            | ((with_reducible refine awReg fun K hok hK => ?_); clear hok; (try simp (maxSteps := 10000000) (disch := first | omega | simp) [hbb, hk]); (repeat' first
                | (with_reducible refine hK _ (by simp) ?_)
                | ((with_reducible refine gdT (fun h => ?_) (fun h => ?_)) <;> (simp (maxSteps := 10000000) (disch := first | omega | simp) [h, hbb, hk]; (try simp at h); (try (exfalso; omega))))
                | ((with_reducible refine gdF (fun h => ?_) (fun h => ?_)) <;> (simp (maxSteps := 10000000) (disch := first | omega | simp) [h, hbb, hk]; (try simp at h); (try (exfalso; omega))))
                | ((with_reducible refine callS' fun K2 hK2 => ?_); (try simp (maxSteps := 10000000) (disch := first | omega | simp) [hbb, hk]); (first | (refine hK2 _ _ (hre) rfl fun hk9 => ?_; clear hk9) | (refine hK2 _ _ (hbs) rfl fun hk9 => ?_; clear hk9)); clear hK2 K2; (try simp (maxSteps := 10000000) (disch := first | omega | simp) [hbb, hk]))
                | ((with_reducible refine callF' fun K2 hK2 => ?_); (try simp (maxSteps := 10000000) (disch := first | omega | simp) [hbb, hk]); (first | refine hK2 _ _ _ (hre) fun _ => ?_ | refine hK2 _ _ _ (hbs) fun _ => ?_); clear hK2 K2; (try simp (maxSteps := 10000000) (disch := first | omega | simp) [hbb, hk]))
                | ((with_reducible refine sideS' fun K2 hK2 => ?_); (try simp (maxSteps := 10000000) (disch := first | omega | simp) [hbb, hk]); (first | refine hK2 _ _ (hre) rfl ?_ | refine hK2 _ _ (hbs) rfl ?_); clear hK2 K2; (try simp (maxSteps := 10000000) (disch := first | omega | simp) [hbb, hk]))
                | ((with_reducible refine sideF' fun K2 hK2 => ?_); (try simp (maxSteps := 10000000) (disch := first | omega | simp) [hbb, hk]); (first | refine hK2 _ _ _ (hre) (by simp) ?_ | refine hK2 _ _ _ (hbs) (by simp) ?_); clear hK2 K2; (try simp (maxSteps := 10000000) (disch := first | omega | simp) [hbb, hk]))
                | ((with_reducible refine callCS' fun K2 hK2 => ?_); (try simp (maxSteps := 10000000) (disch := first | omega | simp) [hbb, hk]); (first | (refine hK2 _ _ _ _ (hre) rfl fun hk9 => ?_; clear hk9) | (refine hK2 _ _ _ _ (hbs) rfl fun hk9 => ?_; clear hk9)); clear hK2 K2; (try simp (maxSteps := 10000000) (disch := first | omega | simp) [hbb, hk]))
                | ((with_reducible refine callC' fun K2 hK2 => ?_); (try simp (maxSteps := 10000000) (disch := first | omega | simp) [hbb, hk]); (first | refine hK2 _ _ _ _ _ (hre) fun _ => ?_ | refine hK2 _ _ _ _ _ (hbs) fun _ => ?_); clear hK2 K2; (try simp (maxSteps := 10000000) (disch := first | omega | simp) [hbb, hk]))
                | ((with_reducible refine sideCS' fun K2 hK2 => ?_); (try simp (maxSteps := 10000000) (disch := first | omega | simp) [hbb, hk]); (first | refine hK2 _ _ _ _ (hre) rfl ?_ | refine hK2 _ _ _ _ (hbs) rfl ?_); clear hK2 K2; (try simp (maxSteps := 10000000) (disch := first | omega | simp) [hbb, hk]))
                | ((with_reducible refine callM' rfl fun K2 hK2 => ?_); (try simp (maxSteps := 10000000) (disch := first | omega | simp) [hbb, hk]); (first | refine hK2 _ _ _ _ _ _ _ (hre) rfl fun _ _ => ?_ | refine hK2 _ _ _ _ _ _ _ (hbs) rfl fun _ _ => ?_); clear hK2 K2; (try simp (maxSteps := 10000000) (disch := first | omega | simp) [hbb, hk]))
                | ((with_reducible refine callT' rfl fun K2 hK2 => ?_); (try simp (maxSteps := 10000000) (disch := first | omega | simp) [hbb, hk]); (first | refine hK2 _ _ _ _ _ (hre) fun _ => ?_ | refine hK2 _ _ _ _ _ (hbs) fun _ => ?_); clear hK2 K2; (try simp (maxSteps := 10000000) (disch := first | omega | simp) [hbb, hk]))
                | ((with_reducible refine callA' fun K2 hK2 => ?_); (try simp (maxSteps := 10000000) (disch := first | omega | simp) [hbb, hk]); (first | refine hK2 _ _ _ _ (hre) fun _ => ?_ | refine hK2 _ _ _ _ (hbs) fun _ => ?_); clear hK2 K2; (try simp (maxSteps := 10000000) (disch := first | omega | simp) [hbb, hk]))
                | ((with_reducible refine sideSt' fun K2 hK2 => ?_); (try simp (maxSteps := 10000000) (disch := first | omega | simp) [hbb, hk]); refine hK2 _ ?_; clear hK2 K2; (try simp (maxSteps := 10000000) (disch := first | omega | simp) [hbb, hk]))
                | ((with_reducible refine gdU ?_); (try simp (maxSteps := 10000000) (disch := first | omega | simp) [hbb, hk]))
                | ((with_reducible refine sideQ' ?_ ?_ fun K2 hK2 => ?_); exact rfl; exact rfl; (try simp (maxSteps := 10000000) (disch := first | omega | simp) [hbb, hk]); with_reducible refine hK2 _ _ ?_; clear hK2 K2; (try simp (maxSteps := 10000000) (disch := first | omega | simp) [hbb, hk]))
                | ((with_reducible refine side' ?_ fun K2 hK2 => ?_); exact rfl; (try simp (maxSteps := 10000000) (disch := first | omega | simp) [hbb, hk]); refine hK2 _ _ (by simp) ?_; clear hK2 K2; (try simp (maxSteps := 10000000) (disch := first | omega | simp) [hbb, hk]))) <;> clear hK K)
            | ((with_reducible refine awCond fun A B hA hB => ?_); simp (maxSteps := 10000000) (disch := first | omega | simp) [hbb, hk]; (first | refine ⟨fun h => hA ?_, fun h => hB ?_⟩ | refine hA ?_ | refine hB ?_) <;> (clear hA hB A B; (try (exfalso; omega))))
        (refine ⟨?_, rackStep L b, ?_, Wk.ofA ?_⟩; assumption; rotate_left; focus (simp [hrm]; done))
        exact ⟨hs, hss, by omega, hid4⟩
      | false =>
        rw [hth] at hbs
        have eL : s.take k ++ ⟨b.rack, []⟩ :: s.drop k = L := by rw [← hL]; simp [rput, hth, hkk]
        rw [eL] at hin
        repeat' first
            | (with_reducible first | refine thN ?_ | refine thR ?_ | refine thE ?_ | refine inN ?_ | refine inR ?_ | refine inH ?_ | refine fF ?_ | refine fS ?_ | refine fR ?_ | refine fQ ?_ | refine fC ?_ | refine fB ?_ | refine fL ?_ | refine fE ?_ | refine fT ?_ | refine awBlock ?_ | refine awExit ?_ | refine awRet ?_ | refine awSkip ?_ | refine inM (by decide) ?_)
            | ((with_reducible refine awReg fun K hok hK => ?_); clear hok; (try simp (maxSteps := 10000000) (disch := first | omega | simp) [hbb, hk]); (repeat' first
                | (with_reducible refine hK _ (by simp) ?_)
                | ((with_reducible refine gdT (fun h => ?_) (fun h => ?_)) <;> (simp (maxSteps := 10000000) (disch := first | omega | simp) [h, hbb, hk]; (try simp at h); (try (exfalso; omega))))
                | ((with_reducible refine gdF (fun h => ?_) (fun h => ?_)) <;> (simp (maxSteps := 10000000) (disch := first | omega | simp) [h, hbb, hk]; (try simp at h); (try (exfalso; omega))))
                | ((with_reducible refine callS' fun K2 hK2 => ?_); (try simp (maxSteps := 10000000) (disch := first | omega | simp) [hbb, hk]); (first | (refine hK2 _ _ (hre) rfl fun hk9 => ?_; clear hk9) | (refine hK2 _ _ (hbs) rfl fun hk9 => ?_; clear hk9) | (refine hK2 _ _ (hin) rfl fun hk9 => ?_; clear hk9)); clear hK2 K2; (try simp (maxSteps := 10000000) (disch := first | omega | simp) [hbb, hk]))
                | ((with_reducible refine callF' fun K2 hK2 => ?_); (try simp (maxSteps := 10000000) (disch := first | omega | simp) [hbb, hk]); (first | refine hK2 _ _ _ (hre) fun _ => ?_ | refine hK2 _ _ _ (hbs) fun _ => ?_ | refine hK2 _ _ _ (hin) fun _ => ?_); clear hK2 K2; (try simp (maxSteps := 10000000) (disch := first | omega | simp) [hbb, hk]))
                | ((with_reducible refine sideS' fun K2 hK2 => ?_); (try simp (maxSteps := 10000000) (disch := first | omega | simp) [hbb, hk]); (first | refine hK2 _ _ (hre) rfl ?_ | refine hK2 _ _ (hbs) rfl ?_ | refine hK2 _ _ (hin) rfl ?_); clear hK2 K2; (try simp (maxSteps := 10000000) (disch := first | omega | simp) [hbb, hk]))
                | ((with_reducible refine sideF' fun K2 hK2 => ?_); (try simp (maxSteps := 10000000) (disch := first | omega | simp) [hbb, hk]); (first | refine hK2 _ _ _ (hre) (by simp) ?_ | refine hK2 _ _ _ (hbs) (by simp) ?_ | refine hK2 _ _ _ (hin) (by simp) ?_); clear hK2 K2; (try simp (maxSteps := 10000000) (disch := first | omega | simp) [hbb, hk]))
                | ((with_reducible refine callCS' fun K2 hK2 => ?_); (try simp (maxSteps := 10000000) (disch := first | omega | simp) [hbb, hk]); (first | (refine hK2 _ _ _ _ (hre) rfl fun hk9 => ?_; clear hk9) | (refine hK2 _ _ _ _ (hbs) rfl fun hk9 => ?_; clear hk9) | (refine hK2 _ _ _ _ (hin) rfl fun hk9 => ?_; clear hk9)); clear hK2 K2; (try simp (maxSteps := 10000000) (disch := first | omega | simp) [hbb, hk]))
                | ((with_reducible refine callC' fun K2 hK2 => ?_); (try simp (maxSteps := 10000000) (disch := first | omega | simp) [hbb, hk]); (first | refine hK2 _ _ _ _ _ (hre) fun _ => ?_ | refine hK2 _ _ _ _ _ (hbs) fun _ => ?_ | refine hK2 _ _ _ _ _ (hin) fun _ => ?_); clear hK2 K2; (try simp (maxSteps := 10000000) (disch := first | omega | simp) [hbb, hk]))
                | ((with_reducible refine sideCS' fun K2 hK2 => ?_); (try simp (maxSteps := 10000000) (disch := first | omega | simp) [hbb, hk]); (first | refine hK2 _ _ _ _ (hre) rfl ?_ | refine hK2 _ _ _ _ (hbs) rfl ?_ | refine hK2 _ _ _ _ (hin) rfl ?_); clear hK2 K2; (try simp (maxSteps := 10000000) (disch := first | omega | simp) [hbb, hk]))
                | ((with_reducible refine callM' rfl fun K2 hK2 => ?_); (try simp (maxSteps := 10000000) (disch := first | omega | simp) [hbb, hk]); (first | refine hK2 _ _ _ _ _ _ _ (hre) rfl fun _ _ => ?_ | refine hK2 _ _ _ _ _ _ _ (hbs) rfl fun _ _ => ?_ | refine hK2 _ _ _ _ _ _ _ (hin) rfl fun _ _ => ?_); clear hK2 K2; (try simp (maxSteps := 10000000) (disch := first | omega | simp) [hbb, hk]))
                | ((with_reducible refine callT' rfl fun K2 hK2 => ?_); (try simp (maxSteps := 10000000) (disch := first | omega | simp) [hbb, hk]); (first | refine hK2 _ _ _ _ _ (hre) fun _ => ?_ | refine hK2 _ _ _ _ _ (hbs) fun _ => ?_ | refine hK2 _ _ _ _ _ (hin) fun _ => ?_); clear hK2 K2; (try simp (maxSteps := 10000000) (disch := first | omega | simp) [hbb, hk]))
                | ((with_reducible refine callA' fun K2 hK2 => ?_); (try simp (maxSteps := 10000000) (disch := first | omega | simp) [hbb, hk]); (first | refine hK2 _ _ _ _ (hre) fun _ => ?_ | refine hK2 _ _ _ _ (hbs) fun _ => ?_ | refine hK2 _ _ _ _ (hin) fun _ => ?_); clear hK2 K2; (try simp (maxSteps := 10000000) (disch := first | omega | simp) [hbb, hk]))
                | ((with_reducible refine sideSt' fun K2 hK2 => ?_); (try simp (maxSteps := 10000000) (disch := first | omega | simp) [hbb, hk]); refine hK2 _ ?_; clear hK2 K2; (try simp (maxSteps := 10000000) (disch := first | omega | simp) [hbb, hk]))
                | ((with_reducible refine gdU ?_); (try simp (maxSteps := 10000000) (disch := first | omega | simp) [hbb, hk]))
                | ((with_reducible refine sideQ' ?_ ?_ fun K2 hK2 => ?_); exact rfl; exact rfl; (try simp (maxSteps := 10000000) (disch := first | omega | simp) [hbb, hk]); with_reducible refine hK2 _ _ ?_; clear hK2 K2; (try simp (maxSteps := 10000000) (disch := first | omega | simp) [hbb, hk]))
                | ((with_reducible refine side' ?_ fun K2 hK2 => ?_); exact rfl; (try simp (maxSteps := 10000000) (disch := first | omega | simp) [hbb, hk]); refine hK2 _ _ (by simp) ?_; clear hK2 K2; (try simp (maxSteps := 10000000) (disch := first | omega | simp) [hbb, hk]))) <;> clear hK K)
            | ((with_reducible refine awCond fun A B hA hB => ?_); simp (maxSteps := 10000000) (disch := first | omega | simp) [hbb, hk]; (first | refine ⟨fun h => hA ?_, fun h => hB ?_⟩ | refine hA ?_ | refine hB ?_) <;> (clear hA hB A B; (try (exfalso; omega))))
        (refine ⟨?_, rackStep s b, ?_, Wk.ofA ?_⟩; assumption; rotate_left; focus (simp [hrm]; done))
        exact ⟨hs, hss, by omega, hid4⟩
  · have e : racksOf m.brokers = s := by rw [drop_nil (by omega)] at hs; exact hs.symm
    repeat' first
        | (with_reducible first | refine thN ?_ | refine thR ?_ | refine thE ?_ | refine inN ?_ | refine inR ?_ | refine inH ?_ | refine fF ?_ | refine fS ?_ | refine fR ?_ | refine fQ ?_ | refine fC ?_ | refine fB ?_ | refine fL ?_ | refine fE ?_ | refine fT ?_ | refine awBlock ?_ | refine awExit ?_ | refine awRet ?_ | refine awSkip ?_ | refine inM (by decide) ?_)
        | ((with_reducible refine awReg fun K hok hK => ?_); clear hok; (try simp (maxSteps := 10000000) (disch := first | omega | simp) []); (repeat' first
            | (with_reducible refine hK _ (by simp) ?_)
            | ((with_reducible refine gdT (fun h => ?_) (fun h => ?_)) <;> (simp (maxSteps := 10000000) (disch := first | omega | simp) [h]; (try simp at h); (try (exfalso; omega))))
            | ((with_reducible refine gdF (fun h => ?_) (fun h => ?_)) <;> (simp (maxSteps := 10000000) (disch := first | omega | simp) [h]; (try simp at h); (try (exfalso; omega))))
            | ((with_reducible refine sideSt' fun K2 hK2 => ?_); (try simp (maxSteps := 10000000) (disch := first | omega | simp) []); refine hK2 _ ?_; clear hK2 K2; (try simp (maxSteps := 10000000) (disch := first | omega | simp) []))
            | ((with_reducible refine gdU ?_); (try simp (maxSteps := 10000000) (disch := first | omega | simp) []))
            | ((with_reducible refine sideQ' ?_ ?_ fun K2 hK2 => ?_); exact rfl; exact rfl; (try simp (maxSteps := 10000000) (disch := first | omega | simp) []); with_reducible refine hK2 _ _ ?_; clear hK2 K2; (try simp (maxSteps := 10000000) (disch := first | omega | simp) []))
            | ((with_reducible refine side' ?_ fun K2 hK2 => ?_); exact rfl; (try simp (maxSteps := 10000000) (disch := first | omega | simp) []); refine hK2 _ _ (by simp) ?_; clear hK2 K2; (try simp (maxSteps := 10000000) (disch := first | omega | simp) []))) <;> clear hK K)
        | ((with_reducible refine awCond fun A B hA hB => ?_); simp (maxSteps := 10000000) (disch := first | omega | simp) []; (first | refine ⟨fun h => hA ?_, fun h => hB ?_⟩ | refine hA ?_ | refine hB ?_) <;> (clear hA hB A B; (try (exfalso; omega))))
    (refine aEnR (aRes [] fun K hK => ?_); simp (maxSteps := 10000000) (disch := first | omega | simp) [e]; refine hK _ ?_ (by simp); clear hK; first | done | (simp (maxSteps := 10000000) (disch := first | omega | simp) [e, *]; done) | (simp (maxSteps := 10000000) (disch := first | omega | simp) [e, *]; omega) | (simp_all [e]; done) | (simp_all [e]; omega))
end
end Go.Am
