/- Part of the proof of a law of moving. -/
import Derived.Test.YtmnheledelnbfaaGreatQV12a
import Derived.Test.YtmnheledelnbfaaGreatQVC
set_option linter.all false
set_option maxRecDepth 100000
set_option maxHeartbeats 0
namespace Go.Am
open Go
noncomputable section
def c3 : SC := (.seq (.reg [⟨some 3, .box 27 (.tmp 1), none, []⟩,
  ⟨some 4, .assign (.const (.bool false)), none, []⟩] [0, 3, 21, 54, 55, 63, 64, 65, 69, 70, 71, 72, 73]) (.seq (.reg [⟨some 13, .move (.tmp 0), none, []⟩,
  ⟨some 14, .call { callee := .value (.func 6), args := #[.tmp 13], argTypes := #[22] }, none, []⟩,
  ⟨some 15, .unOp .not 4 (.tmp 14), none, []⟩,
  ⟨some 16, .move (.tmp 15), none, []⟩,
  ⟨some 17, .load 27 (.tmp 3), (some (16, false)), []⟩,
  ⟨some 18, .call { callee := .value (.func 7), args := #[.tmp 17], argTypes := #[27] }, (some (16, false)), []⟩,
  ⟨some 19, .unOp .not 4 (.tmp 18), (some (16, false)), []⟩,
  ⟨some 20, .pick (.tmp 16) (.const (.bool true)) (.tmp 19), none, []⟩] [0, 3, 15, 16, 19, 20, 21, 54, 55, 63, 64, 65, 69, 70, 71, 72, 73]) (.seq (.cond (.tmp 20) (.seq (.reg [⟨some 21, .call { callee := .value (.func 8), args := #[], argTypes := #[] }, none, []⟩,
  ⟨some 4, .assign (.tmp 21), none, []⟩] [4, 21, 54, 55, 63, 64, 65, 69, 70, 71, 72, 73]) .ret) .skip) (.seq (.reg [⟨some 22, .move (.tmp 0), none, []⟩,
  ⟨some 23, .call { callee := .value (.func 9), args := #[.tmp 22], argTypes := #[22] }, none, []⟩,
  ⟨some 5, .alloc 36, none, []⟩,
  ⟨none, .store 36 (.tmp 5) (.tmp 23), none, []⟩] [3, 5, 21, 54, 55, 63, 64, 65, 69, 70, 71, 72, 73]) (.seq (.reg [⟨some 25, .load 36 (.tmp 5), none, []⟩,
  ⟨some 26, .load 27 (.tmp 3), none, []⟩,
  ⟨some 27, .call { callee := .value (.func 10), args := #[.tmp 25, .tmp 26], argTypes := #[36, 27] }, none, []⟩,
  ⟨some 24, .move (.tmp 27), none, []⟩,
  ⟨some 28, .extract (.tmp 24) 0, none, []⟩,
  ⟨some 29, .extract (.tmp 24) 1, none, []⟩,
  ⟨some 6, .assign (.tmp 28), none, []⟩,
  ⟨some 7, .assign (.tmp 29), none, []⟩] [5, 6, 7, 21, 24, 27, 28, 29, 54, 55, 63, 64, 65, 69, 70, 71, 72, 73]) (.seq (.reg [⟨some 30, .move (.tmp 7), none, []⟩,
  ⟨some 31, .binOp .neq 39 (.tmp 30) (.const .nilIface) 39, none, []⟩,
  ⟨some 32, .move (.tmp 31), none, []⟩,
  ⟨some 33, .move (.tmp 6), (some (32, true)), []⟩,
  ⟨some 34, .call { callee := .builtin .len, args := #[.tmp 33], argTypes := #[22] }, (some (32, true)), []⟩,
  ⟨some 35, .binOp .gtr 3 (.tmp 34) (.const (.int .i64 0)) 3, (some (32, true)), []⟩,
  ⟨some 36, .pick (.tmp 32) (.tmp 35) (.const (.bool false)), none, []⟩] [5, 6, 21, 24, 27, 28, 31, 32, 35, 36, 54, 55, 63, 64, 65, 69, 70, 71, 72, 73]) (.seq (.cond (.tmp 36) (.seq (.reg [⟨some 4, .assign (.const (.bool false)), none, []⟩] [4, 21, 54, 55, 63, 64, 65, 69, 70, 71, 72, 73]) .ret) .skip) (.seq (.reg [⟨some 38, .load 36 (.tmp 5), none, []⟩,
  ⟨some 39, .move (.tmp 6), none, []⟩,
  ⟨some 40, .call { callee := .value (.func 11), args := #[.tmp 38, .tmp 39], argTypes := #[36, 22] }, none, []⟩,
  ⟨some 37, .move (.tmp 40), none, []⟩,
  ⟨some 41, .extract (.tmp 37) 0, none, []⟩,
  ⟨some 42, .extract (.tmp 37) 1, none, []⟩,
  ⟨some 8, .alloc 36, none, []⟩,
  ⟨none, .store 36 (.tmp 8) (.tmp 41), none, []⟩,
  ⟨some 9, .assign (.tmp 42), none, []⟩] [8, 9, 21, 37, 40, 42, 54, 55, 63, 64, 65, 69, 70, 71, 72, 73]) (.seq (.reg [⟨some 43, .move (.tmp 9), none, []⟩,
  ⟨some 44, .binOp .neq 42 (.tmp 43) (.const (.int .i64 0)) 42, none, []⟩] [8, 21, 44, 54, 55, 63, 64, 65, 69, 70, 71, 72, 73]) (.seq (.cond (.tmp 44) (.seq (.reg [⟨some 4, .assign (.const (.bool false)), none, []⟩] [4, 21, 54, 55, 63, 64, 65, 69, 70, 71, 72, 73]) .ret) .skip) (.seq (.reg [⟨some 45, .load 36 (.tmp 8), none, []⟩,
  ⟨some 46, .call { callee := .value (.func 12), args := #[.tmp 45], argTypes := #[36] }, none, []⟩,
  ⟨some 10, .assign (.tmp 46), none, []⟩] [8, 10, 21, 46]) (.seq (.reg [⟨some 48, .load 36 (.tmp 8), none, []⟩,
  ⟨some 49, .move (.tmp 10), none, []⟩,
  ⟨some 50, .call { callee := .value (.func 11), args := #[.tmp 48, .tmp 49], argTypes := #[36, 22] }, none, []⟩,
  ⟨some 47, .move (.tmp 50), none, []⟩,
  ⟨some 51, .extract (.tmp 47) 0, none, []⟩,
  ⟨some 52, .extract (.tmp 47) 1, none, []⟩,
  ⟨some 11, .alloc 36, none, []⟩,
  ⟨none, .store 36 (.tmp 11) (.tmp 51), none, []⟩,
  ⟨some 12, .assign (.tmp 52), none, []⟩] [8, 10, 11, 12, 21, 46, 47, 50, 52]) (.seq (.reg [⟨some 53, .move (.tmp 12), none, []⟩,
  ⟨some 54, .binOp .eql 42 (.tmp 53) (.const (.int .i64 0)) 42, none, []⟩,
  ⟨some 55, .move (.tmp 54), none, []⟩,
  ⟨some 56, .load 36 (.tmp 11), (some (55, true)), [58, 60, 61]⟩,
  ⟨some 57, .call { callee := .value (.func 13), args := #[.tmp 56], argTypes := #[36] }, (some (55, true)), [58, 60, 61]⟩,
  ⟨some 58, .load 36 (.tmp 8), (some (55, true)), [56, 57, 60, 61]⟩,
  ⟨some 59, .call { callee := .value (.func 13), args := #[.tmp 58], argTypes := #[36] }, (some (55, true)), [60, 61]⟩,
  ⟨some 60, .move (.tmp 10), (some (55, true)), [56, 57, 58, 59]⟩,
  ⟨some 61, .call { callee := .builtin .len, args := #[.tmp 60], argTypes := #[22] }, (some (55, true)), [56, 57, 58, 59]⟩,
  ⟨some 62, .binOp .sub 3 (.tmp 59) (.tmp 61) 3, (some (55, true)), []⟩,
  ⟨some 63, .binOp .eql 3 (.tmp 57) (.tmp 62) 3, (some (55, true)), []⟩,
  ⟨some 64, .pick (.tmp 55) (.tmp 63) (.const (.bool false)), none, []⟩,
  ⟨some 65, .move (.tmp 64), none, []⟩,
  ⟨some 66, .load 36 (.tmp 11), (some (65, true)), []⟩,
  ⟨some 67, .call { callee := .value (.func 12), args := #[.tmp 66], argTypes := #[36] }, (some (65, true)), []⟩,
  ⟨some 68, .call { callee := .builtin .len, args := #[.tmp 67], argTypes := #[22] }, (some (65, true)), []⟩,
  ⟨some 69, .binOp .eql 3 (.tmp 68) (.const (.int .i64 0)) 3, (some (65, true)), []⟩,
  ⟨some 70, .pick (.tmp 65) (.tmp 69) (.const (.bool false)), none, []⟩,
  ⟨some 71, .move (.tmp 70), none, []⟩,
  ⟨some 72, .call { callee := .value (.func 8), args := #[], argTypes := #[] }, (some (71, true)), []⟩,
  ⟨some 73, .pick (.tmp 71) (.tmp 72) (.const (.bool false)), none, []⟩,
  ⟨some 4, .assign (.tmp 73), none, []⟩] [4, 21, 54, 55, 63, 64, 65, 69, 70, 71, 72, 73]) .ret)))))))))))))
theorem s3 : TextK Proofs.Tryz.prog 0 3 74 [ResultVar.tmp 4] c3 := .mk' Proofs.Tryz.f3 _ (by kernel_rfl) rfl rfl rfl (by kernel_rfl) rfl (by kernel_rfl)
theorem at_get {m : Image} {q : Req} (h : m.atE q = none) : ∃ t k p, m.at q = some (t, k, p) ∧ t ∈ m.topics ∧ t.parts[k]? = some p ∧ q.part = (k : Nat) := by
  unfold Image.atE at h
  split at h
  · cases h
  · rename_i h1
    split at h
    · cases h
    · rename_i h2
      obtain ⟨⟨t, k, p⟩, hx⟩ := Option.isSome_iff_exists.1 (show (m.at q).isSome = true by cases hy : (m.at q).isSome with | true => rfl | false => exact absurd hy h2)
      refine ⟨t, k, p, hx, ?_⟩
      unfold Image.at at hx
      split at hx
      · cases hx
      · rename_i u hu
        split at hx
        · rename_i h3
          cases hx
          have hkl : q.part.toNat < t.parts.length := by omega
          refine ⟨List.mem_of_find?_eq_some hu, ?_, by omega⟩
          rw [List.getD_eq_getElem?_getD, List.getElem?_eq_getElem hkl]; rfl
        · cases hx
theorem do_at {m : Image} {n : Nat} (hok : MadeOk m n) (hn : n ≤ 80) (q : Req) (hq : q.ids.length ≤ 1000) :
    ∃ L next E, ACall pg 10 [encM m, encQ q] (.tup [.sl (L.map encR), errE E]) ∧ (E = none ∨ L = []) ∧ m.all L = (next, 0) ∧ next.Inv (n + 1) ∧ L.length ≤ 1 := by
  have hinv := hok.inv
  have hno : ∀ E : Er, m.doE q = some E → m.doL q = [] := fun E h => by unfold Image.doL; rw [h]; rfl
  have hmt := hok.pre.tl
  have hmp : ∀ t ∈ m.topics, t.parts.length ≤ 1000000 := fun t ht => by have := hok.pre.pl t ht; omega
  have hnil : m.all [] = (m, 0) := rfl
  by_cases h1 : q.kind ≠ 5 ∧ q.kind ≠ 6
  · have hd := do_a m q h1
    have e : m.doL q = [] := hno (.fault (bs [107, 105, 110, 100]) q.kind (.code 5)) (by unfold Image.doE; rw [if_pos h1]; rfl)
    rw [e] at hd
    exact ⟨[], m, m.doE q, hd, .inr rfl, hnil, hinv.mono (by omega), by simp⟩
  have h1' : q.kind = 5 ∨ q.kind = 6 := by omega
  cases h2 : m.atE q with
  | some b =>
    have hd := do_b m q h1' h2 (by omega) hmp
    have e : m.doL q = [] := hno (.fault b.1 b.2.1 (.code b.2.2)) (by unfold Image.doE; rw [if_neg h1, h2, if_pos (by rfl)]; rfl)
    rw [e] at hd
    exact ⟨[], m, m.doE q, hd, .inr rfl, hnil, hinv.mono (by omega), by simp⟩
  | none =>
    obtain ⟨t, k, p, hat, htm, hkp, hqk⟩ := at_get h2
    obtain ⟨hkl, hpm, _, _⟩ := parts_mid hkp
    have hpr := hinv.pr t htm p hpm
    have haP : m.atP q = p := by unfold Image.atP; rw [hat]
    have haI : m.atI q = t.id := by unfold Image.atI; rw [hat]
    rcases h1' with h5 | h6
    · have hst := start_at hok (by omega) hpr.2 q.ids (by omega)
      have hdE : m.doE q = m.startE p q.ids := by unfold Image.doE; rw [if_neg h1, h2, if_neg (by simp), if_pos h5, haP]
      cases hse : m.startE p q.ids with
      | some e =>
        have hd := do_c m q h5 h2 (by omega) hmp (by rw [haP]; exact hst) (by rw [haP, startP_no hse]; exact small_of hpr.2) (by omega)
        rw [hno e (hdE.trans hse)] at hd
        exact ⟨[], m, m.doE q, hd, .inr rfl, hnil, hinv.mono (by omega), by simp⟩
      | none =>
        have hs := start_ok hse
        have e2 : m.startP p q.ids = p.sent q.ids := by unfold Image.startP; rw [hse]; rfl
        have hnx := sent_next hinv (by omega) hpr.1 hpr.2 hs
        have hd := do_c m q h5 h2 (by omega) hmp (by rw [haP]; exact hst) (by rw [haP, e2]; exact small_of hnx.rows) (by omega)
        have hdL : m.doL q = [change t.id k (p.sent q.ids)] := by
          unfold Image.doL; rw [hdE, hse, haI, hqk, Int.toNat_natCast]
          unfold Image.doP; rw [if_pos h5, haP, e2]; rfl
        rw [hdL] at hd
        obtain ⟨next, hsn⟩ := sent_ok hinv (by omega) htm hkp hnx (sent_same hs)
        exact ⟨_, next, m.doE q, hd, .inl (hdE.trans hse), hsn.all, hsn.inv, by simp⟩
    · have hpw : p.Rows 1000000 := ⟨hpr.2.ids, hpr.2.isr, hpr.2.add, hpr.2.drop, by have := hpr.2.ep; omega, hpr.2.le⟩
      have hcn := cancel_at hok hpw
      have hdE : m.doE q = erO (m.cancelE p) := by unfold Image.doE; rw [if_neg h1, h2, if_neg (by simp), if_neg (by omega), haP]
      cases hse : m.cancelE p with
      | some e =>
        have e2 : m.cancelP p = p := by unfold Image.cancelP; rw [hse]; rfl
        have hd := do_d m q h6 h2 (by omega) hmp (by rw [haP]; exact hcn) (by rw [haP, e2]; exact small_of hpr.2) (by omega)
        rw [hno (.fault e.1 e.2.1 (.code e.2.2)) (by rw [hdE, hse]; rfl)] at hd
        exact ⟨[], m, m.doE q, hd, .inr rfl, hnil, hinv.mono (by omega), by simp⟩
      | none =>
        have e2 : m.cancelP p = (m.settle p p.add).1 := by unfold Image.cancelP; rw [hse]; rfl
        have hun : p.under = true ∧ (m.settle p p.add).2 = true := by
          unfold Image.cancelE at hse
          split at hse
          · cases hse
          · split at hse
            · cases hse
            · exact ⟨by simpa using ‹¬ p.under = false›, by simpa using ‹¬ (m.settle p p.add).2 = false›⟩
        have hss := settled hun.2
        have hnx := settled_next (by omega) hpr.1 hpr.2 hss
        rw [← e2] at hnx hss
        have hd := do_d m q h6 h2 (by omega) hmp (by rw [haP]; exact hcn) (by rw [haP]; exact small_of hnx.rows) (by omega)
        have hdL : m.doL q = [change t.id k (m.cancelP p)] := by
          unfold Image.doL; rw [hdE, hse, haI, hqk, Int.toNat_natCast]
          unfold Image.doP; rw [if_neg (show ¬ q.kind = 5 by omega), haP]; rfl
        rw [hdL] at hd
        obtain ⟨next, hsn⟩ := sent_ok hinv (by omega) htm hkp hnx (settled_same hun.1 hss)
        exact ⟨_, next, m.doE q, hd, .inl (by rw [hdE, hse]; rfl), hsn.all, hsn.inv, by simp⟩
theorem left_le : ∀ (l : List Topic), (∀ t ∈ l, t.parts.length ≤ 1000) → (l.map fun t => underN t.parts).sum ≤ l.length * 1000 := by
  intro l
  induction l with
  | nil => intro _; simp
  | cons t l ih =>
    intro h
    have h1 := ih fun u hu => h u (by simp [hu])
    have h2 := h t (by simp)
    have h3 : underN t.parts ≤ t.parts.length := List.length_filter_le _ _
    simp only [List.map_cons, List.sum_cons, List.length_cons]
    omega
theorem legal_walk (l : List Record) (q : Req) : ACall pg 3 [.sl (l.map encR), encQ q] (B true) := by
  refine s3.call mo (by simp) fun hxs => ?_
  clear hxs
  have hsq := short_ok q
  unfold c3
  by_cases hl : l.length ≤ 80
  · cases hq : q.short with
    | false =>
      rw [hq] at hsq
      repeat' first | (with_reducible first | refine fS ?_ | refine fR ?_ | refine fQ ?_ | refine fT ?_ | refine awRet ?_) | ((with_reducible refine awReg fun K hok hK => ?_); clear hok; (try simp (maxSteps := 10000000) (disch := first | omega | simp) [hl]); (repeat' first | (with_reducible refine hK _ (by simp) ?_) | ((first | ((with_reducible refine callS' fun K2 hK2 => ?_); (try simp (maxSteps := 10000000) (disch := first | omega | simp) [hl]); (first | refine hK2 _ _ (mlight_ok l) rfl fun hk9 => ?_ | refine hK2 _ _ hsq rfl fun hk9 => ?_ | refine hK2 _ _ mworks_ok rfl fun hk9 => ?_); clear hk9; clear hK2 K2) | ((with_reducible refine callF' fun K2 hK2 => ?_); (try simp (maxSteps := 10000000) (disch := first | omega | simp) [hl]); (first | refine hK2 _ _ _ (mlight_ok l) fun _ => ?_ | refine hK2 _ _ _ hsq fun _ => ?_ | refine hK2 _ _ _ mworks_ok fun _ => ?_); clear hK2 K2) | ((with_reducible refine sideS' fun K2 hK2 => ?_); (try simp (maxSteps := 10000000) (disch := first | omega | simp) [hl]); (first | refine hK2 _ _ (mlight_ok l) rfl ?_ | refine hK2 _ _ (hsq) rfl ?_ | refine hK2 _ _ (mworks_ok) rfl ?_); clear hK2 K2) | ((with_reducible refine gdU ?_)) | ((with_reducible refine sideQ' ?_ ?_ fun K2 hK2 => ?_); exact rfl; exact rfl; (try simp (maxSteps := 10000000) (disch := first | omega | simp) [hl]); with_reducible refine hK2 _ _ ?_; clear hK2 K2)); (try simp (maxSteps := 10000000) (disch := first | omega | simp) [hl]))) <;> clear hK K) | ((with_reducible refine awCond fun A B hA hB => ?_); simp (maxSteps := 10000000) (disch := first | omega | simp) [hl]; (first | refine ⟨fun h => hA ?_, fun h => hB ?_⟩ | refine hA ?_ | refine hB ?_) <;> (clear hA hB A B; (try (exfalso; omega))))
      all_goals (refine aEnR (aRes [] fun K hK => ?_); simp (maxSteps := 10000000) (disch := first | omega | simp) []; refine hK _ ?_ (by simp); clear hK; first | done | (simp (maxSteps := 10000000) (disch := first | omega | simp) [*]; done) | (simp (maxSteps := 10000000) (disch := first | omega | simp) [*]; omega) | (simp_all []; done) | (simp_all []; omega))
    | true =>
      rw [hq] at hsq
      have hqi : q.ids.length ≤ 60 := by unfold Req.short at hq; simp only [Bool.and_eq_true, decide_eq_true_eq] at hq; exact hq.2
      have hinv := made_inv l (by omega)
      have hmk := made_ok l (by omega)
      have hok := madeOk hinv (by omega)
      generalize made l = m at *
      obtain ⟨L, next, E, hdo, hor, hall, hi2, hL⟩ := do_at hok (by omega) q (by omega)
      have hal := all_ok m L l.length hinv (by omega)
      rw [hall] at hal
      have hok2 := madeOk hi2 (by omega)
      have hrw : ∀ t ∈ next.topics, ∀ p ∈ t.parts, (next.finish p).1.Rows 1000000 := fun t ht p hp => finish_rows (by omega) (hi2.pr t ht p hp).1 (hi2.pr t ht p hp).2
      have hdu := due_ok next hok2.brk hok2.sml (fun t ht p hp => big_of (hi2.pr t ht p hp).2) (fun t ht p hp => by have := (hi2.pr t ht p hp).2.ep; omega) (fun t ht p hp => small_of (hrw t ht p hp))
      have hal2 := all_ok2 next next.due Image.Pre hok2.pre (fun s h => h) (fun s r hr hs => changes_pre (fun t ht p hp => by have := (hrw t ht p hp).ep; omega) s r hr hs) (changes_len hi2 (by omega) _)
      rw [due_all hi2 (by omega)] at hal2
      have hlf := left_ok next hok2.sml
      have hle := left_le next.topics hok2.pre.pl
      have htl := hok2.pre.tl
      have hld := left_due next
      have hdd := due_done next
      have hmem : ∀ t ∈ (next.mapParts fun p => (next.finish p).1).topics, ∀ p ∈ t.parts, p.Rows 1000000 ∧ (next.finish p).1 = p := by
        intro t ht p hp
        simp only [Image.mapParts, List.mem_map] at ht
        obtain ⟨u, hu, rfl⟩ := ht
        simp only [List.mem_map] at hp
        obtain ⟨x, hx, rfl⟩ := hp
        exact ⟨hrw u hu x hx, finish_twice next x⟩
      have hbr : (next.mapParts fun p => (next.finish p).1).brokers = next.brokers := rfl
      have hsm3 : (next.mapParts fun p => (next.finish p).1).Sml := ⟨by simpa [Image.mapParts] using hok2.sml.tl, fun t ht => by
        simp only [Image.mapParts, List.mem_map] at ht
        obtain ⟨u, hu, rfl⟩ := ht
        simpa using hok2.sml.pl u hu, fun t ht p hp => small_of (hmem t ht p hp).1⟩
      have hbk3 : (next.mapParts fun p => (next.finish p).1).Brk := ⟨hok2.brk.bs, hok2.brk.br, hok2.brk.bl⟩
      have hdl : next.due.length ≤ 1000000 := changes_len hi2 (by omega) _
      have hfb := finish_brokers hbr
      generalize (next.mapParts fun p => (next.finish p).1) = last at *
      have hlf3 := left_ok last hsm3
      have hdu3 := due_ok last hbk3 hsm3 (fun t ht p hp => big_of (hmem t ht p hp).1) (fun t ht p hp => by have := (hmem t ht p hp).1.ep; omega) (fun t ht p hp => by rw [hfb, (hmem t ht p hp).2]; exact small_of (hmem t ht p hp).1)
      rw [hdd, List.map_nil] at hdu3
      have hll : next.left ≤ 1000000 := by unfold Image.left; omega
      have f1 : ((last.left : Int) == (next.left : Int) - (next.due.length : Int)) = true := by simp only [beq_iff_eq]; omega
      clear hmem hrw hdd hok2 hok hi2 hinv hall hfb
      cases E with
      | none =>
        simp only [errE_none] at hdo
        repeat' first | (with_reducible first | refine fS ?_ | refine fR ?_ | refine fQ ?_ | refine fT ?_ | refine awRet ?_) | ((with_reducible refine awReg fun K hok hK => ?_); clear hok; (try simp (maxSteps := 10000000) (disch := first | omega | simp) [hl, f1, isConst]); (repeat' first | (with_reducible refine hK _ (by simp) ?_) | ((first | ((with_reducible refine callS' fun K2 hK2 => ?_); (try simp (maxSteps := 10000000) (disch := first | omega | simp) [hl, f1, isConst]); (first | refine hK2 _ _ (mlight_ok l) rfl fun hk9 => ?_ | refine hK2 _ _ hsq rfl fun hk9 => ?_ | refine hK2 _ _ mworks_ok rfl fun hk9 => ?_ | refine hK2 _ _ hmk rfl fun hk9 => ?_ | refine hK2 _ _ hdo rfl fun hk9 => ?_ | refine hK2 _ _ hal rfl fun hk9 => ?_ | refine hK2 _ _ hdu rfl fun hk9 => ?_ | refine hK2 _ _ hal2 rfl fun hk9 => ?_ | refine hK2 _ _ hlf3 rfl fun hk9 => ?_ | refine hK2 _ _ hlf rfl fun hk9 => ?_ | refine hK2 _ _ hdu3 rfl fun hk9 => ?_); clear hk9; clear hK2 K2) | ((with_reducible refine callF' fun K2 hK2 => ?_); (try simp (maxSteps := 10000000) (disch := first | omega | simp) [hl, f1, isConst]); (first | refine hK2 _ _ _ (mlight_ok l) fun _ => ?_ | refine hK2 _ _ _ hsq fun _ => ?_ | refine hK2 _ _ _ mworks_ok fun _ => ?_ | refine hK2 _ _ _ hmk fun _ => ?_ | refine hK2 _ _ _ hdo fun _ => ?_ | refine hK2 _ _ _ hal fun _ => ?_ | refine hK2 _ _ _ hdu fun _ => ?_ | refine hK2 _ _ _ hal2 fun _ => ?_ | refine hK2 _ _ _ hlf3 fun _ => ?_ | refine hK2 _ _ _ hlf fun _ => ?_ | refine hK2 _ _ _ hdu3 fun _ => ?_); clear hK2 K2) | ((with_reducible refine sideS' fun K2 hK2 => ?_); (try simp (maxSteps := 10000000) (disch := first | omega | simp) [hl, f1, isConst]); (first | refine hK2 _ _ (mlight_ok l) rfl ?_ | refine hK2 _ _ (hsq) rfl ?_ | refine hK2 _ _ (mworks_ok) rfl ?_ | refine hK2 _ _ (hmk) rfl ?_ | refine hK2 _ _ (hdo) rfl ?_ | refine hK2 _ _ (hal) rfl ?_ | refine hK2 _ _ (hdu) rfl ?_ | refine hK2 _ _ (hal2) rfl ?_ | refine hK2 _ _ (hlf3) rfl ?_ | refine hK2 _ _ (hlf) rfl ?_ | refine hK2 _ _ (hdu3) rfl ?_); clear hK2 K2) | ((with_reducible refine gdU ?_)) | ((with_reducible refine sideQ' ?_ ?_ fun K2 hK2 => ?_); exact rfl; exact rfl; (try simp (maxSteps := 10000000) (disch := first | omega | simp) [hl, f1, isConst]); with_reducible refine hK2 _ _ ?_; clear hK2 K2)); (try simp (maxSteps := 10000000) (disch := first | omega | simp) [hl, f1, isConst]))) <;> clear hK K) | ((with_reducible refine awCond fun A B hA hB => ?_); simp (maxSteps := 10000000) (disch := first | omega | simp) [hl, f1, isConst]; (first | refine ⟨fun h => hA ?_, fun h => hB ?_⟩ | refine hA ?_ | refine hB ?_) <;> (clear hA hB A B; (try (exfalso; omega))))
        all_goals (refine aEnR (aRes [] fun K hK => ?_); simp (maxSteps := 10000000) (disch := first | omega | simp) []; refine hK _ ?_ (by simp); clear hK; first | done | (simp (maxSteps := 10000000) (disch := first | omega | simp) [*]; done) | (simp (maxSteps := 10000000) (disch := first | omega | simp) [*]; omega) | (simp_all []; done) | (simp_all []; omega))
      | some e =>
        obtain ⟨ty, v, he⟩ := encE_if e
        rcases hor with h | h
        · cases h
        subst h
        simp only [errE_some, he, List.map_nil] at hdo hal
        repeat' first | (with_reducible first | refine fS ?_ | refine fR ?_ | refine fQ ?_ | refine fT ?_ | refine awRet ?_) | ((with_reducible refine awReg fun K hok hK => ?_); clear hok; (try simp (maxSteps := 10000000) (disch := first | omega | simp) [hl, f1, isConst]); (repeat' first | (with_reducible refine hK _ (by simp) ?_) | ((first | ((with_reducible refine callS' fun K2 hK2 => ?_); (try simp (maxSteps := 10000000) (disch := first | omega | simp) [hl, f1, isConst]); (first | refine hK2 _ _ (mlight_ok l) rfl fun hk9 => ?_ | refine hK2 _ _ hsq rfl fun hk9 => ?_ | refine hK2 _ _ mworks_ok rfl fun hk9 => ?_ | refine hK2 _ _ hmk rfl fun hk9 => ?_ | refine hK2 _ _ hdo rfl fun hk9 => ?_ | refine hK2 _ _ hal rfl fun hk9 => ?_ | refine hK2 _ _ hdu rfl fun hk9 => ?_ | refine hK2 _ _ hal2 rfl fun hk9 => ?_ | refine hK2 _ _ hlf3 rfl fun hk9 => ?_ | refine hK2 _ _ hlf rfl fun hk9 => ?_ | refine hK2 _ _ hdu3 rfl fun hk9 => ?_); clear hk9; clear hK2 K2) | ((with_reducible refine callF' fun K2 hK2 => ?_); (try simp (maxSteps := 10000000) (disch := first | omega | simp) [hl, f1, isConst]); (first | refine hK2 _ _ _ (mlight_ok l) fun _ => ?_ | refine hK2 _ _ _ hsq fun _ => ?_ | refine hK2 _ _ _ mworks_ok fun _ => ?_ | refine hK2 _ _ _ hmk fun _ => ?_ | refine hK2 _ _ _ hdo fun _ => ?_ | refine hK2 _ _ _ hal fun _ => ?_ | refine hK2 _ _ _ hdu fun _ => ?_ | refine hK2 _ _ _ hal2 fun _ => ?_ | refine hK2 _ _ _ hlf3 fun _ => ?_ | refine hK2 _ _ _ hlf fun _ => ?_ | refine hK2 _ _ _ hdu3 fun _ => ?_); clear hK2 K2) | ((with_reducible refine sideS' fun K2 hK2 => ?_); (try simp (maxSteps := 10000000) (disch := first | omega | simp) [hl, f1, isConst]); (first | refine hK2 _ _ (mlight_ok l) rfl ?_ | refine hK2 _ _ (hsq) rfl ?_ | refine hK2 _ _ (mworks_ok) rfl ?_ | refine hK2 _ _ (hmk) rfl ?_ | refine hK2 _ _ (hdo) rfl ?_ | refine hK2 _ _ (hal) rfl ?_ | refine hK2 _ _ (hdu) rfl ?_ | refine hK2 _ _ (hal2) rfl ?_ | refine hK2 _ _ (hlf3) rfl ?_ | refine hK2 _ _ (hlf) rfl ?_ | refine hK2 _ _ (hdu3) rfl ?_); clear hK2 K2) | ((with_reducible refine gdU ?_)) | ((with_reducible refine sideQ' ?_ ?_ fun K2 hK2 => ?_); exact rfl; exact rfl; (try simp (maxSteps := 10000000) (disch := first | omega | simp) [hl, f1, isConst]); with_reducible refine hK2 _ _ ?_; clear hK2 K2)); (try simp (maxSteps := 10000000) (disch := first | omega | simp) [hl, f1, isConst]))) <;> clear hK K) | ((with_reducible refine awCond fun A B hA hB => ?_); simp (maxSteps := 10000000) (disch := first | omega | simp) [hl, f1, isConst]; (first | refine ⟨fun h => hA ?_, fun h => hB ?_⟩ | refine hA ?_ | refine hB ?_) <;> (clear hA hB A B; (try (exfalso; omega))))
        all_goals (refine aEnR (aRes [] fun K hK => ?_); simp (maxSteps := 10000000) (disch := first | omega | simp) []; refine hK _ ?_ (by simp); clear hK; first | done | (simp (maxSteps := 10000000) (disch := first | omega | simp) [*]; done) | (simp (maxSteps := 10000000) (disch := first | omega | simp) [*]; omega) | (simp_all []; done) | (simp_all []; omega))
  · repeat' first | (with_reducible first | refine fS ?_ | refine fR ?_ | refine fQ ?_ | refine fT ?_ | refine awRet ?_) | ((with_reducible refine awReg fun K hok hK => ?_); clear hok; (try simp (maxSteps := 10000000) (disch := first | omega | simp) [hl]); (repeat' first | (with_reducible refine hK _ (by simp) ?_) | ((first | ((with_reducible refine callS' fun K2 hK2 => ?_); (try simp (maxSteps := 10000000) (disch := first | omega | simp) [hl]); (first | refine hK2 _ _ (mlight_ok l) rfl fun hk9 => ?_ | refine hK2 _ _ mworks_ok rfl fun hk9 => ?_); clear hk9; clear hK2 K2) | ((with_reducible refine callF' fun K2 hK2 => ?_); (try simp (maxSteps := 10000000) (disch := first | omega | simp) [hl]); (first | refine hK2 _ _ _ (mlight_ok l) fun _ => ?_ | refine hK2 _ _ _ mworks_ok fun _ => ?_); clear hK2 K2) | ((with_reducible refine sideS' fun K2 hK2 => ?_); (try simp (maxSteps := 10000000) (disch := first | omega | simp) [hl]); (first | refine hK2 _ _ (mlight_ok l) rfl ?_ | refine hK2 _ _ (mworks_ok) rfl ?_); clear hK2 K2) | ((with_reducible refine gdU ?_)) | ((with_reducible refine sideQ' ?_ ?_ fun K2 hK2 => ?_); exact rfl; exact rfl; (try simp (maxSteps := 10000000) (disch := first | omega | simp) [hl]); with_reducible refine hK2 _ _ ?_; clear hK2 K2)); (try simp (maxSteps := 10000000) (disch := first | omega | simp) [hl]))) <;> clear hK K) | ((with_reducible refine awCond fun A B hA hB => ?_); simp (maxSteps := 10000000) (disch := first | omega | simp) [hl]; (first | refine ⟨fun h => hA ?_, fun h => hB ?_⟩ | refine hA ?_ | refine hB ?_) <;> (clear hA hB A B; (try (exfalso; omega))))
    all_goals (refine aEnR (aRes [] fun K hK => ?_); simp (maxSteps := 10000000) (disch := first | omega | simp) []; refine hK _ ?_ (by simp); clear hK; first | done | (simp (maxSteps := 10000000) (disch := first | omega | simp) [*]; done) | (simp (maxSteps := 10000000) (disch := first | omega | simp) [*]; omega) | (simp_all []; done) | (simp_all []; omega))
end
end Go.Am
