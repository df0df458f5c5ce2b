/- Part of the proof of a law of the image. -/
import Derived.Test.YtfgfjgbggkdobaaGreatQEC
import Derived.Test.YtfgfjgbggkdobaaGreatQED
import Derived.Test.YtfgfjgbggkdobaaGreatQJD
import Derived.Test.YtfgfjgbggkdobaaGreatQJE
import Derived.Test.YtfgfjgbggkdobaaGreatQPU
import Derived.Test.YtfgfjgbggkdobaaGreatQW0
set_option linter.all false
section
set_option maxRecDepth 100000
set_option maxHeartbeats 0
namespace Go.Am
open Go
noncomputable section
def c3 : SC := (.seq (.reg [oZ 2 false] [0,10,41]) (.seq (.reg [oM 7 0,oC 8 5 #[.tmp 7] #[22],oD 9 (.unOp .not 4 (.tmp 8))] [0,9,10,41]) (.seq (.cond (.tmp 9) (.seq (.reg [oC 10 6 #[] #[],oG 2 10] [2,10,41]) .ret) .skip) (.seq (.reg [oD 11 (.build 30 #[]),oA 3 30,oS 30 3 11] [0,3,10,41]) (.seq (.reg [oI 4 0] [0,3,4,10,17,41]) (.seq (.block 0 (.seq (.loop (.seq (.reg [oM 12 4,oM 13 0,oN 14 13 22,oB 15 .lss 3 12 14 3] [0,3,4,10,15,17,41]) (.seq (.cond (.tmp 15) .skip (.exit 0)) (.seq (.block 1 (.seq (.reg [oU (oL 19 30 3) [20,21,22,23,5],oU (oM 20 0) [19,21,5],oU (oM 21 4) [19,20,5],oU (oJ 22 22 20 21) [19,5],oU (oL 23 37 22) [19,5],oU (oC 24 7 #[.tmp 19,.tmp 23] #[30,37]) [5],oU (oM 18 24) [5],oU (oX 25 18 0) [26,5],oU (oX 26 18 1) [25,5,5],oU (oA 5 30) [19,20,21,22,23,24,18,25,26],oU (oS 30 5 25) [26],oG 6 26] [0,3,4,5,6,10,17,18,24,26,41]) (.seq (.reg [oM 27 6,oD 28 (.binOp .neq 32 (.tmp 27) (.const .nilIface) 32),oM 29 28,oW 29 true (oL 30 30 5),oW 29 true (oL 31 30 3),oW 29 true (oC 32 8 #[.tmp 30,.tmp 31] #[30,30]),oW 29 true (oD 33 (.unOp .not 4 (.tmp 32))),oQ 34 29 33 false,oM 35 34,oW 35 false (oL 36 30 5),oW 35 false (oC 37 9 #[.tmp 36] #[30]),oW 35 false (oK 38 .gtr 3 37 0 3),oR 39 35 true 38] [0,3,4,5,10,17,28,29,33,34,35,38,39,41]) (.seq (.cond (.tmp 39) (.seq (.reg [oZ 2 false] [2,10,41]) .ret) .skip) (.seq (.reg [oL 40 30 5,oS 30 3 40] [0,3,4,10,17,41]) .skip))))) (.seq (.reg [oM 16 4,oK 17 .add 3 16 1 3,oG 4 17] [0,3,4,10,17,41]) .skip))))) .skip)) (.seq (.reg [oC 41 6 #[] #[],oG 2 41] [2,10,41]) .ret)))))))
theorem s3 : TextK Proofs.Tryz.prog 0 3 42 [ResultVar.tmp 2] c3 := .mk' Proofs.Tryz.f3 _ (by kernel_rfl) rfl rfl rfl (by kernel_rfl) rfl (by kernel_rfl)
theorem Wk.frzIm {l : List (Nat × E)} {r : Nat} {a b c d : List V} {x : V} (h : Am.ofA l r = .p (.own [.uq a, .uq b, .uq c, .uq d, x])) :
    Wk (Am.ofA l) (Am.ofA ((r, .p (.own [.sl (pvL a), .sl (pvL b), .sl (pvL c), .sl (pvL d), x])) :: blurK r [(0, 3)] (blurK r [(0, 2)] (blurK r [(0, 1)] (blurK r [(0, 0)] l))))) := by
  have h1 := Wk.frz1 h (j := 0) rfl (by simp)
  have h2 := Wk.frz1 (r := r) (j := 1) (cs := [.sl (pvL a), .uq b, .uq c, .uq d, x]) (z := .uq b) (l := (r, .p (.own [.sl (pvL a), .uq b, .uq c, .uq d, x])) :: blurK r [(0, 0)] l) (by simp) rfl (by simp)
  have h3 := Wk.frz1 (r := r) (j := 2) (cs := [.sl (pvL a), .sl (pvL b), .uq c, .uq d, x]) (z := .uq c) (l := (r, .p (.own [.sl (pvL a), .sl (pvL b), .uq c, .uq d, x])) :: blurK r [(0, 1)] (blurK r [(0, 0)] l)) (by simp) rfl (by simp)
  have h4 := Wk.frz1 (r := r) (j := 3) (cs := [.sl (pvL a), .sl (pvL b), .sl (pvL c), .uq d, x]) (z := .uq d) (l := (r, .p (.own [.sl (pvL a), .sl (pvL b), .sl (pvL c), .uq d, x])) :: blurK r [(0, 2)] (blurK r [(0, 1)] (blurK r [(0, 0)] l))) (by simp) rfl (by simp)
  simp [pv] at h1 h2 h3 h4
  exact h1.trans (h2.trans (h3.trans h4))
theorem done_step {m : Image} (h : m.done.length ≤ 64) (r : Record) : (m.apply r).1.done.length ≤ 64 := by
  unfold Image.apply
  split
  · exact h
  split
  · unfold Image.register; (repeat' split) <;> exact h
  split
  · unfold Image.brokerRec; (repeat' split) <;> exact h
  split
  · unfold Image.partRec; (repeat' split) <;> exact h
  split
  · unfold Image.addTopic; (repeat' split) <;> exact h
  split
  · unfold Image.dropRec; (repeat' split) <;> exact h
  split
  · unfold Image.configRec; (repeat' split) <;> exact h
  split
  · unfold Image.doneRec
    split
    · exact h
    · simp; omega
  · exact h
structure Asked : Prop where
  check : ∀ r, ACall pg 20 [encR r] (errO (recE r))
  brok : ∀ (m : Image) (n : Nat) (r : Record), ImOk m n → n ≤ 1000 → (checkW r).code = 0 → r.kind = 3 ∨ r.kind = 4 ∨ r.kind = 5 ∨ r.kind = 6 → TurnsE pg 23 m r (m.brokerRec r)
theorem Asked.apply (A : Asked) {m : Image} {n : Nat} (h : ImOk m n) (hn : n ≤ 1000) (r : Record) : ∃ E : Option Er, ACall pg 7 [encM m, encR r] (.tup [encM (m.apply r).1, errE E]) ∧ cdE E = (m.apply r).2 :=
  iapply_ok h hn r (A.check r) (fun hc hk => A.brok m n r h hn hc hk) (apply_same m r)
theorem whole_walk (A : Asked) (HW : ACall pg 6 [] (B true)) (l : List Record) : ACall pg 3 [.sl (l.map encR)] (B true) := by
  refine s3.call mo (by simp) fun hxs => ?_
  clear hxs
  obtain ⟨b, hli, hll⟩ := light_ok l
  unfold c3; dsimp only [oA, oB, oC, oD, oG, oI, oJ, oK, oL, oM, oN, oQ, oR, oS, oU, oW, oX, oZ]
  cases b with
  | false =>
    refine wk ?_
    all_goals exact fn0
  | true =>
    have hl := hll rfl
    refine wk ?_
    refine awFor l.length (fun i (s : Image) => ImOk s i ∧ s.done.length ≤ 64) (fun i s => [(4, .p (I i)), (3, .p (.own (encM s).cells)), (0, .p (.sl (l.map encR)))]) zM ((Wk.frzIm (r := 3) rfl).trans (Wk.ofA (by simp [zM]))) ⟨ImOk.zero, by simp [zM]⟩ fun i s hi hs => ?_
    obtain ⟨hs, hsd⟩ := hs
    by_cases hlt : i < l.length
    · obtain ⟨E, hA, hE⟩ := A.apply hs (by omega) l[i]
      have hst := hs.step (by omega) l[i]
      have hds := done_step hsd l[i]
      cases E with
      | none =>
        generalize (s.apply l[i]).1 = x at *
        have hwh := whole_ok x (i + 1) hst.inv (by omega) hds
        simp only [errE_none] at hA
        clear hE
        repeat' first | (with_reducible first | refine thN ?_ | refine thE ?_ | refine inN ?_ | refine inH ?_ | refine fS ?_ | refine fR ?_ | refine fQ ?_ | refine fE ?_ | refine fT ?_ | refine awBlock ?_ | refine awExit ?_ | refine awRet ?_ | refine awSkip ?_) | ((with_reducible refine awReg fun K hok hK => ?_); clear hok; (try simp (maxSteps := 10000000) (disch := first | omega | simp) [hlt, isConst]); (repeat' first | (with_reducible refine hK _ (by simp) ?_) | ((first | ((with_reducible refine callS' fun K2 hK2 => ?_); (try simp (maxSteps := 10000000) (disch := first | omega | simp) [hlt, isConst]); (first | refine hK2 _ _ hA rfl fun hk9 => ?_ | refine hK2 _ _ hwh rfl fun hk9 => ?_); clear hk9; clear hK2 K2) | ((with_reducible refine sideF' fun K2 hK2 => ?_); (try simp (maxSteps := 10000000) (disch := first | omega | simp) [hlt, isConst]); (first | refine hK2 _ _ _ hA (by simp) ?_ | refine hK2 _ _ _ hwh (by simp) ?_); clear hK2 K2) | ((with_reducible refine sideSt' fun K2 hK2 => ?_); (try simp (maxSteps := 10000000) (disch := first | omega | simp) [hlt, isConst]); refine hK2 _ ?_; clear hK2 K2) | ((with_reducible refine sideQ' ?_ ?_ fun K2 hK2 => ?_); exact rfl; exact rfl; (try simp (maxSteps := 10000000) (disch := first | omega | simp) [hlt, isConst]); with_reducible refine hK2 _ _ ?_; clear hK2 K2) | ((with_reducible refine side' ?_ fun K2 hK2 => ?_); exact rfl; (try simp (maxSteps := 10000000) (disch := first | omega | simp) [hlt, isConst]); refine hK2 _ _ (by simp) ?_; clear hK2 K2)); (try simp (maxSteps := 10000000) (disch := first | omega | simp) [hlt, isConst]))) <;> clear hK K) | ((with_reducible refine awCond fun A B hA hB => ?_); simp (maxSteps := 10000000) (disch := first | omega | simp) [hlt, isConst]; (first | refine ⟨fun h => hA ?_, fun h => hB ?_⟩ | refine hA ?_ | refine hB ?_) <;> (clear hA hB A B; (try (exfalso; omega))))
        (refine ⟨?_, x, ?_, Wk.ofA ?_⟩; assumption; rotate_left; focus (simp []; done))
        exact ⟨hst, hds⟩
      | some e =>
        have hne : (s.apply l[i]).2 ≠ 0 := by rw [← hE]; exact cd_ne e
        rw [apply_same s l[i] hne] at hA hst
        have hwh := whole_ok s i hs.inv (by omega) hsd
        have hpre := hs.inv.pre (show i ≤ 1000 by omega)
        have hsa := imSame_ok s (by have := hpre.bl; omega) (by have := hpre.tl; omega) (by have := hpre.cl; omega) (by have := hpre.dl; omega) (fun t ht => by have := hpre.pl t ht; omega)
        obtain ⟨ty, v, he⟩ := encE_if e
        simp only [errE_some, he] at hA
        clear hE hne hds
        repeat' first | (with_reducible first | refine thN ?_ | refine thE ?_ | refine inN ?_ | refine inH ?_ | refine fS ?_ | refine fR ?_ | refine fQ ?_ | refine fE ?_ | refine fT ?_ | refine awBlock ?_ | refine awExit ?_ | refine awRet ?_ | refine awSkip ?_) | ((with_reducible refine awReg fun K hok hK => ?_); clear hok; (try simp (maxSteps := 10000000) (disch := first | omega | simp) [hlt, isConst]); (repeat' first | (with_reducible refine hK _ (by simp) ?_) | ((first | ((with_reducible refine callS' fun K2 hK2 => ?_); (try simp (maxSteps := 10000000) (disch := first | omega | simp) [hlt, isConst]); (first | refine hK2 _ _ hA rfl fun hk9 => ?_ | refine hK2 _ _ hwh rfl fun hk9 => ?_ | refine hK2 _ _ hsa rfl fun hk9 => ?_); clear hk9; clear hK2 K2) | ((with_reducible refine sideF' fun K2 hK2 => ?_); (try simp (maxSteps := 10000000) (disch := first | omega | simp) [hlt, isConst]); (first | refine hK2 _ _ _ hA (by simp) ?_ | refine hK2 _ _ _ hwh (by simp) ?_ | refine hK2 _ _ _ hsa (by simp) ?_); clear hK2 K2) | ((with_reducible refine sideSt' fun K2 hK2 => ?_); (try simp (maxSteps := 10000000) (disch := first | omega | simp) [hlt, isConst]); refine hK2 _ ?_; clear hK2 K2) | ((with_reducible refine sideQ' ?_ ?_ fun K2 hK2 => ?_); exact rfl; exact rfl; (try simp (maxSteps := 10000000) (disch := first | omega | simp) [hlt, isConst]); with_reducible refine hK2 _ _ ?_; clear hK2 K2) | ((with_reducible refine side' ?_ fun K2 hK2 => ?_); exact rfl; (try simp (maxSteps := 10000000) (disch := first | omega | simp) [hlt, isConst]); refine hK2 _ _ (by simp) ?_; clear hK2 K2)); (try simp (maxSteps := 10000000) (disch := first | omega | simp) [hlt, isConst]))) <;> clear hK K) | ((with_reducible refine awCond fun A B hA hB => ?_); simp (maxSteps := 10000000) (disch := first | omega | simp) [hlt, isConst]; (first | refine ⟨fun h => hA ?_, fun h => hB ?_⟩ | refine hA ?_ | refine hB ?_) <;> (clear hA hB A B; (try (exfalso; omega))))
        (refine ⟨?_, s, ?_, Wk.ofA ?_⟩; assumption; rotate_left; focus (simp []; done))
        exact ⟨hst, hsd⟩
    · clear hs hsd
      have F := hlt
      refine wkF ?_
      exact fn0
end
end Go.Am
end
section
set_option maxRecDepth 100000
set_option maxHeartbeats 0
namespace Go.Am
open Go
noncomputable section
def c13 : SC := (.seq (.reg [oO 2 30 0,oA 4 30,oD 5 (.assign (.const .nilIface))] [1,2,4,30]) (.seq (.reg [oL 11 30 2,oA 6 30,oS 30 6 11] [1,2,4,6,30]) (.seq (.reg [oM 12 1,oN 13 12 22,oD 14 (.move (.const (.int .i64 0)))] [1,2,4,6,12,13,14,30,32]) (.seq (.block 0 (.seq (.loop (.seq (.reg [oB 15 .lss 3 14 13 3] [1,2,4,6,12,13,14,15,30,32]) (.seq (.cond (.tmp 15) .skip (.exit 0)) (.seq (.block 1 (.seq (.reg [oM 16 14,oJ 17 22 12 14,oL 18 37 17,oA 8 37,oG 7 16,oS 37 8 18] [1,2,4,6,7,8,12,13,14,16,30,32]) (.seq (.reg [oL 20 30 6,oL 21 37 8,oC 22 7 #[.tmp 20,.tmp 21] #[30,37],oM 19 22,oX 23 19 0,oX 24 19 1,oA 9 30,oS 30 9 23,oG 10 24] [1,2,4,6,7,9,10,12,13,14,16,19,22,24,30,32]) (.seq (.reg [oM 25 10,oD 26 (.binOp .neq 32 (.tmp 25) (.const .nilIface) 32)] [1,2,4,6,7,9,10,12,13,14,16,19,22,24,26,30,32]) (.seq (.cond (.tmp 26) (.seq (.reg [oU (oL 27 30 2) [28,29,30],oU (oM 28 7) [27,29],oU (oM 29 10) [27,28],oU (oD 30 (.call { callee := .value (.func 21),args := #[.const (.string ⟨#[114,101,99,111,114,100]⟩),.tmp 28,.tmp 29],argTypes := #[9,3,32] })) [27],oS 30 4 27,oG 5 30] [4,5,30]) .ret) .skip) (.seq (.reg [oL 31 30 9,oS 30 6 31] [1,2,4,6,12,13,14,30,32]) .skip)))))) (.seq (.reg [oK 32 .add 3 14 1 3,oM 14 32] [1,2,4,6,12,13,14,30,32]) .skip))))) .skip)) (.seq (.reg [oL 33 30 6,oS 30 4 33,oD 5 (.assign (.const .nilIface))] [4,5,30]) .ret)))))
theorem s13 : TextK Proofs.Tryz.prog 0 13 34 [ResultVar.cell 4 30, ResultVar.tmp 5] c13 := .mk' Proofs.Tryz.f13 _ (by kernel_rfl) rfl rfl rfl (by kernel_rfl) rfl (by kernel_rfl)
def c15 : SC := (.seq (.reg [oO 3 30 0,oA 6 47,oZ 7 false] [1,2,3,6]) (.seq (.reg [oL 11 30 3,oM 12 1,oC 13 32 #[.tmp 11,.tmp 12] #[30,3],oM 10 13,oX 14 10 0,oX 15 10 1,oA 8 65,oS 65 8 14,oG 9 15] [2,6,8,9,10,13,15]) (.seq (.reg [oM 16 9,oD 17 (.unOp .not 4 (.tmp 16)),oM 18 17,oW 18 false (oM 19 2),oW 18 false (oK 20 .lss 3 19 0 3),oR 21 18 true 20,oM 22 21,oW 22 false (oM 23 2),oW 22 false (oF 24 65 8 2),oW 22 false (oL 25 63 24),oW 22 false (oN 26 25 63),oW 22 false (oB 27 .geq 3 23 26 3),oR 28 22 true 27] [2,6,8,17,18,20,21,22,27,28]) (.seq (.cond (.tmp 28) (.seq (.reg [oD 29 (.build 47 #[]),oS 47 6 29,oZ 7 false] [6,7]) .ret) .skip) (.seq (.reg [oF 30 65 8 2,oL 31 63 30,oM 32 2,oJ 33 63 31 32,oL 34 47 33,oS 47 6 34,oZ 7 true] [6,7]) .ret)))))
theorem s15 : TextK Proofs.Tryz.prog 0 15 35 [ResultVar.cell 6 47, ResultVar.tmp 7] c15 := .mk' Proofs.Tryz.f15 _ (by kernel_rfl) rfl rfl rfl (by kernel_rfl) rfl (by kernel_rfl)
theorem allFrom_good (m0 : Image) : ∀ (l : List Record) (s : Image), (m0.allFrom s l).2 = 0 → ∀ r l', l = r :: l' → (s.apply r).2 = 0 ∧ m0.allFrom s l = m0.allFrom (s.apply r).1 l' := by
  intro l s h r l' e
  subst e
  have e : m0.allFrom s (r :: l') = if (s.apply r).2 ≠ 0 then (m0, (s.apply r).2) else m0.allFrom (s.apply r).1 l' := by rw [Image.allFrom]
  rw [e] at h ⊢
  by_cases h1 : (s.apply r).2 ≠ 0
  · rw [if_pos h1] at h; exact absurd h h1
  · rw [if_neg h1]; exact ⟨by omega, rfl⟩
theorem iAll_good (A : Asked) {m : Image} {n : Nat} (h : ImOk m n) (l : List Record) (hl : n + l.length ≤ 1000) (h0 : (m.all l).2 = 0) :
    ACall pg 13 [encM m, .sl (l.map encR)] (.tup [encM (m.all l).1, .c .nilIface]) := by
  refine s13.call mo (by simp) fun hxs => ?_
  clear hxs
  unfold Image.all at h0 ⊢
  unfold c13; dsimp only [oA, oB, oC, oD, oG, oJ, oK, oL, oM, oN, oO, oS, oU, oX]
  refine wk ?_
  refine awFor l.length (fun i (s : Image) => ImOk s (n + i) ∧ (m.allFrom s (l.drop i)).2 = 0 ∧ m.allFrom s (l.drop i) = m.allFrom m l)
    (fun i s => [(14, .p (I i)), (13, .p (I l.length)), (12, .p (.sl (l.map encR))), (6, .p (.own (encM s).cells)), (4, .p (.own [.uq [], .uq [], .uq [], .uq [], I 0])), (2, .p (.own (encM m).cells))]) m (Wk.ofA (by simp)) ⟨by simpa using h, by simpa using h0, by simp⟩ fun i s hi hs => ?_
  obtain ⟨hs, hz, he⟩ := hs
  by_cases hlt : i < l.length
  · obtain ⟨hc, hnx⟩ := allFrom_good m (l.drop i) s hz l[i] (l.drop (i + 1)) (drop_cons hlt)
    obtain ⟨E, hA, hE⟩ := A.apply hs (by omega) l[i]
    have hst := hs.step (by omega) l[i]
    cases E with
    | some e => rw [hc] at hE; exact absurd hE (cd_ne e)
    | none =>
      rw [hnx] at hz he
      generalize (s.apply l[i]).1 = x at *
      simp only [errE_none] at hA
      clear hE hnx hc
      have F := hlt
      refine wkF ?_
      (refine ⟨?_, x, ?_, Wk.ofA ?_⟩; assumption; rotate_left; focus (simp []; done))
      exact ⟨hst, hz, he⟩
  · rw [drop_nil (by omega)] at he hz
    have e : (m.allFrom m l).1 = s := by rw [← he]; rfl
    rw [e]
    clear hz he e hs
    have F := hlt
    refine wkF ?_
    exact fn1
end
end Go.Am
end
section
set_option maxRecDepth 100000
set_option maxHeartbeats 0
namespace Go.Am
open Go
noncomputable section
theorem iPart_some (m : Image) (hs : srtT m.topics) (hb : ∀ b ∈ m.topics, 1 ≤ b.id ∧ b.id ≤ 1073741824) (hl : m.topics.length ≤ 1000000) {id : Int} (hn : big62 id) {t : Topic} (ht : m.topic id = some t) {k : Nat} (hk : k < t.parts.length) : ACall pg 15 [encM m, I id, I k] (.tup [encP t.parts[k], B true]) := by
  have hT := iTopic_ok m id hs hb hl hn
  rw [ht] at hT
  simp only [Option.getD_some, Option.isSome_some] at hT
  refine s15.call mo (by simp) fun hxs => ?_
  clear hxs
  unfold c15; dsimp only [oA, oB, oC, oD, oF, oG, oJ, oK, oL, oM, oN, oO, oR, oS, oW, oX, oZ]
  have hk3 : (t.parts.length ≤ k) = False := eq_false (by omega)
  have F := And.intro hk hk3
  refine wkF ?_
  all_goals exact fn1
theorem has_cd : ∀ (e : Er) (c : Int), c ≠ 0 → c ≠ -1 → e.has c = (e.cd == c) := by
  intro e
  induction e with
  | code n =>
    intro c h0 h1
    simp only [Er.has, Er.cd]
    split
    · rename_i h
      subst h
      have e1 : ((0 : Int) == c) = false := by simp; omega
      have e2 : ((-1 : Int) == c) = false := by simp; omega
      rw [e1, e2]
    · rfl
  | fault op a e ih => intro c h0 h1; simp only [Er.has, Er.cd]; exact ih c h0 h1
end
end Go.Am
end
section
set_option maxRecDepth 100000
set_option maxHeartbeats 0
namespace Go.Am
open Go
noncomputable section
def c6 : SC := (.seq (.reg [oZ 0 false] []) (.seq (.reg [oD 16 (.build 30 #[]),oC 17 14 #[] #[],oC 18 13 #[.tmp 16,.tmp 17] #[30,22],oM 15 18,oX 19 15 0,oX 20 15 1,oA 1 30,oS 30 1 19,oG 2 20] [1,2,15,18,20]) (.seq (.reg [oL 22 30 1,oC 23 15 #[.tmp 22,.const (.int .i64 1),.const (.int .i64 0)] #[30,3,3],oM 21 23,oX 24 21 0,oX 25 21 1,oA 3 47,oS 47 3 24,oG 4 25] [1,2,3,4,15,18,20,21,23,25]) (.seq (.reg [oL 27 30 1,oD 28 (.buildSlice 35 2 #[(0,.const (.int .i64 1)),(1,.const (.int .i64 2))]),oD 29 (.buildSlice 35 1 #[(0,.const (.int .i64 2))]),oD 30 (.build 37 #[(0,.const (.int .i64 9)),(3,.const (.int .i64 1)),(2,.const (.int .i64 1)),(5,.const (.int .i64 2)),(14,.tmp 28),(15,.tmp 29)]),oC 31 7 #[.tmp 27,.tmp 30] #[30,37],oM 26 31,oX 32 26 0,oX 33 26 1,oA 5 30,oS 30 5 32,oG 6 33] [1,2,3,4,5,6,15,18,20,21,23,25,26,31,33]) (.seq (.reg [oL 35 30 1,oD 36 (.buildSlice 35 2 #[(0,.const (.int .i64 1)),(1,.const (.int .i64 2))]),oD 37 (.buildSlice 35 1 #[(0,.const (.int .i64 2))]),oD 38 (.build 37 #[(0,.const (.int .i64 9)),(3,.const (.int .i64 1)),(5,.const (.int .i64 2)),(14,.tmp 36),(15,.tmp 37)]),oC 39 7 #[.tmp 35,.tmp 38] #[30,37],oM 34 39,oX 40 34 0,oX 41 34 1,oA 7 30,oS 30 7 40,oG 8 41] [1,2,3,4,5,6,8,15,18,20,21,23,25,26,31,33,34,39,41]) (.seq (.reg [oL 43 30 1,oD 44 (.build 37 #[(0,.const (.int .i64 3)),(1,.const (.int .i64 1)),(2,.const (.int .i64 1))]),oC 45 7 #[.tmp 43,.tmp 44] #[30,37],oM 42 45,oX 46 42 0,oX 47 42 1,oA 9 30,oS 30 9 46,oG 10 47] [2,3,4,5,6,8,10,15,18,20,21,23,25,26,31,33,34,39,41,42,45,47]) (.seq (.reg [oL 49 30 5,oD 50 (.build 37 #[(0,.const (.int .i64 3)),(1,.const (.int .i64 1)),(2,.const (.int .i64 1))]),oC 51 7 #[.tmp 49,.tmp 50] #[30,37],oM 48 51,oX 52 48 0,oX 53 48 1,oA 11 30,oS 30 11 52,oG 12 53] [2,3,4,6,8,10,11,12,15,18,20,21,23,25,26,31,33,34,39,41,42,45,47,48,51,53]) (.seq (.reg [oL 55 30 11,oC 56 16 #[.tmp 55,.const (.int .i64 1)] #[30,3],oM 54 56,oX 57 54 0,oX 58 54 1,oA 13 51,oS 51 13 57,oG 14 58] [2,3,4,6,8,10,11,12,13,14,15,18,20,21,23,25,26,31,33,34,39,41,42,45,47,48,51,53,54,56,58]) (.seq (.reg [oM 59 2,oD 60 (.binOp .eql 32 (.tmp 59) (.const .nilIface) 32),oM 61 60,oW 61 true (oM 62 4),oQ 63 61 62 false,oM 64 63,oW 64 true (oF 65 47 3 2),oW 64 true (oL 66 3 65),oW 64 true (oK 67 .eql 3 66 1 3),oQ 68 64 67 false,oM 69 68,oW 69 true (oM 70 6),oW 69 true (oD 71 (.binOp .eql 32 (.tmp 70) (.const .nilIface) 32)),oQ 72 69 71 false,oM 73 72,oW 73 true (oM 74 8),oW 73 true (oC 75 17 #[.tmp 74,.const (.int .i64 11)] #[32,55]),oQ 76 73 75 false,oM 77 76,oW 77 true (oM 78 10),oW 77 true (oC 79 17 #[.tmp 78,.const (.int .i64 10)] #[32,55]),oQ 80 77 79 false,oM 81 80,oW 81 true (oM 82 12),oW 81 true (oD 83 (.binOp .eql 32 (.tmp 82) (.const .nilIface) 32)),oQ 84 81 83 false,oM 85 84,oW 85 true (oM 86 14),oQ 87 85 86 false,oM 88 87,oW 88 true (oF 89 51 13 3),oW 88 true (oL 90 4 89),oQ 91 88 90 false,oM 92 91,oW 92 true (oL 93 30 11),oW 92 true (oC 94 18 #[.tmp 93,.const (.int .i64 1)] #[30,3]),oW 92 true (oD 95 (.unOp .not 4 (.tmp 94))),oQ 96 92 95 false,oM 97 96,oW 97 true (oL 98 30 11),oW 97 true (oC 99 18 #[.tmp 98,.const (.int .i64 2)] #[30,3]),oQ 100 97 99 false,oM 101 100,oW 101 true (oL 102 30 11),oW 101 true (oC 103 19 #[.tmp 102,.const (.int .i64 2)] #[30,3]),oQ 104 101 103 false,oM 105 104,oW 105 true (oL 106 30 11),oW 105 true (oC 107 19 #[.tmp 106,.const (.int .i64 1)] #[30,3]),oW 105 true (oD 108 (.unOp .not 4 (.tmp 107))),oQ 109 105 108 false,oG 0 109] [0,4,13,14,21,23,25,54,56,58,60,61,62,63,64,67,68,69,71,72,73,75,76,77,79,80,81,83,84,85,86,87,88,89,90,91,92,95,96,97,99,100,101,103,104,105,108,109]) .ret)))))))))
theorem s6 : TextK Proofs.Tryz.prog 0 6 110 [ResultVar.tmp 0] c6 := .mk' Proofs.Tryz.f6 _ (by kernel_rfl) rfl rfl rfl (by kernel_rfl) rfl (by kernel_rfl)
theorem isE_ok (e : Er) (d : Int) {ty : TypeId} {v : Value} (he : encE e = .iface ty v) : ACall pg 17 [.c (.iface ty v), I d] (B (e.has d)) := by
  have h : ACall pg 34 [.c (encE e), .c (.iface 55 (.int .i64 d))] (B (e.has d)) := Is_ok e d
  rw [he] at h
  refine s17.call mo (by simp) fun hxs => ?_
  clear hxs
  unfold c17; dsimp only [oC, oD, oG, oM, oZ]
  refine wk ?_
  exact fn0
def w1 : Record := { zR with kind := 9, topic := 1, epoch := 1, leader := 2, ids := [1, 2], isr := [2] }
def w2 : Record := { zR with kind := 9, topic := 1, leader := 2, ids := [1, 2], isr := [2] }
def w3 : Record := { zR with kind := 3, broker := 1, epoch := 1 }
def fn' : Image := (fm.apply w1).1
def fo' : Image := (fn'.apply w3).1
theorem w_all : zM.all firstL = (fm, 0) := by kernel_rfl
theorem w_1 : fm.apply w1 = (fn', 0) := by kernel_rfl
theorem w_2 : fm.apply w2 = (fm, 11) := by kernel_rfl
theorem w_3 : fm.apply w3 = (fm, 10) := by kernel_rfl
theorem w_4 : fn'.apply w3 = (fo', 0) := by kernel_rfl
theorem w_br : fo'.broker 1 = some ⟨1, 1, bs [97], true, false⟩ := by kernel_rfl
theorem w_al1 : fo'.alive 1 = false := by kernel_rfl
theorem w_al2 : fo'.alive 2 = true := by kernel_rfl
theorem w_ld1 : (fo'.any fun p => p.leader == 1) = false := by kernel_rfl
theorem w_ld2 : (fo'.any fun p => p.leader == 2) = true := by kernel_rfl
theorem ImOk.made {m : Image} : ∀ (l : List Record) {m : Image} {n : Nat}, ImOk m n → n + l.length ≤ 1000 → ImOk (madeFrom m l) (n + l.length) := by
  intro l
  induction l with
  | nil => intro m n h _; exact h
  | cons r l ih =>
    intro m n h hn
    have := ih (h.step (by omega) r) (by simp only [List.length_cons] at hn; omega)
    rw [show n + (r :: l).length = n + 1 + l.length by simp; omega]
    exact this
theorem good (A : Asked) {m m' : Image} {n : Nat} (h : ImOk m n) (hn : n ≤ 900) {r : Record} (e : m.apply r = (m', 0)) : ACall pg 7 [encM m, encR r] (.tup [encM m', .c .nilIface]) := by
  obtain ⟨E, hA, hE⟩ := A.apply h (by omega) r
  rw [e] at hA hE
  cases E with
  | none => exact hA
  | some x => exact absurd hE (cd_ne x)
theorem bad (A : Asked) {m m' : Image} {n : Nat} (h : ImOk m n) (hn : n ≤ 900) {r : Record} {c : Int} (e : m.apply r = (m', c)) (h0 : 0 < c) : ∃ ty v, ACall pg 7 [encM m, encR r] (.tup [encM m', .c (.iface ty v)]) ∧ ACall pg 17 [.c (.iface ty v), I c] (B true) := by
  obtain ⟨E, hA, hE⟩ := A.apply h (by omega) r
  rw [e] at hA hE
  cases E with
  | none => exact absurd hE (by simp only [cdE]; omega)
  | some x =>
    obtain ⟨ty, v, he⟩ := encE_if x
    have hi := isE_ok x c he
    rw [has_cd x c (by omega) (by omega)] at hi
    have : (x.cd == c) = true := by simpa [cdE] using hE
    rw [this] at hi
    rw [errE_some, he] at hA
    exact ⟨ty, v, hA, hi⟩
theorem works_ok (A : Asked) : ACall pg 6 [] (B true) := by
  have hz : ImOk zM 0 := ImOk.zero
  have hfm : ImOk fm 6 := ImOk.made (m := zM) firstL hz (by decide)
  have hfn : ImOk fn' 7 := hfm.step (by omega) w1
  have hfo : ImOk fo' 8 := hfn.step (by omega) w3
  have hall := iAll_good A hz firstL (by decide) (by rw [w_all])
  rw [w_all] at hall
  have hf := first_ok
  have ht : fm.topic 1 = some ⟨1, bs [116], [fp]⟩ := by kernel_rfl
  have hpa := iPart_some fm hfm.inv.ti (fun t ht => by have := hfm.inv.tr t ht; have := hfm.inv.la; omega) (by have := hfm.inv.tl; omega) (id := 1) (by unfold big62; omega) ht (k := 0) (by simp)
  have h1 := good A hfm (by omega) w_1
  obtain ⟨t2, v2, h2, i2⟩ := bad A hfm (by omega) w_2 (by omega)
  obtain ⟨t3, v3, h3, i3⟩ := bad A hfm (by omega) w_3 (by omega)
  have h4 := good A hfn (by omega) w_4
  have hb := iBroker_ok fo' 1 hfo.inv.bs (fun b hb => by have := hfo.inv.br b hb; omega) (by have := hfo.inv.bl; omega) (by unfold big62; omega)
  rw [w_br] at hb
  have a1 := iAlive_ok fo' 1 hfo.inv.bs (fun b hb => by have := hfo.inv.br b hb; omega) (by have := hfo.inv.bl; omega) (by unfold big62; omega)
  have a2 := iAlive_ok fo' 2 hfo.inv.bs (fun b hb => by have := hfo.inv.br b hb; omega) (by have := hfo.inv.bl; omega) (by unfold big62; omega)
  rw [w_al1] at a1
  rw [w_al2] at a2
  have l1 := iLeads_ok fo' 1 (by have := hfo.inv.tl; omega) (fun t ht => by have := hfo.inv.pl t ht; omega)
  have l2 := iLeads_ok fo' 2 (by have := hfo.inv.tl; omega) (fun t ht => by have := hfo.inv.pl t ht; omega)
  rw [w_ld1] at l1
  rw [w_ld2] at l2
  clear hz hfm hfn hfo ht
  simp only [w1, w2, w3, zR, fp, encR_eq, zM, List.getElem_cons_zero, Option.getD_some, Option.isSome_some] at hall hpa h1 h2 h3 h4 hb
  generalize fm = m1 at *
  generalize fn' = m2 at *
  generalize fo' = m3 at *
  refine s6.call mo (by simp) fun hxs => ?_
  clear hxs
  unfold c6; dsimp only [oA, oC, oD, oF, oG, oK, oL, oM, oQ, oS, oW, oX, oZ]
  have F := trivial
  refine wkF ?_
  exact fn0
end
end Go.Am
end
