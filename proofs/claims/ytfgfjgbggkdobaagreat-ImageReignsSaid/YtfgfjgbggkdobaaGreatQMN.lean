/- Part of the proof of a law of the image. -/
import Derived.Test.YtfgfjgbggkdobaaGreatQE0
import Derived.Test.YtfgfjgbggkdobaaGreatQEC
import Derived.Test.YtfgfjgbggkdobaaGreatQMM
import Derived.Test.YtfgfjgbggkdobaaGreatQPK
import Derived.Test.YtfgfjgbggkdobaaGreatQW0
set_option linter.all false
section
set_option maxRecDepth 100000
set_option maxHeartbeats 0
namespace Go.Am
open Go
noncomputable section
def c21 : SC := (.seq (.reg [oD 6 (.assign (.const .nilIface))] [0,1,2,13]) (.seq (.reg [oM 7 2,oD 8 (.binOp .eql 32 (.tmp 7) (.const .nilIface) 32)] [0,1,2,8,13]) (.seq (.cond (.tmp 8) (.seq (.reg [oD 6 (.assign (.const .nilIface))] [6,13]) .ret) .skip) (.seq (.reg [oM 9 0,oM 10 1,oM 11 2,oD 12 (.build 92 #[(0,.tmp 9),(1,.tmp 10),(2,.tmp 11)]),oD 13 (.makeInterface 92 (.tmp 12)),oG 6 13] [6,13]) .ret))))
theorem s21 : TextK Proofs.Tryz.prog 0 21 14 [ResultVar.tmp 6] c21 := .mk' Proofs.Tryz.f21 _ (by kernel_rfl) rfl rfl rfl (by kernel_rfl) rfl (by kernel_rfl)
def errE : Option Er → V
  | none => .c .nilIface
  | some e => .c (encE e)
@[simp] theorem errE_none : errE none = .c .nilIface := rfl
@[simp] theorem errE_some (e : Er) : errE (some e) = .c (encE e) := rfl
def erO : Option Bad → Option Er := Option.map fun b => .fault b.1 b.2.1 (.code b.2.2)
theorem errO_E (x : Option Bad) : errO x = errE (erO x) := by cases x <;> rfl
theorem encE_if (e : Er) : ∃ t v, encE e = .iface t v := by cases e <;> exact ⟨_, _, rfl⟩
theorem wrap_ok (op : ByteArray) (a : Int) (x : Option Er) : ACall pg 21 [St op, I a, errE x] (errE (x.map (.fault op a))) := by
  refine s21.call mo (by simp) fun hxs => ?_
  clear hxs
  unfold c21; dsimp only [oD, oG, oM]
  cases x with
  | none =>
    have F := trivial
    refine wkF ?_
    exact fn0
  | some e =>
    cases e with
    | code n =>
      simp only [Option.map_some, errE_some, encE]
      have F := trivial
      refine wkF ?_
      (refine aEnR (aRes [] fun K hK => ?_); simp (maxSteps := 10000000) (disch := first | omega | simp) [encE]; refine hK _ ?_ (by simp); clear hK; first | done | (simp (maxSteps := 10000000) (disch := first | omega | simp) [encE, *]; done) | (simp (maxSteps := 10000000) (disch := first | omega | simp) [encE, *]; omega) | (simp_all [encE]; done) | (simp_all [encE]; omega))
    | fault op2 a2 e2 =>
      obtain ⟨t, v, he⟩ := encE_if e2
      simp only [Option.map_some, errE_some, encE, he]
      have F := trivial
      refine wkF ?_
      (refine aEnR (aRes [] fun K hK => ?_); simp (maxSteps := 10000000) (disch := first | omega | simp) [encE]; refine hK _ ?_ (by simp); clear hK; first | done | (simp (maxSteps := 10000000) (disch := first | omega | simp) [encE, *]; done) | (simp (maxSteps := 10000000) (disch := first | omega | simp) [encE, *]; omega) | (simp_all [encE]; done) | (simp_all [encE]; omega))
theorem iAnswered_ok (m : Image) (c s : Int) (hl : m.done.length ≤ 1000000) : ACall pg 69 [encM m, I c, I s] (.tup [I (((m.answered c s).map Done.code).getD 0), B (m.answered c s).isSome]) := by
  refine s69.call mo (by simp) fun hxs => ?_
  clear hxs
  unfold c69; dsimp only [oA, oB, oD, oF, oG, oI, oJ, oK, oL, oM, oN, oO, oQ, oS, oW, oZ]
  refine wk ?_
  refine awFor m.done.length (fun i (_ : Unit) => ∀ d ∈ m.done.take i, (d.client == c && d.serial == s) = false) (fun i _ => [(13, .p (I i)), (12, .p (I m.done.length)), (11, .p (.sl (m.done.map encD))), (2, .p (I s)), (1, .p (I c))]) () (Wk.ofA (by simp)) (by simp) fun i _ hi hni => ?_
  by_cases hlt : i < m.done.length
  · by_cases h1 : m.done[i].client = c
    · by_cases h2 : m.done[i].serial = s
      · have e : m.answered c s = some m.done[i] := find_at hlt hni (by simp [h1, h2])
        have q1 : (m.done[i].client == c) = true := by simpa using h1
        have q2 : (m.done[i].serial == s) = true := by simpa using h2
        have F := And.intro hlt (And.intro q1 q2)
        refine wkF ?_
        (refine aEnR (aRes [] fun K hK => ?_); simp (maxSteps := 10000000) (disch := first | omega | simp) [e]; refine hK _ ?_ (by simp); clear hK; first | done | (simp (maxSteps := 10000000) (disch := first | omega | simp) [e, *]; done) | (simp (maxSteps := 10000000) (disch := first | omega | simp) [e, *]; omega) | (simp_all [e]; done) | (simp_all [e]; omega))
      · have q1 : (m.done[i].client == c) = true := by simpa using h1
        have q2 : (m.done[i].serial == s) = false := by simpa using h2
        have F := And.intro hlt (And.intro q1 q2)
        refine wkF ?_
        (refine ⟨?_, (), ?_, Wk.ofA ?_⟩; assumption; rotate_left; focus (simp []; done))
        exact all_take hlt hni (by simp [h2])
    · have q1 : (m.done[i].client == c) = false := by simpa using h1
      have F := And.intro hlt q1
      refine wkF ?_
      (refine ⟨?_, (), ?_, Wk.ofA ?_⟩; assumption; rotate_left; focus (simp []; done))
      exact all_take hlt hni (by simp [h1])
  · have e : m.answered c s = none := find_no (by omega) hni
    have F := hlt
    refine wkF ?_
    (refine aEnR (aRes [] fun K hK => ?_); simp (maxSteps := 10000000) (disch := first | omega | simp) [e]; refine hK _ ?_ (by simp); clear hK; first | done | (simp (maxSteps := 10000000) (disch := first | omega | simp) [e, *]; done) | (simp (maxSteps := 10000000) (disch := first | omega | simp) [e, *]; omega) | (simp_all [e]; done) | (simp_all [e]; omega))
def inL (l of : List Int) : Bool := !(l.any fun n => !of.contains n)
def noL (l of : List Int) : Bool := !(l.any fun n => of.contains n)
def rightP (m : Image) (p : Part) : Option Bad :=
  if p.ids.length = 0 ∨ p.ids.any (fun n => !(m.broker n).isSome) = true then some (bs [105, 100, 115], (p.ids.length : Int), 18)
  else if p.isr.length = 0 ∨ inL p.isr p.ids = false then some (bs [105, 115, 114], (p.isr.length : Int), 18)
  else if p.leader ≠ 0 ∧ (p.isr.contains p.leader = false ∨ m.alive p.leader = false) then some (bs [108, 101, 97, 100, 101, 114], p.leader, 17)
  else if inL p.add p.ids = false ∨ inL p.drop p.ids = false ∨ noL p.add p.drop = false then some (bs [109, 111, 118, 101, 115], (p.add.length : Int), 18)
  else none
end
end Go.Am
end
section
set_option maxRecDepth 100000
set_option maxHeartbeats 0
namespace Go.Am
open Go
noncomputable section
def c60 : SC := (.seq (.reg [oO 2 30 0,oO 3 47 1,oD 4 (.assign (.const .nilIface))] [2,3,21,38,60,87]) (.seq (.reg [oD 6 (.makeFunc (Fn.func 87) #[] #[.tmp 2]),oA 5 86,oS 86 5 6] [2,3,5,6,21,38,60,87]) (.seq (.block 0 (.seq (.reg [oF 8 47 3 0,oL 9 35 8,oN 10 9 35,oK 11 .eql 3 10 0 3,oM 12 11,oW 12 false (oF 13 47 3 0),oW 12 false (oL 14 35 13),oW 12 false (oD 15 (.makeFunc (Fn.func 89) #[] #[.tmp 5])),oW 12 false (oC 16 88 #[.tmp 14,.tmp 15] #[35,86]),oR 17 12 true 16,oG 7 17] [2,3,7,11,12,16,17,21,38,60,87]) (.seq (.cond (.tmp 7) (.seq (.reg [oF 18 47 3 0,oL 19 35 18,oN 20 19 35,oD 21 (.call { callee := .value (.func 39),args := #[.const (.string ⟨#[105,100,115]⟩),.tmp 20,.const (.int .i64 18)],argTypes := #[9,3,55] }),oG 4 21] [4,21,38,60,87]) .ret) (.seq (.reg [oF 23 47 3 1,oL 24 35 23,oN 25 24 35,oK 26 .eql 3 25 0 3,oM 27 26,oW 27 false (oF 28 47 3 1),oW 27 false (oL 29 35 28),oW 27 false (oF 30 47 3 0),oW 27 false (oL 31 35 30),oW 27 false (oC 32 90 #[.tmp 29,.tmp 31] #[35,35]),oW 27 false (oD 33 (.unOp .not 4 (.tmp 32))),oR 34 27 true 33,oG 22 34] [2,3,21,22,26,27,33,34,38,60,87]) (.seq (.cond (.tmp 22) (.seq (.reg [oF 35 47 3 1,oL 36 35 35,oN 37 36 35,oD 38 (.call { callee := .value (.func 39),args := #[.const (.string ⟨#[105,115,114]⟩),.tmp 37,.const (.int .i64 18)],argTypes := #[9,3,55] }),oG 4 38] [4,21,38,60,87]) .ret) (.seq (.reg [oF 40 47 3 2,oL 41 3 40,oK 42 .neq 3 41 0 3,oM 43 42,oW 43 true (oF 44 47 3 1),oW 43 true (oL 45 35 44),oW 43 true (oF 46 47 3 2),oW 43 true (oL 47 3 46),oW 43 true (oC 48 56 #[.tmp 45,.tmp 47] #[35,3]),oW 43 true (oD 49 (.unOp .not 4 (.tmp 48))),oW 43 true (oM 50 49),oW 50 false (oL 51 30 2),oW 50 false (oF 52 47 3 2),oW 50 false (oL 53 3 52),oW 50 false (oC 54 18 #[.tmp 51,.tmp 53] #[30,3]),oW 50 false (oD 55 (.unOp .not 4 (.tmp 54))),oW 43 true (oR 56 50 true 55),oQ 57 43 56 false,oG 39 57] [3,21,38,39,42,43,49,50,55,56,57,60,87]) (.seq (.cond (.tmp 39) (.seq (.reg [oF 58 47 3 2,oL 59 3 58,oD 60 (.call { callee := .value (.func 39),args := #[.const (.string ⟨#[108,101,97,100,101,114]⟩),.tmp 59,.const (.int .i64 17)],argTypes := #[9,3,55] }),oG 4 60] [4,21,38,60,87]) .ret) (.seq (.reg [oF 62 47 3 4,oL 63 35 62,oF 64 47 3 0,oL 65 35 64,oC 66 90 #[.tmp 63,.tmp 65] #[35,35],oD 67 (.unOp .not 4 (.tmp 66)),oM 68 67,oW 68 false (oF 69 47 3 5),oW 68 false (oL 70 35 69),oW 68 false (oF 71 47 3 0),oW 68 false (oL 72 35 71),oW 68 false (oC 73 90 #[.tmp 70,.tmp 72] #[35,35]),oW 68 false (oD 74 (.unOp .not 4 (.tmp 73))),oR 75 68 true 74,oM 76 75,oW 76 false (oF 77 47 3 4),oW 76 false (oL 78 35 77),oW 76 false (oF 79 47 3 5),oW 76 false (oL 80 35 79),oW 76 false (oC 81 91 #[.tmp 78,.tmp 80] #[35,35]),oW 76 false (oD 82 (.unOp .not 4 (.tmp 81))),oR 83 76 true 82,oG 61 83] [3,21,38,60,61,67,68,74,75,76,82,83,87]) (.seq (.cond (.tmp 61) (.seq (.reg [oF 84 47 3 4,oL 85 35 84,oN 86 85 35,oD 87 (.call { callee := .value (.func 39),args := #[.const (.string ⟨#[109,111,118,101,115]⟩),.tmp 86,.const (.int .i64 18)],argTypes := #[9,3,55] }),oG 4 87] [4,21,38,60,87]) .ret) .skip) .skip))) .skip))) .skip))) .skip))) (.seq (.reg [oD 4 (.assign (.const .nilIface))] [4,21,38,60,87]) .ret))))
theorem s60 : TextK Proofs.Tryz.prog 0 60 88 [ResultVar.tmp 4] c60 := .mk' Proofs.Tryz.f60 _ (by kernel_rfl) rfl rfl rfl (by kernel_rfl) rfl (by kernel_rfl)
structure Part.Big (p : Part) : Prop where
  ids : ∀ n ∈ p.ids, big62 n
  leader : big62 p.leader
  l1 : p.ids.length ≤ 1000000
  l2 : p.isr.length ≤ 1000000
  l3 : p.add.length ≤ 1000000
  l4 : p.drop.length ≤ 1000000
theorem iright_ok (m : Image) (p : Part) (hs : srtB m.brokers) (hb : ∀ b ∈ m.brokers, 1 ≤ b.id ∧ b.id ≤ 64) (hl : m.brokers.length ≤ 1000000) (hp : p.Big) : ACall pg 60 [encM m, encP p] (errO (rightP m p)) := by
  refine s60.call mo (by simp) fun hxs => ?_
  clear hxs
  unfold c60; dsimp only [oA, oC, oD, oF, oG, oK, oL, oM, oN, oO, oQ, oR, oS, oW]
  have h1 := containsFuncI_ok p.ids 89 [.ip [thereV m] 0] (by simp [pureL, pureB]) (fun n => !(m.broker n).isSome) (fun n hn => nothere_ok m n hs hb hl (hp.ids n hn)) hp.l1
  have h2 := within_ok p.isr p.ids hp.l2 hp.l1
  have h3 := contains_ok p.isr p.leader hp.l2
  have h4 := iAlive_ok m p.leader hs hb hl hp.leader
  have h5 := within_ok p.add p.ids hp.l3 hp.l1
  have h6 := within_ok p.drop p.ids hp.l4 hp.l1
  have h7 := apart_ok p.add p.drop hp.l3 hp.l4
  have x1 := new_ok (bs [105, 100, 115]) p.ids.length 18
  have x2 := new_ok (bs [105, 115, 114]) p.isr.length 18
  have x3 := new_ok (bs [108, 101, 97, 100, 101, 114]) p.leader 17
  have x4 := new_ok (bs [109, 111, 118, 101, 115]) p.add.length 18
  generalize g1 : (p.ids.any fun n => !(m.broker n).isSome) = b1 at h1
  generalize g2 : (p.isr.any fun n => !p.ids.contains n) = b2 at h2
  generalize g3 : p.isr.contains p.leader = b3 at h3
  generalize g4 : m.alive p.leader = b4 at h4
  generalize g5 : (p.add.any fun n => !p.ids.contains n) = b5 at h5
  generalize g7 : (p.add.any fun n => p.drop.contains n) = b7 at h7
  generalize g6 : (p.drop.any fun n => !p.ids.contains n) = b6 at h6
  clear hs hb hl hp
  iterate 1 (
      (repeat with_reducible first | refine thN ?_ | refine inN ?_ | refine fF ?_ | refine fQ ?_ | refine fR ?_ | refine fC ?_ | refine awBlock ?_)
      ((with_reducible refine awReg fun K hok hK => ?_); clear hok; (try simp (maxSteps := 10000000) (disch := first | omega | simp) []); (repeat' first | (with_reducible refine hK _ (by simp) ?_) | ((with_reducible refine gdT (fun h => ?_) (fun h => ?_)) <;> (simp (maxSteps := 10000000) (disch := first | omega | simp) [h]; (try simp at h); (try (exfalso; omega)))) | ((with_reducible refine gdF (fun h => ?_) (fun h => ?_)) <;> (simp (maxSteps := 10000000) (disch := first | omega | simp) [h]; (try simp at h); (try (exfalso; omega))))) <;> clear hK K))
  refine awWk (ofA [(3, .p (.own (encP p).cells)), (2, .p (.ip (encM m).cells 0))]) ((Wk.frzB (r := 2) rfl).trans (Wk.ofA (by simp))) ?_
  repeat' first | (with_reducible first | refine thN ?_ | refine thR ?_ | refine inN ?_ | refine inR ?_ | refine fF ?_ | refine fS ?_ | refine fR ?_ | refine fQ ?_ | refine fC ?_ | refine fT ?_ | refine awBlock ?_ | refine awRet ?_ | refine awSkip ?_) | ((with_reducible refine awReg fun K hok hK => ?_); clear hok; (try simp (maxSteps := 10000000) (disch := first | omega | simp) []); (repeat' first | (with_reducible refine hK _ (by simp) ?_) | ((with_reducible refine gdT (fun h => ?_) (fun h => ?_)) <;> (simp (maxSteps := 10000000) (disch := first | omega | simp) [h]; (try simp at h); (try (exfalso; omega)))) | ((with_reducible refine gdF (fun h => ?_) (fun h => ?_)) <;> (simp (maxSteps := 10000000) (disch := first | omega | simp) [h]; (try simp at h); (try (exfalso; omega)))) | ((with_reducible refine callS' fun K2 hK2 => ?_); (try simp (maxSteps := 10000000) (disch := first | omega | simp) []); (first | refine hK2 _ _ h1 rfl fun hk9 => ?_ | refine hK2 _ _ h2 rfl fun hk9 => ?_ | refine hK2 _ _ h3 rfl fun hk9 => ?_ | refine hK2 _ _ h4 rfl fun hk9 => ?_ | refine hK2 _ _ h5 rfl fun hk9 => ?_ | refine hK2 _ _ h6 rfl fun hk9 => ?_ | refine hK2 _ _ h7 rfl fun hk9 => ?_ | refine hK2 _ _ x1 rfl fun hk9 => ?_ | refine hK2 _ _ x2 rfl fun hk9 => ?_ | refine hK2 _ _ x3 rfl fun hk9 => ?_ | refine hK2 _ _ x4 rfl fun hk9 => ?_); clear hk9; clear hK2 K2; (try simp (maxSteps := 10000000) (disch := first | omega | simp) []))) <;> clear hK K) | ((with_reducible refine awCond fun A B hA hB => ?_); simp (maxSteps := 10000000) (disch := first | omega | simp) []; (first | refine ⟨fun h => hA ?_, fun h => hB ?_⟩ | refine hA ?_ | refine hB ?_) <;> (clear hA hB A B; (try (exfalso; omega))))
  all_goals (refine aEnR (aRes [] fun K hK => ?_); simp (maxSteps := 10000000) (disch := first | omega | simp) []; refine hK _ ?_ (by simp); clear hK; clear h1 h2 h3 h4 h5 h6 h7 x1 x2 x3 x4; simp only [rightP, inL, noL, g1, g2, g3, g4, g5, g6, g7]; first | (simp [*]; done) | (simp [*]; omega) | grind)
end
end Go.Am
end
section
namespace Go.Am
open Go
noncomputable section
def cellsO (m : Image) : List V := [.uq (m.brokers.map encB), .uq (m.topics.map encTO), .uq (m.configs.map encC), .uq (m.done.map encD), I m.last]
@[simp] theorem cellsO_eq (m : Image) : cellsO m = [.uq (m.brokers.map encB), .uq (m.topics.map encTO), .uq (m.configs.map encC), .uq (m.done.map encD), I m.last] := rfl
@[simp] theorem look_ag (Γ : Env) (r : Nat) (q) (i j n : Nat) : look Γ (.ag r q i j n) = match (at_ Γ r q).row i with | some cs => if j + n ≤ cs.length then .agg (pvL ((cs.drop j).take n)) else .any | none => .any := rfl
@[simp] theorem row_own0 (l : List V) : (V.own l).row 0 = some l := rfl
@[simp] theorem row_uq' (l : List V) (i : Nat) : (V.uq l).row i = (l[i]?).map V.cells := rfl
@[simp] theorem pvL_PO' (l : List Part) : pvL (l.map encPO) = l.map encP := by rw [pvL_eq, List.map_map]; exact List.map_congr_left fun p _ => by simp
@[simp] theorem pvL_TO' (l : List Topic) : pvL (l.map encTO) = l.map encT := by rw [pvL_eq, List.map_map]; exact List.map_congr_left fun t _ => by simp
def cellsM (m : Image) : List V := [.sl (m.brokers.map encB), .sl (m.topics.map encT), .sl (m.configs.map encC), .sl (m.done.map encD), I m.last]
@[simp] theorem cellsM_eq (m : Image) : cellsM m = [.sl (m.brokers.map encB), .sl (m.topics.map encT), .sl (m.configs.map encC), .sl (m.done.map encD), I m.last] := rfl
theorem pv_cells (m : Image) : pvL (cellsO m) = cellsM m := by simp
def cdO : Option Bad → Int
  | none => 0
  | some b => if b.2.2 = 0 then -1 else b.2.2
abbrev Turns (P : Program) (f : FuncId) (m : Image) (r : Record) (y : Image × Int) : Prop :=
  ∃ E cs, ACallM P f [.own (cellsO m)] [encR r] (errO E) [.own cs] ∧ pvL cs = cellsM y.1 ∧ cdO E = y.2
theorem ACall.weaker {P : Program} {f : FuncId} {xs : List V} {r r' : V} (h : ACall P f xs r) (hw : ∀ S w v fp, R S w [r] [v] fp → R S w [r'] [v] []) : ACall P f xs r' := by
  refine ⟨h.1, fun S w vs hR hS hg => (h.2 S w vs hR hS hg).mono ?_⟩
  rintro e w' ⟨v, S', fp, rfl, g1, g2, g3, g4, g5, g6, g7, g8⟩
  exact ⟨v, S', [], rfl, hw _ _ _ _ g1, List.nodup_nil, by simp, by simp, g5, g6, g7, g8⟩
theorem weakT (t : Topic) (b : Bool) (S : Nat → Nat → Prop) (w : World) (v : Value) (fp : List Nat) (h : R S w [.tup [encT t, B b]] [v] fp) : R S w [.tup [.agg [I t.id, St t.name, .any], B b]] [v] [] := by
  rw [encT_eq] at h
  generalize t.parts.map encP = ps at h
  cases h with
  | tup h1 h2 =>
  cases h2
  cases h1 with
  | agg h3 h4 h5 =>
  cases h5 with
  | c h6 =>
  cases h6
  cases h3 with
  | c h7 =>
  cases h7 with
  | c h8 =>
  cases h8 with
  | sl0 h9 => cases h9; simpa using R.tup (S := S) (w := w) (R.agg (R.c (R.c (R.any R.nil))) h4 (R.c R.nil)) R.nil
  | sl b o cap es k1 k2 k3 k4 k5 k6 k7 k8 h9 => cases h9; simpa using R.tup (S := S) (w := w) (R.agg (R.c (R.c (R.any R.nil))) h4 (R.c R.nil)) R.nil
theorem iNamedW_ok (m : Image) (s : ByteArray) (hl : m.topics.length ≤ 1000000) : ACall pg 62 [encM m, St s] (.tup [.agg [I ((m.named s).getD zT).id, St ((m.named s).getD zT).name, .any], B (m.named s).isSome]) :=
  (iNamed_ok m s hl).weaker (weakT _ _)
abbrev tpc : ByteArray := bs [116, 111, 112, 105, 99]
abbrev brk : ByteArray := bs [98, 114, 111, 107, 101, 114]
end
end Go.Am
end
section
set_option maxRecDepth 100000
set_option maxHeartbeats 0
namespace Go.Am
open Go
noncomputable section
def Er.cd : Er → Int
  | .code n => if n = 0 then -1 else n
  | .fault _ _ e => e.cd
def cdE : Option Er → Int
  | none => 0
  | some e => e.cd
abbrev TurnsE (P : Program) (f : FuncId) (m : Image) (r : Record) (y : Image × Int) : Prop :=
  ∃ (E : Option Er) (cs : List V), ACallM P f [.own (cellsO m)] [encR r] (errE E) [.own cs] ∧ pvL cs = cellsM y.1 ∧ cdE E = y.2
theorem cdE_erO (x : Option Bad) : cdE (erO x) = cdO x := by cases x <;> rfl
theorem turns_E {P : Program} {f : FuncId} {m : Image} {r : Record} {y : Image × Int} (h : Turns P f m r y) : TurnsE P f m r y := by
  obtain ⟨E, cs, h1, h2, h3⟩ := h
  exact ⟨erO E, cs, by rw [← errO_E]; exact h1, h2, by rw [cdE_erO]; exact h3⟩
theorem ACall.froz {P : Program} {f : FuncId} {xs : List V} {r : V} (h : ACall P f xs r) : ACall P f xs (pv r) := by
  refine ⟨h.1, fun S w vs hR hS hg => (h.2 S w vs hR hS hg).mono ?_⟩
  rintro e w' ⟨v, S', fp, rfl, g1, g2, g3, g4, g5, g6, g7, g8⟩
  refine ⟨v, fun b o => S' b o ∨ b ∈ fp, [], rfl, g1.view1, List.nodup_nil, by simp, by simp, fun b o h => .inl (g5 b o h), ?_, ?_, g8⟩
  · rintro b o (h | h)
    · exact g6 b o h
    · exact .inr (g3 b h).1
  · rintro b o (h | h)
    · exact g7 b o h
    · exact (g3 b h).2
theorem aloneP_ok (p : Part) (h : p.Small) : ACall pg 52 [encP p] (encP p) := by
  have := (alone_ok p h).froz
  simpa using this
theorem right_code (m : Image) (p : Part) : cdO (rightP m p) = m.right p := by
  unfold rightP Image.right inL noL
  have e1 : (p.ids.any fun n => !(m.broker n).isSome) = p.ids.any (fun n => (m.broker n).isNone) := by congr 1; funext n; cases m.broker n <;> rfl
  have e2 : (p.add.any fun n => !p.ids.contains n || p.drop.contains n) = ((p.add.any fun n => !p.ids.contains n) || p.add.any fun n => p.drop.contains n) := by
    induction p.add with
    | nil => rfl
    | cons x l ih => simp only [List.any_cons, ih]; cases p.ids.contains x <;> cases p.drop.contains x <;> simp
  rw [e1, e2]
  generalize (p.ids.any fun n => (m.broker n).isNone) = b1
  generalize (p.isr.any fun n => !p.ids.contains n) = b2
  generalize (p.add.any fun n => !p.ids.contains n) = b3
  generalize (p.drop.any fun n => !p.ids.contains n) = b4
  generalize (p.add.any fun n => p.drop.contains n) = b5
  generalize p.isr.contains p.leader = b6
  generalize m.alive p.leader = b7
  by_cases h1 : p.ids.length = 0
  · simp [h1, cdO]
  by_cases h2 : p.isr.length = 0
  · cases b1 <;> simp [h1, h2, cdO]
  by_cases h3 : p.leader = 0
  · cases b1 <;> cases b2 <;> cases b3 <;> cases b4 <;> cases b5 <;> simp [h1, h2, h3, cdO]
  · cases b1 <;> cases b2 <;> cases b3 <;> cases b4 <;> cases b5 <;> cases b6 <;> cases b7 <;> simp [h1, h2, h3, cdO]
end
end Go.Am
end
section
set_option maxRecDepth 100000
set_option maxHeartbeats 0
namespace Go.Am
open Go
noncomputable section
def c25 : SC := (.seq (.reg [oO 3 37 1,oD 4 (.assign (.const .nilIface))] [0,3,32,37,47,80]) (.seq (.reg [oF 9 37 3 0,oL 10 3 9,oK 11 .eql 3 10 7 3] [0,3,11,32,37,47,80]) (.seq (.cond (.tmp 11) (.seq (.reg [oU (oM 13 0) [16,17,5],oU (oD 14 (.nilCheck (.tmp 13))) [16,17,5],oU (oL 15 30 14) [16,17,5],oU (oF 16 37 3 10) [13,14,15,5],oU (oL 17 9 16) [13,14,15,5],oU (oC 18 62 #[.tmp 15,.tmp 17] #[30,9]) [5],oU (oM 12 18) [5],oU (oX 19 12 0) [20,5],oU (oX 20 12 1) [19,5,5],oU (oA 5 65) [13,14,15,16,17,18,12,19,20],oU (oS 65 5 19) [20],oG 6 20] [0,3,6,12,18,20,32,37,47,80]) (.seq (.block 0 (.seq (.reg [oU (oF 22 37 3 3) [24,25,26,27,28],oU (oL 23 3 22) [24,25,26,27,28],oU (oM 24 0) [22,23],oU (oD 25 (.nilCheck (.tmp 24))) [22,23],oU (oF 26 30 25 4) [22,23],oU (oL 27 3 26) [22,23],oU (oK 28 .add 3 27 1 3) [22,23],oB 29 .neq 3 23 28 3,oG 21 29] [0,3,6,12,18,20,21,29,32,37,47,80]) (.seq (.cond (.tmp 21) (.seq (.reg [oF 30 37 3 3,oL 31 3 30,oD 32 (.call { callee := .value (.func 39),args := #[.const (.string ⟨#[116,111,112,105,99]⟩),.tmp 31,.const (.int .i64 10)],argTypes := #[9,3,55] }),oG 4 32] [0,4,32,37,47,80]) .ret) (.seq (.reg [oM 34 6,oG 33 34] [0,3,6,12,18,20,32,33,34,37,47,80]) (.seq (.cond (.tmp 33) (.seq (.reg [oF 35 37 3 3,oL 36 3 35,oD 37 (.call { callee := .value (.func 39),args := #[.const (.string ⟨#[116,111,112,105,99]⟩),.tmp 36,.const (.int .i64 9)],argTypes := #[9,3,55] }),oG 4 37] [0,4,32,37,47,80]) .ret) (.seq (.reg [oM 39 0,oD 40 (.nilCheck (.tmp 39)),oF 41 30 40 1,oL 42 26 41,oN 43 42 26,oK 44 .geq 3 43 256 3,oG 38 44] [0,3,32,37,38,44,47,80]) (.seq (.cond (.tmp 38) (.seq (.reg [oF 45 37 3 3,oL 46 3 45,oD 47 (.call { callee := .value (.func 39),args := #[.const (.string ⟨#[116,111,112,105,99]⟩),.tmp 46,.const (.int .i64 6)],argTypes := #[9,3,55] }),oG 4 47] [0,4,32,37,47,80]) .ret) .skip) .skip))) .skip))) .skip))) (.seq (.reg [oM 48 0,oM 49 0,oU (oD 50 (.nilCheck (.tmp 49))) [53,54,55,56,57,58],oU (oF 51 30 50 1) [53,54,55,56,57,58],oU (oL 52 26 51) [53,54,55,56,57,58],oU (oF 53 37 3 3) [50,51,52,55,56],oU (oL 54 3 53) [50,51,52,55,56],oU (oF 55 37 3 10) [50,51,52,53,54],oU (oL 56 9 55) [50,51,52,53,54],oU (oD 57 (.build 65 #[(0,.tmp 54),(1,.tmp 56)])) [50,51,52],oU (oD 58 (.buildSlice 26 1 #[(0,.tmp 57)])) [50,51,52],oP 59 #[.tmp 52,.tmp 58] #[26,26],oD 60 (.nilCheck (.tmp 48)),oF 61 30 60 1,oS 26 61 59] [0,3,32,37,47,80]) (.seq (.reg [oM 62 0,oF 63 37 3 3,oL 64 3 63,oD 65 (.nilCheck (.tmp 62)),oF 66 30 65 4,oS 3 66 64] [0,32,37,47,80]) (.seq (.reg [oD 4 (.assign (.const .nilIface))] [0,4,32,37,47,80]) .ret))))) .skip) (.seq (.reg [oU (oM 68 0) [71,72],oU (oD 69 (.nilCheck (.tmp 68))) [71,72],oU (oL 70 30 69) [71,72],oU (oF 71 37 3 3) [68,69,70],oU (oL 72 3 71) [68,69,70],oC 73 59 #[.tmp 70,.tmp 72] #[30,3],oM 67 73,oU (oX 74 67 0) [75],oU (oX 75 67 1) [74,7],oU (oG 7 74) [75],oG 8 75] [0,3,7,8,32,37,47,67,73,74,75,80]) (.seq (.reg [oM 76 8,oD 77 (.unOp .not 4 (.tmp 76))] [0,3,7,32,37,47,67,73,74,77,80]) (.seq (.cond (.tmp 77) (.seq (.reg [oF 78 37 3 3,oL 79 3 78,oD 80 (.call { callee := .value (.func 39),args := #[.const (.string ⟨#[116,111,112,105,99]⟩),.tmp 79,.const (.int .i64 8)],argTypes := #[9,3,55] }),oG 4 80] [0,4,32,37,47,80]) .ret) .skip) (.seq (.reg [oM 81 0,oM 82 0,oD 83 (.nilCheck (.tmp 82)),oF 84 30 83 1,oL 85 26 84,oM 86 7,oM 87 7,oK 88 .add 3 87 1 3,oC 89 63 #[.tmp 85,.tmp 86,.tmp 88] #[26,3,3],oD 90 (.nilCheck (.tmp 81)),oF 91 30 90 1,oS 26 91 89] [0,3,32,37,47,80]) (.seq (.reg [oM 92 0,oM 93 0,oD 94 (.nilCheck (.tmp 93)),oF 95 30 94 2,oL 96 27 95,oD 97 (.makeFunc (Fn.func 65) #[] #[.tmp 3]),oC 98 64 #[.tmp 96,.tmp 97] #[27,111],oD 99 (.nilCheck (.tmp 92)),oF 100 30 99 2,oS 27 100 98] [0,32,37,47,80]) (.seq (.reg [oD 4 (.assign (.const .nilIface))] [0,4,32,37,47,80]) .ret)))))))))
theorem s25 : TextK Proofs.Tryz.prog 1 25 101 [ResultVar.tmp 4] c25 := .mk' Proofs.Tryz.f25 _ (by kernel_rfl) rfl rfl rfl (by kernel_rfl) rfl (by kernel_rfl)
theorem topics_new (m : Image) (r : Record) (h7 : r.kind = 7) (hl : m.topics.length ≤ 1000) (hla : 0 ≤ m.last ∧ m.last ≤ 1000000) :
    Turns pg 25 m r (m.addTopic r) := by
  have hn := iNamedW_ok m r.name (by omega)
  have hw : IntKind.i64.wrap (m.last + 1) = m.last + 1 := by rw [i64_wrap]; omega
  have q1 : (r.kind == 7) = true := by simp [h7]
  unfold Image.addTopic
  rw [hw]
  by_cases h1 : r.topic ≠ m.last + 1
  · rw [if_pos h1]
    refine ⟨some (tpc, r.topic, 10), cellsO m, ?_, pv_cells m, rfl⟩
    refine s25.callM (os := [.own (cellsO m)]) mo (by simp) fun ho hx => ?_
    clear ho hx
    unfold c25; dsimp only [oA, oB, oC, oD, oF, oG, oK, oL, oM, oN, oO, oP, oS, oU, oX]
    have G := @new_ok
    have F := And.intro q1 (And.intro h1 (And.intro hw h7))
    refine wkF ?_
    exact fn1
  rw [if_neg h1]
  by_cases h2 : (m.named r.name).isSome = true
  · rw [if_pos h2]
    refine ⟨some (tpc, r.topic, 9), cellsO m, ?_, pv_cells m, rfl⟩
    refine s25.callM (os := [.own (cellsO m)]) mo (by simp) fun ho hx => ?_
    clear ho hx
    unfold c25; dsimp only [oA, oB, oC, oD, oF, oG, oK, oL, oM, oN, oO, oP, oS, oU, oX]
    rw [h2] at hn
    have h1 : r.topic = m.last + 1 := by omega
    have G := @new_ok
    have F := And.intro q1 (And.intro h1 (And.intro hw h7))
    refine wkF ?_
    (refine aEnR (aRes [true] fun K hK => ?_); simp (maxSteps := 10000000) (disch := first | omega | simp) [h1]; refine hK _ ?_ (by simp); clear hK; first | done | (simp (maxSteps := 10000000) (disch := first | omega | simp) [h1, *]; done) | (simp (maxSteps := 10000000) (disch := first | omega | simp) [h1, *]; omega) | (simp_all [h1]; done) | (simp_all [h1]; omega))
  rw [if_neg h2]
  have h2 : (m.named r.name).isSome = false := by simpa using h2
  rw [h2] at hn
  have h1 : r.topic = m.last + 1 := by omega
  by_cases h3 : 256 ≤ m.topics.length
  · rw [if_pos h3]
    have h3 : (256 : Int) ≤ m.topics.length := by omega
    refine ⟨some (tpc, r.topic, 6), cellsO m, ?_, pv_cells m, rfl⟩
    refine s25.callM (os := [.own (cellsO m)]) mo (by simp) fun ho hx => ?_
    clear ho hx
    unfold c25; dsimp only [oA, oB, oC, oD, oF, oG, oK, oL, oM, oN, oO, oP, oS, oU, oX]
    have G := @new_ok
    have F := And.intro q1 (And.intro h1 (And.intro hw (And.intro h7 h3)))
    refine wkF ?_
    (refine aEnR (aRes [true] fun K hK => ?_); simp (maxSteps := 10000000) (disch := first | omega | simp) [h1]; refine hK _ ?_ (by simp); clear hK; first | done | (simp (maxSteps := 10000000) (disch := first | omega | simp) [h1, *]; done) | (simp (maxSteps := 10000000) (disch := first | omega | simp) [h1, *]; omega) | (simp_all [h1]; done) | (simp_all [h1]; omega))
  · rw [if_neg h3]
    have h3 : ¬ (256 : Int) ≤ m.topics.length := by omega
    refine ⟨none, [.uq (m.brokers.map encB), .uq (m.topics.map encTO ++ [.agg [I (m.last + 1), St r.name, .sl []]]), .uq (m.configs.map encC), .uq (m.done.map encD), I (m.last + 1)], ?_, by simp [h1, zT], rfl⟩
    refine s25.callM (os := [.own (cellsO m)]) mo (by simp) fun ho hx => ?_
    clear ho hx
    unfold c25; dsimp only [oA, oB, oC, oD, oF, oG, oK, oL, oM, oN, oO, oP, oS, oU, oX]
    have F := And.intro q1 (And.intro h1 (And.intro hw (And.intro h7 h3)))
    refine wkF ?_
    (refine aEnR (aRes [] fun K hK => ?_); simp (maxSteps := 10000000) (disch := first | omega | simp) [h1]; refine hK _ ?_ (by simp); clear hK; first | done | (simp (maxSteps := 10000000) (disch := first | omega | simp) [h1, *]; done) | (simp (maxSteps := 10000000) (disch := first | omega | simp) [h1, *]; omega) | (simp_all [h1]; done) | (simp_all [h1]; omega))
end
end Go.Am
end
