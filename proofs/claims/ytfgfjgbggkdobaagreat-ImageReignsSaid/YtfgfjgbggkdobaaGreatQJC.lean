/- Part of the proof of a law of the image. -/
import Derived.Test.YtfgfjgbggkdobaaGreatQDG
import Derived.Test.YtfgfjgbggkdobaaGreatQData
import Derived.Test.YtfgfjgbggkdobaaGreatQIN
import Derived.Test.YtfgfjgbggkdobaaGreatQMM
import Derived.Test.YtfgfjgbggkdobaaGreatQMN
import Derived.Test.YtfgfjgbggkdobaaGreatQW0
import Derived.Test.YtfgfjgbggkdobaaGreatChecked
import Derived.WalkKit
set_option linter.all false
section
set_option maxRecDepth 100000
set_option maxHeartbeats 0
namespace Go.Am
open Go Go.Proofs Go.RowKit Go.Lib
noncomputable section
def c94 : SC := (.seq (.reg [oI 4 0] [0,1,5,8,10,17,18]) (.seq (.reg [oM 6 0,oN 7 6 27,oD 8 (.move (.const (.int .i64 0)))] [0,1,5,7,8,10,17,18]) (.seq (.block 0 (.seq (.loop (.seq (.reg [oB 9 .lss 3 8 7 3] [0,1,5,7,8,9,10,17,18]) (.seq (.cond (.tmp 9) .skip (.exit 0)) (.seq (.block 1 (.seq (.reg [oM 10 8,oG 5 10] [0,1,5,7,8,10,17,18]) (.seq (.reg [oM 11 1,oM 12 0,oM 13 5,oJ 14 27 12 13,oL 15 67 14,oD 16 (.call { callee := .value (.tmp 11),args := #[.tmp 15],argTypes := #[67] })] [0,1,5,7,8,10,16,17,18]) (.seq (.cond (.tmp 16) (.seq (.reg [oM 17 5,oG 4 17] [4,5,8,10,17,18]) .ret) .skip) .skip)))) (.seq (.reg [oK 18 .add 3 8 1 3,oM 8 18] [0,1,5,7,8,10,17,18]) .skip))))) .skip)) (.seq (.reg [oD 4 (.assign (.const (.int .i64 (-1))))] [4,5,8,10,17,18]) .ret))))
theorem s94 : TextK Proofs.Tryz.prog 0 94 19 [ResultVar.tmp 4] c94 := .mk' Proofs.Tryz.f94 _ (by kernel_rfl) rfl rfl rfl (by kernel_rfl) rfl (by kernel_rfl)
theorem indexFuncC_ok (l : List Config) (f : FuncId) (caps : List V) (hp : pureL caps = true) (p : Config → Bool) (hc : ∀ x ∈ l, ACall pg f ([encC x] ++ caps) (B (p x))) (hl : l.length ≤ 1000000) :
    ACall pg 94 [.sl (l.map encC), .clo f caps] (I (idxF p l 0)) := by
  refine s94.call mo (by simp) fun hxs => ?_
  clear hxs
  unfold c94; dsimp only [oB, oD, oG, oI, oJ, oK, oL, oM, oN]
  have hv := pvL_pure caps hp
  have F := And.intro hp hv
  refine wkF ?_
  refine awFor l.length (fun i (_ : Unit) => idxF p (l.drop i) i = idxF p l 0) (fun i _ => [(8, .p (I i)), (7, .p (I l.length)), (1, .p (.clo f caps)), (0, .p (.sl (l.map encC)))]) () (Wk.ofA (by simp)) rfl fun i _ hi hs => ?_
  by_cases hlt : i < l.length
  · rw [drop_cons hlt] at hs
    simp only [idxF] at hs
    have hcx := hc _ (List.getElem_mem hlt)
    cases hpx : p l[i] with
    | true =>
      rw [hpx] at hs hcx
      rw [if_pos rfl] at hs
      have F := And.intro hp hv
      refine wkF ?_
      (refine aEnR (aRes [] fun K hK => ?_); simp (maxSteps := 10000000) (disch := first | omega | simp) [hs]; refine hK _ ?_ (by simp); clear hK; first | done | (simp (maxSteps := 10000000) (disch := first | omega | simp) [hs, *]; done) | (simp (maxSteps := 10000000) (disch := first | omega | simp) [hs, *]; omega) | (simp_all [hs]; done) | (simp_all [hs]; omega))
    | false =>
      rw [hpx] at hs hcx
      rw [if_neg (by simp)] at hs
      have F := And.intro hp hv
      refine wkF ?_
      (refine ⟨?_, (), ?_, Wk.ofA ?_⟩; assumption; rotate_left; focus (simp []; done))
      exact hs
  · rw [drop_nil (by omega)] at hs
    simp only [idxF] at hs
    refine wk ?_
    (refine aEnR (aRes [] fun K hK => ?_); simp (maxSteps := 10000000) (disch := first | omega | simp) [hs]; refine hK _ ?_ (by simp); clear hK; first | done | (simp (maxSteps := 10000000) (disch := first | omega | simp) [hs, *]; done) | (simp (maxSteps := 10000000) (disch := first | omega | simp) [hs, *]; omega) | (simp_all [hs]; done) | (simp_all [hs]; omega))
def valC (c : Config) : List Value := [.int .i64 c.topic, .string c.key, .string c.value]
def flC (l : List Config) : List Value := l.flatMap valC
theorem flC_len (l : List Config) : (flC l).length = l.length * 3 := by
  induction l with
  | nil => rfl
  | cons x l ih => simp only [flC, List.flatMap_cons, List.length_append] at ih ⊢; rw [ih]; simp [valC]; omega
theorem flC_at (l : List Config) : ∀ (j : Nat) (h : j < l.length), (flC l)[j * 3]? = some (.int .i64 l[j].topic) ∧ (flC l)[j * 3 + 1]? = some (.string l[j].key) ∧ (flC l)[j * 3 + 2]? = some (.string l[j].value) := by
  induction l with
  | nil => intro j h; simp at h
  | cons x l ih =>
    intro j h
    cases j with
    | zero => exact ⟨rfl, rfl, rfl⟩
    | succ j =>
      obtain ⟨h1, h2, h3⟩ := ih j (by simpa using h)
      have e : flC (x :: l) = valC x ++ flC l := rfl
      rw [e]
      have hv : (valC x).length = 3 := rfl
      refine ⟨?_, ?_, ?_⟩ <;> rw [List.getElem?_append_right (by rw [hv]; omega), hv]
      · rw [show (j + 1) * 3 - 3 = j * 3 by omega, h1]; rfl
      · rw [show (j + 1) * 3 + 1 - 3 = j * 3 + 1 by omega, h2]; rfl
      · rw [show (j + 1) * 3 + 2 - 3 = j * 3 + 2 by omega, h3]; rfl
def jOf (v : Value) : Nat := match v with | .int _ n => n.toNat | _ => 0
@[simp] theorem jOf_int (k : IntKind) (n : Int) : jOf (.int k n) = n.toNat := rfl
def Rowed (b n cap : Nat) (W w : World) (cur : Array Value) (e : TypeId) : Prop := Far [b] W w ∧ w.heap[b]? = some (.cells cur e (0, 0)) ∧ cur.size = cap * 3
theorem dfrun (l : List Config) (b cap : Nat) (cur : Array Value) (e : TypeId) (W : World) (f : FuncId) (cs : List Value) (p : Config → Bool) (hb : W.heap[b]? = some (.cells cur e (0, 0))) (hn : l.length ≤ cap) (hne : l ≠ [])
    (hcap : cap ≤ 9223372036854775807) (hl : l.length ≤ 1000000) (hcur : cur.size = cap * 3) (hrow : cur.toList.take (l.length * 3) = flC l)
    (hidx : Calls pg 94 #[.slice (some ⟨b, 0, none⟩) l.length cap, .func (.func f) #[] cs.toArray] W fun r w' => r = .returned (.int .i64 (idxF p l 0)) ∧ Far [] W w')
    (hen : entr pg f = true) (hdel : ∀ x ∈ l, ∀ w, Far [b] W w → Calls pg f (.agg (valC x).toArray :: cs).toArray w fun r w' => r = .returned (.bool (p x)) ∧ Far [] w w') :
    Calls pg 64 #[.slice (some ⟨b, 0, none⟩) l.length cap, .func (.func f) #[] cs.toArray] W fun r w' => r = .returned (.slice (some ⟨b, 0, none⟩) (l.filter fun x => !p x).length cap) ∧
      ∃ cur2 : Array Value, Far [b] W w' ∧ w'.heap[b]? = some (.cells cur2 e (0, 0)) ∧ cur2.size = cap * 3 ∧ cur2.toList.take ((l.filter fun x => !p x).length * 3) = flC (l.filter fun x => !p x) := by
  have mixed := mo
  by_cases hno : idxF p l 0 = -1
  · rw [hno] at hidx
    go_enter Tryz.func64, Tryz.ntmps64
    go_wp2_with (go_at_call 94; refine hidx.mono ?_; rintro r w' ⟨rfl, hF⟩)
    go_ret
    have hall := idxF_none p l 0 hno
    rw [hall]
    refine ⟨rfl, cur, ⟨hF.os, hF.tape, hF.output, hF.size, fun k hk _ => hF.block k hk (by simp)⟩, ?_, hcur, hrow⟩
    rw [hF.block b (Array.getElem?_eq_some_iff.1 hb).1 (by simp)]; exact hb
  · obtain ⟨q, hq, hql, hqx, hqp⟩ := idxF_hit p l hno
    rw [hq] at hidx
    go_enter Tryz.func64, Tryz.ntmps64
    go_wp2_with (go_at_call 94; refine hidx.mono ?_; rintro r w' ⟨rfl, hF⟩)
    have hb' : w'.heap[b]? = some (.cells cur e (0, 0)) := by rw [hF.block b (Array.getElem?_eq_some_iff.1 hb).1 (by simp)]; exact hb
    have hcurt : ∀ t, t < l.length * 3 → cur[t]? = (flC l)[t]? := fun t ht => by rw [← hrow, List.getElem?_take, if_pos ht, Array.getElem?_toList]
    have hfil : (l.take (q + 1)).filter (fun x => !p x) = l.take q := by
      rw [List.take_succ, List.getElem?_eq_getElem hql, List.filter_append]
      simp only [Option.toList_some, List.filter_cons, hqx, Bool.not_true, Bool.false_eq_true, if_false, List.filter_nil, List.append_nil]
      rw [List.filter_eq_self]
      intro x hx
      obtain ⟨k, hk, rfl⟩ := List.getElem_of_mem hx
      rw [List.length_take] at hk
      rw [List.getElem_take, hqp k (by omega)]; rfl
    have hfq : cur.toList.take (q * 3) = flC ((l.take (q + 1)).filter fun x => !p x) ∧ ((l.take (q + 1)).filter fun x => !p x).length = q := by
      rw [hfil]
      refine ⟨?_, by simp; omega⟩
      have e1 : flC l = flC (l.take q) ++ flC (l.drop q) := by rw [flC, ← List.take_append_drop q l, List.flatMap_append]; simp [flC]
      have e2 : cur.toList.take (q * 3) = (flC l).take (q * 3) := by rw [← hrow, List.take_take, Nat.min_eq_left (by omega)]
      rw [e2, e1]
      exact List.take_left' (by rw [flC_len]; simp; omega)
    go_loopw [5, 6] (fun v5 v6 wr => ∃ (i j : Nat) (c : Array Value), v5 = .int .i64 i ∧ v6 = .int .i64 j ∧ i < j ∧ j ≤ l.length ∧ Rowed b l.length cap W wr c e ∧ ((l.take j).filter fun x => !p x).length = i ∧
      c.toList.take (i * 3) = flC ((l.take j).filter fun x => !p x) ∧ ∀ t, j * 3 ≤ t → t < l.length * 3 → c[t]? = (flC l)[t]?) (fun _ v6 _ => l.length - jOf v6)
    case atStart =>
      exact ⟨q, q + 1, cur, rfl, rfl, by omega, by omega, ⟨⟨hF.os, hF.tape, hF.output, hF.size, fun k hk _ => hF.block k hk (by simp)⟩, hb', hcur⟩, hfq.2, hfq.1, fun t h1 h2 => hcurt t h2⟩
    case round =>
      obtain ⟨i, j, c, rfl, rfl, hij, hjl, ⟨hFr, hbr, hcs⟩, hi, hc, hrest⟩ := hrel
      by_cases hlt : j < l.length
      · have hx := hdel l[j] (List.getElem_mem hlt)
        obtain ⟨f1, f2, f3⟩ := flC_at l j hlt
        have g1 : wr.cell? ⟨b, j * 3, none⟩ = some (.int .i64 l[j].topic) := by simp only [World.cell?, hbr]; rw [hrest _ (by omega) (by omega)]; exact f1
        have g2 : wr.cell? ⟨b, j * 3 + 1, none⟩ = some (.string l[j].key) := by simp only [World.cell?, hbr]; rw [hrest _ (by omega) (by omega)]; exact f2
        have g3 : wr.cell? ⟨b, j * 3 + 2, none⟩ = some (.string l[j].value) := by simp only [World.cell?, hbr]; rw [hrest _ (by omega) (by omega)]; exact f3
        have hbl := (Array.getElem?_eq_some_iff.1 hbr).1
        go_wp2
        rw [entr_run hen, Oper.upon_enter]
        refine (hx (wr.alloc (.cells #[.int .i64 l[j].topic, .string l[j].key, .string l[j].value] 67)) ⟨hFr.os, hFr.tape, hFr.output, by have := hFr.size; simp; omega, fun k hk hk' => by rw [Below.heap_alloc wr _ k (by have := hFr.size; omega)]; exact hFr.block k hk hk'⟩).mono ?_
        rintro r w2 ⟨rfl, hF2⟩
        have hb2 : w2.heap[b]? = some (.cells c e (0, 0)) := by rw [hF2.block b (by simp; omega) (by simp), Below.heap_alloc wr _ b hbl]; exact hbr
        have hv2 : w2.heap[wr.heap.size]? = some (.cells #[.int .i64 l[j].topic, .string l[j].key, .string l[j].value] 67 (0, 0)) := by rw [hF2.block _ (by simp) (by simp)]; exact heap_alloc_new wr _
        have hF3 : Far [b] W w2 := ⟨hF2.os.trans hFr.os, hF2.tape.trans hFr.tape, hF2.output.trans hFr.output, by have := hFr.size; have := hF2.size; simp at this; omega, fun k hk hk' => ((hF2.block k (by have := hFr.size; simp; omega) (by simp)).trans (Below.heap_alloc wr _ k (by have := hFr.size; omega))).trans (hFr.block k hk hk')⟩
        have k1 : w2.cell? ⟨wr.heap.size, 0, none⟩ = some (.int .i64 l[j].topic) := by simp [World.cell?, hv2]
        have k2 : w2.cell? ⟨wr.heap.size, 1, none⟩ = some (.string l[j].key) := by simp [World.cell?, hv2]
        have k3 : w2.cell? ⟨wr.heap.size, 2, none⟩ = some (.string l[j].value) := by simp [World.cell?, hv2]
        have htk : l.take (j + 1) = l.take j ++ [l[j]] := by rw [List.take_succ, List.getElem?_eq_getElem hlt]; rfl
        have hw1 : IntKind.i64.wrap ((j : Int) + 1) = (j : Int) + 1 := by rw [IntKind.wrap_i64]; omega
        have hw2 : IntKind.i64.wrap ((i : Int) + 1) = (i : Int) + 1 := by rw [IntKind.wrap_i64]; omega
        cases hp : p l[j] with
        | true =>
          go_wp2
          go_roundw
          case rel =>
            repeat (with_reducible apply Exists.intro)
            exact ⟨⟨i, j + 1, c, rfl, rfl, by omega, by omega, ⟨hF3, hb2, hcs⟩, by rw [htk, List.filter_append]; simp [hp]; exact hi, by rw [htk, List.filter_append]; simp [hp]; exact hc, fun t h1 h2 => hrest t (by omega) h2⟩, rfl⟩
          case measure => simp; omega
        | false =>
          have m1 : w2.cell? ⟨b, i * 3, none⟩ = some (c[i * 3]'(by omega)) := by simp only [World.cell?, hb2]; exact Array.getElem?_eq_getElem (by omega)
          have m2 : w2.cell? ⟨b, i * 3 + 1, none⟩ = some (c[i * 3 + 1]'(by omega)) := by simp only [World.cell?, hb2]; exact Array.getElem?_eq_getElem (by omega)
          have m3 : w2.cell? ⟨b, i * 3 + 2, none⟩ = some (c[i * 3 + 2]'(by omega)) := by simp only [World.cell?, hb2]; exact Array.getElem?_eq_getElem (by omega)
          have z1 : w2.frozen? ⟨b, i * 3, none⟩ = false := by simp [World.frozen?, hb2]
          have z2 : w2.frozen? ⟨b, i * 3 + 1, none⟩ = false := by simp [World.frozen?, hb2]
          have z3 : w2.frozen? ⟨b, i * 3 + 2, none⟩ = false := by simp [World.frozen?, hb2]
          obtain ⟨c3, hc3⟩ : ∃ c3 : Array Value, c3 = ((c.setIfInBounds (i * 3) (.int .i64 l[j].topic)).setIfInBounds (i * 3 + 1) (.string l[j].key)).setIfInBounds (i * 3 + 2) (.string l[j].value) := ⟨_, rfl⟩
          have hW3 : ((w2.setCell ⟨b, i * 3, none⟩ (.int .i64 l[j].topic)).setCell ⟨b, i * 3 + 1, none⟩ (.string l[j].key)).setCell ⟨b, i * 3 + 2, none⟩ (.string l[j].value) = w2.setRow b c3 := by
            rw [setCell_eq_setRow w2 b (i * 3) c e (0, 0) _ hb2, setCell_eq_setRow _ b (i * 3 + 1) _ e (0, 0) _ (setRow_heap w2 b c _ e (0, 0) hb2), setRow_setRow, setCell_eq_setRow _ b (i * 3 + 2) _ e (0, 0) _ (setRow_heap w2 b c _ e (0, 0) hb2), setRow_setRow, hc3]
          have hF4 : Far [b] W (w2.setRow b c3) := ⟨hF3.os, hF3.tape, hF3.output, by have := hF3.size; simpa using this, fun k hk hk' => by rw [setRow_other w2 b k _ (by simpa using hk')]; exact hF3.block k hk hk'⟩
          have hb3 : (w2.setRow b c3).heap[b]? = some (.cells c3 e (0, 0)) := setRow_heap w2 b c c3 e (0, 0) hb2
          have hc3s : c3.size = cap * 3 := by rw [hc3]; simp; exact hcs
          have htk3 : c3.toList.take ((i + 1) * 3) = flC ((l.take (j + 1)).filter fun x => !p x) := by
            rw [htk, List.filter_append]
            have e1 : flC (List.filter (fun x => !p x) (l.take j) ++ List.filter (fun x => !p x) [l[j]]) = flC (List.filter (fun x => !p x) (l.take j)) ++ valC l[j] := by simp [flC, hp]
            rw [e1, ← hc]
            apply List.ext_getElem?
            intro t
            have hl1 : (c.toList.take (i * 3)).length = i * 3 := by simp; omega
            rw [List.getElem?_take, Array.getElem?_toList, hc3]
            by_cases t1 : t < i * 3
            · rw [if_pos (by omega), List.getElem?_append_left (by omega), List.getElem?_take, if_pos t1, Array.getElem?_toList, Array.getElem?_setIfInBounds_ne (by omega), Array.getElem?_setIfInBounds_ne (by omega), Array.getElem?_setIfInBounds_ne (by omega)]
            · rw [List.getElem?_append_right (by omega), hl1]
              by_cases t2 : t < (i + 1) * 3
              · rw [if_pos t2]
                rcases (show t = i * 3 ∨ t = i * 3 + 1 ∨ t = i * 3 + 2 by omega) with h | h | h
                · subst h
                  rw [Array.getElem?_setIfInBounds_ne (by omega), Array.getElem?_setIfInBounds_ne (by omega), Array.getElem?_setIfInBounds_self_of_lt (by omega), Nat.sub_self]; rfl
                · subst h
                  rw [Array.getElem?_setIfInBounds_ne (by omega), Array.getElem?_setIfInBounds_self_of_lt (by simp; omega), show i * 3 + 1 - i * 3 = 1 by omega]; rfl
                · subst h
                  rw [Array.getElem?_setIfInBounds_self_of_lt (by simp; omega), show i * 3 + 2 - i * 3 = 2 by omega]; rfl
              · rw [if_neg t2, List.getElem?_eq_none (by simp [valC]; omega)]
          have hrest3 : ∀ t, (j + 1) * 3 ≤ t → t < l.length * 3 → c3[t]? = (flC l)[t]? := fun t h1 h2 => by
            rw [hc3, Array.getElem?_setIfInBounds_ne (by omega), Array.getElem?_setIfInBounds_ne (by omega), Array.getElem?_setIfInBounds_ne (by omega)]
            exact hrest t (by omega) h2
          have hlen3 : ((l.take (j + 1)).filter fun x => !p x).length = i + 1 := by rw [htk, List.filter_append]; simp [hp]; exact hi
          clear hc3
          go_wp2
          go_roundw
          case rel =>
            repeat (with_reducible apply Exists.intro)
            exact ⟨⟨i + 1, j + 1, c3, rfl, rfl, by omega, by omega, ⟨hF4, hb3, hc3s⟩, hlen3, htk3, hrest3⟩, rfl⟩
          case measure => simp; omega
      · have hjn : j = l.length := by omega
        subst hjn
        rw [List.take_length] at hi hc
        obtain ⟨zs, hzs'⟩ : ∃ zs : List Value, zs = (Builtin.zeroCells (.agg #[.int .i64 0, .string ⟨#[]⟩, .string ⟨#[]⟩] : Value).cells (l.length - i)).toList := ⟨_, rfl⟩
        have hzl : zs.length = (l.length - i) * 3 := by rw [hzs', Array.length_toList, zeroCells_size]; rfl
        have hz1 : ∀ u ∈ zs, u.oneCell' = true := by
          intro u hu
          rw [hzs'] at hu
          simp only [Builtin.zeroCells, Value.cells] at hu
          simp at hu
          obtain ⟨k, _, rfl⟩ := hu
          rcases (show k % 3 = 0 ∨ k % 3 = 1 ∨ k % 3 = 2 by omega) with h | h | h <;> simp [h]
        obtain ⟨c2, hc2⟩ : ∃ c2 : Array Value, c2 = (c.toList.take (i * 3) ++ zs ++ c.toList.drop (i * 3 + zs.length)).toArray := ⟨_, rfl⟩
        have hc2' : c2 = (c.toList.take (i * 3) ++ (zs ++ c.toList.drop (i * 3 + zs.length))).toArray := by rw [hc2, List.append_assoc]
        have hcl : ∀ ty, (Builtin.clear_ #[27] ty #[.slice (some ⟨b, i * 3, none⟩) (l.length - i) (cap - i)]).run pg wr = .ok (.tuple #[]) (wr.setRow b c2) := by
          intro ty
          have h2 := run_storeCells_at pg b (i * 3) e zs 0 c wr hbr (by omega) hz1
          simp only [Nat.add_zero] at h2
          obtain ⟨m, hm⟩ : ∃ m, l.length - i = m + 1 := ⟨l.length - i - 1, by omega⟩
          rw [hm] at hzs' ⊢
          simp [Builtin.clear_, run_underlying Tryz.underlying27, Tryz.zeroValue67, ← hzs', h2, ← hc2']
        have hfin : Far [b] W (wr.setRow b c2) := ⟨hFr.os, hFr.tape, hFr.output, by have := hFr.size; simpa using this, fun k hk hk' => by rw [setRow_other wr b k _ (by simpa using hk')]; exact hFr.block k hk hk'⟩
        have hfb : (wr.setRow b c2).heap[b]? = some (.cells c2 e (0, 0)) := setRow_heap wr b c c2 e (0, 0) hbr
        have hc2s : c2.size = cap * 3 := by rw [hc2]; simp; omega
        have hval : c2.toList.take (i * 3) = flC (l.filter fun x => !p x) := by
          rw [hc2]
          show (c.toList.take (i * 3) ++ zs ++ _).take _ = _
          rw [List.append_assoc, List.take_left' (by simp; omega)]
          exact hc
        have hil : i < l.length := by omega
        have hic : ¬ cap = i := by omega
        have hie : i ≤ cap := by omega
        clear hc2 hc2' hzs' hrest hc
        go_wp2
        go_ret
        rw [hi]
        exact ⟨rfl, c2, hfin, hfb, hc2s, hval⟩
theorem R.flC {S : Nat → Nat → Prop} {w : World} : ∀ {l : List Config} {vs : List Value} {fp : List Nat}, R S w ((l.map encC).flatMap V.cells) vs fp → vs = flC l ∧ fp = [] := by
  intro l
  induction l with
  | nil => intro vs fp h; cases h; exact ⟨rfl, rfl⟩
  | cons x l ih =>
    intro vs fp h
    simp only [List.map_cons, encC, List.flatMap_cons, V.cells, List.cons_append, List.nil_append] at h
    cases h with
    | c h => cases h with
      | c h => cases h with
        | c h => obtain ⟨rfl, rfl⟩ := ih h; exact ⟨rfl, rfl⟩
theorem flC_R (S : Nat → Nat → Prop) (w : World) : ∀ (l : List Config), R S w ((l.map encC).flatMap V.cells) (flC l) [] := by
  intro l
  induction l with
  | nil => exact .nil
  | cons x l ih => exact .c (.c (.c ih))
theorem dfnil (a : Option Addr) (cap : Nat) (hcap : cap ≤ 9223372036854775807) (fv : Value) (W : World)
    (hidx : Calls pg 94 #[.slice a 0 cap, fv] W fun r w' => r = .returned (.int .i64 (-1)) ∧ Far [] W w') :
    Calls pg 64 #[.slice a 0 cap, fv] W fun r w' => r = .returned (.slice a 0 cap) ∧ Far [] W w' := by
  have mixed := mo
  go_enter Tryz.func64, Tryz.ntmps64
  go_wp2_with (go_at_call 94; refine hidx.mono ?_; rintro r w' ⟨rfl, hF⟩)
  go_ret
  exact ⟨rfl, hF⟩
theorem deleteFuncC_ok (l : List Config) (f : FuncId) (caps : List V) (hp : pureL caps = true) (p : Config → Bool) (hc : ∀ x ∈ l, ACall pg f ([encC x] ++ caps) (B (p x))) (hl : l.length ≤ 1000000) (hen : entr pg f = true) :
    ACallM pg 64 [.uq (l.map encC)] [.clo f caps] (.sl ((l.filter fun x => !p x).map encC)) [.any] := by
  refine ⟨by kernel_rfl, fun S w vo vs fo hRo hfn hfS hflt hRx hSlt hgl => ?_⟩
  obtain ⟨fp0, hfp0, hRx⟩ : ∃ fp, fp = [] ∧ R S w [.clo f caps] vs fp := ⟨_, rfl, hRx⟩
  cases hRx with
  | @clo _ _ cs fq _ vs' fp' hcl hnil =>
  cases hnil
  simp only [List.append_nil] at hfp0
  subst hfp0
  have hI := indexFuncC_ok l f caps hp p hc hl
  have idx : ∀ (S' : Nat → Nat → Prop) (v : Value), R S' w [.sl (l.map encC)] [v] [] → R S' w caps cs [] → (∀ b o, S' b o → b < w.heap.size) → Glo S' w →
      Calls pg 94 #[v, .func (.func f) #[] cs.toArray] w fun r w' => r = .returned (.int .i64 (idxF p l 0)) ∧ Far [] w w' := by
    intro S' v h1 h2 h3 h4
    have hR : R S' w [.sl (l.map encC), .clo f caps] [v, .func (.func f) #[] cs.toArray] [] := by
      have := R.append h1 (R.clo (f := f) h2 (R.nil (S := S') (w := w)))
      simpa using this
    refine (hI.2 S' w _ hR h3 h4).mono ?_
    rintro r w' ⟨u, S2, fp2, rfl, g1, _, _, _, _, _, _, g8⟩
    cases g1 with
    | c h => exact ⟨rfl, g8⟩
  generalize hL : l.map encC = L at hRo
  cases hRo with
  | uq0 h0 =>
    cases h0
    have hl0 : l = [] := by simpa using hL
    subst hl0
    have hx := idx S (.slice none 0 0) (.sl0 .nil) hcl hSlt hgl
    refine (dfnil none 0 (by omega) _ w hx).mono ?_
    rintro r w' ⟨rfl, hF⟩
    exact ⟨_, S, [], [], rfl, .sl0 .nil, .any .nil, by simp, by simp, by simp, fun _ _ h => h, fun _ _ h => .inl h, fun b o h => Nat.lt_of_lt_of_le (hSlt b o h) hF.size, hF⟩
  | @uq _ cs1 fq1 _ _ _ b cap e es cur g1 g2 g3 g4 g5 g6 g7 g8 g9 g10 =>
    cases g10
    subst hL
    obtain ⟨rfl, rfl⟩ := R.flC g3
    simp only [List.append_nil, List.length_map] at *
    have hbw : b < w.heap.size := hflt b (by simp)
    have hnS : ∀ o, ¬ S b o := fun o => hfS b o (by simp)
    have hm : maxLen = 9223372036854775807 := rfl
    by_cases hne : l = []
    · subst hne
      have hx := idx S (.slice (some ⟨b, 0, none⟩) 0 cap) (.sl0 .nil) hcl hSlt hgl
      refine (dfnil (some ⟨b, 0, none⟩) cap (by omega) _ w hx).mono ?_
      rintro r w' ⟨rfl, hF⟩
      exact ⟨_, S, [], [], rfl, .sl0 .nil, .any .nil, by simp, by simp, by simp, fun _ _ h => h, fun _ _ h => .inl h, fun b o h => Nat.lt_of_lt_of_le (hSlt b o h) hF.size, ⟨hF.os, hF.tape, hF.output, hF.size, fun k hk _ => hF.block k hk (by simp)⟩⟩
    have hes : es = 3 := by
      obtain ⟨x, l', rfl⟩ := List.exists_cons_of_ne_nil hne
      have := g2 (encC x) (by simp)
      simpa [encC, V.cells] using this.symm
    subst hes
    have hrow : R (fun x o => S x o ∨ x = b) w [.sl (l.map encC)] [.slice (some ⟨b, 0, none⟩) l.length cap] [] := by
      have := R.sl (S := fun x o => S x o ∨ x = b) (w := w) (l := l.map encC) (cs := flC l) (xs := []) (vs := []) (fp := []) b 0 cap 3 (by simpa using hne) (by omega) (by intro x hx; obtain ⟨n, _, rfl⟩ := List.mem_map.1 hx; rfl) (flC_R _ _ l)
        (by intro u hu; exact g4 u hu) (by
          intro j hj
          refine ⟨.inr rfl, ?_⟩
          rw [flC_len] at hj
          simp only [World.cell?, g5, Nat.zero_add]
          rw [← g9, List.getElem?_take, if_pos hj, Array.getElem?_toList]; rfl) (by simpa using g6) (by omega) .nil
      simpa using this
    have hcell : ∀ w1, Far [b] w w1 → ∀ b' o, S b' o → w1.cell? ⟨b', o, none⟩ = w.cell? ⟨b', o, none⟩ := fun w1 hF b' o hs => World.cell?_of_block (w := w) (a := ⟨b', o, none⟩) (hF.block b' (hSlt b' o hs) (by simp; intro e; exact hnS o (e ▸ hs)))
    have hx := idx (fun x o => S x o ∨ x = b) _ hrow (hcl.mono (fun _ _ h => .inl h) (fun _ _ _ => rfl) (by simp)) (fun x o h => h.elim (hSlt x o) (fun h => h ▸ hbw)) (hgl.mono (fun _ _ h => .inl h) (fun _ _ _ => rfl))
    have hdel : ∀ x ∈ l, ∀ w1, Far [b] w w1 → Calls pg f (.agg (valC x).toArray :: cs).toArray w1 fun r w' => r = .returned (.bool (p x)) ∧ Far [] w1 w' := by
      intro x hxl w1 hF
      have hR : R S w1 ([encC x] ++ caps) (.agg (valC x).toArray :: cs) [] := by
        have h1 : R S w1 [encC x] [.agg (valC x).toArray] [] := by
          have := R.agg (S := S) (w := w1) (l := [I x.topic, St x.key, St x.value]) (cs := valC x) (fq := []) (xs := []) (vs := []) (fp := []) (.c (.c (.c .nil))) (by intro u hu; simp [valC] at hu; rcases hu with rfl | rfl | rfl <;> rfl) .nil
          simpa [encC] using this
        simpa using R.append h1 (hcl.mono (fun _ _ h => h) (hcell w1 hF) (by simp))
      refine ((hc x hxl).2 S w1 _ hR (fun b' o h => Nat.lt_of_lt_of_le (hSlt b' o h) hF.size) (hgl.mono (fun _ _ h => h) (hcell w1 hF))).mono ?_
      rintro r w' ⟨u, S2, fp2, rfl, k1, _, _, _, _, _, _, k8⟩
      cases k1 with
      | c h => exact ⟨rfl, k8⟩
    refine (dfrun l b cap cur e w f cs p g5 g6 hne (by omega) hl g8 g9 hx hen hdel).mono ?_
    rintro r w' ⟨rfl, cur2, hF, hb2, hs2, hv2⟩
    generalize hm2 : (l.filter fun x => !p x) = m at hv2
    have hmle : m.length ≤ l.length := by rw [← hm2]; exact List.length_filter_le _ _
    refine ⟨_, fun x o => S x o ∨ x = b, [], [], rfl, ?_, .any .nil, by simp, by simp, by simp, fun _ _ h => .inl h, ?_, ?_, hF⟩
    · by_cases hme : m = []
      · subst hme; exact .sl0 .nil
      · have := R.sl (S := fun x o => S x o ∨ x = b) (w := w') (l := m.map encC) (cs := flC m) (xs := []) (vs := []) (fp := []) b 0 cap 3 (by simpa using hme) (by omega) (by intro x hx; obtain ⟨n, _, rfl⟩ := List.mem_map.1 hx; rfl) (flC_R _ _ m)
          (by
            intro u hu
            have : u ∈ flC l := by
              rw [← hm2] at hu
              simp only [flC, List.mem_flatMap, List.mem_filter] at hu ⊢
              obtain ⟨y, ⟨h1, _⟩, h2⟩ := hu
              exact ⟨y, h1, h2⟩
            exact g4 u this)
          (by
            intro j hj
            refine ⟨.inr rfl, ?_⟩
            rw [flC_len] at hj
            simp only [World.cell?, hb2, Nat.zero_add]
            rw [← hv2, List.getElem?_take, if_pos hj, Array.getElem?_toList]; rfl)
          (by simp; omega) (by omega) .nil
        simpa using this
    · rintro x o (h | rfl)
      · exact .inl h
      · exact .inr (.inl (by simp))
    · rintro x o (h | rfl)
      · exact Nat.lt_of_lt_of_le (hSlt x o h) hF.size
      · exact Nat.lt_of_lt_of_le hbw hF.size
end
end Go.Am
end
section
set_option maxRecDepth 100000
set_option maxHeartbeats 0
namespace Go.Am
open Go
noncomputable section
def c65 : SC := (.seq (.reg [oO 2 67 0,oZ 3 false] [1,2]) (.seq (.reg [oF 4 67 2 0,oL 5 3 4,oF 6 37 1 3,oL 7 3 6,oB 8 .eql 3 5 7 3,oG 3 8] [3,8]) .ret))
theorem s65 : TextK Proofs.Tryz.prog 0 65 9 [ResultVar.tmp 3] c65 := .mk' Proofs.Tryz.f65 _ (by kernel_rfl) rfl rfl rfl (by kernel_rfl) rfl (by kernel_rfl)
theorem topics1_ok (c : Config) (r : Record) : ACall pg 65 ([encC c] ++ [.ip (encR r).cells 0]) (B (c.topic == r.topic)) := by
  refine s65.call mo (by simp) fun hxs => ?_
  clear hxs
  unfold c65; dsimp only [oB, oF, oG, oL, oO, oZ]
  refine wk ?_
  exact fn0
theorem pvL_TOx (l : List Topic) (i j : Nat) : pvL ((l.map encTO).take i ++ (l.map encTO).drop j) = (l.take i ++ l.drop j).map encT := by
  rw [pvL_append, pvL_take, pvL_drop, pvL_TO', List.map_append, List.map_take, List.map_drop]
theorem topics_drop (m : Image) (r : Record) (h7 : r.kind ≠ 7) (hs : srtT m.topics) (hb : ∀ b ∈ m.topics, 1 ≤ b.id ∧ b.id ≤ 1073741824) (hl : m.topics.length ≤ 1000) (hcl : m.configs.length ≤ 1000) (hn : big62 r.topic) :
    Turns pg 25 m r (m.dropRec r.topic) := by
  have ht := itopic_ok m r.topic hs hb (by omega) hn
  unfold Image.dropRec
  cases hf : m.topic r.topic with
  | none =>
    rw [hf] at ht
    rw [if_pos (by rfl)]
    refine ⟨some (tpc, r.topic, 8), cellsO m, ?_, pv_cells m, rfl⟩
    refine s25.callM (os := [.own (cellsO m)]) mo (by simp) fun ho hx => ?_
    clear ho hx
    unfold c25; dsimp only [oA, oB, oC, oD, oF, oG, oK, oL, oM, oN, oO, oP, oS, oU, oX]
    have q1 : (r.kind == 7) = false := by simpa using h7
    have G := @new_ok
    have F := q1
    refine wkF ?_
    exact fn1
  | some t =>
    rw [hf] at ht
    rw [if_neg (by simp)]
    obtain ⟨hi, hti, hid⟩ := pos_hit (f := Topic.id) hs hf
    have hfl := (hit_filters (f := Topic.id) hs hi (hti ▸ hid)).2.2.1
    have hlen : posOf Topic.id m.topics r.topic ≤ 1000 := by omega
    generalize posOf Topic.id m.topics r.topic = i at *
    have hd := delT_ok (m.topics.map encTO) i (by simpa using hi) (by intro y hy; obtain ⟨t, _, rfl⟩ := List.mem_map.1 hy; rfl)
    have hdf := deleteFuncC_ok m.configs 65 [.ip (encR r).cells 0] (by simp [pureL, pureB]) (fun c => c.topic == r.topic) (fun c _ => topics1_ok c r) (by omega) (by kernel_rfl)
    refine ⟨none, [.uq (m.brokers.map encB), .sl (pvL ((m.topics.map encTO).take i ++ (m.topics.map encTO).drop (i + 1))), .sl ((m.configs.filter fun c => !(c.topic == r.topic)).map encC), .uq (m.done.map encD), I m.last], ?_, ?_, rfl⟩
    · refine s25.callM (os := [.own (cellsO m)]) mo (by simp) fun ho hx => ?_
      clear ho hx
      unfold c25; dsimp only [oA, oB, oC, oD, oF, oG, oK, oL, oM, oN, oO, oP, oS, oU, oX]
      have q1 : (r.kind == 7) = false := by simpa using h7
      have F := q1
      refine wkF ?_
      exact fn0
    · rw [pvL_TOx, ← hfl]
      simp
      rfl
end
end Go.Am
end
section
set_option maxRecDepth 100000
set_option maxHeartbeats 0
namespace Go.Am
open Go
noncomputable section
def c27 : SC := (.seq (.reg [oO 3 37 1,oD 4 (.assign (.const .nilIface))] [0,3,21]) (.seq (.reg [oU (oM 8 0) [11,12,13,14],oU (oD 9 (.nilCheck (.tmp 8))) [11,12,13,14],oU (oL 10 30 9) [11,12,13,14],oU (oF 11 37 3 6) [8,9,10,13,14],oU (oL 12 3 11) [8,9,10,13,14],oU (oF 13 37 3 7) [8,9,10,11,12],oU (oL 14 3 13) [8,9,10,11,12],oC 15 69 #[.tmp 10,.tmp 12,.tmp 14] #[30,3,3],oM 7 15,oU (oX 16 7 0) [17],oU (oX 17 7 1) [16,5],oU (oG 5 16) [17],oG 6 17] [0,3,6,7,15,17,21]) (.seq (.reg [oM 18 6] [0,3,6,7,15,17,18,21]) (.seq (.cond (.tmp 18) (.seq (.reg [oF 19 37 3 6,oL 20 3 19,oD 21 (.call { callee := .value (.func 39),args := #[.const (.string ⟨#[100,111,110,101]⟩),.tmp 20,.const (.int .i64 9)],argTypes := #[9,3,55] }),oG 4 21] [0,4,21]) .ret) .skip) (.seq (.reg [oM 22 0,oM 23 0,oU (oD 24 (.nilCheck (.tmp 23))) [27,28,29,30,31,32,33,34],oU (oF 25 30 24 3) [27,28,29,30,31,32,33,34],oU (oL 26 28 25) [27,28,29,30,31,32,33,34],oU (oF 27 37 3 6) [24,25,26,29,30,31,32],oU (oL 28 3 27) [24,25,26,29,30,31,32],oU (oF 29 37 3 7) [24,25,26,27,28,31,32],oU (oL 30 3 29) [24,25,26,27,28,31,32],oU (oF 31 37 3 8) [24,25,26,27,28,29,30],oU (oL 32 3 31) [24,25,26,27,28,29,30],oU (oD 33 (.build 69 #[(0,.tmp 28),(1,.tmp 30),(2,.tmp 32)])) [24,25,26],oU (oD 34 (.buildSlice 28 1 #[(0,.tmp 33)])) [24,25,26],oP 35 #[.tmp 26,.tmp 34] #[28,28],oD 36 (.nilCheck (.tmp 22)),oF 37 30 36 3,oS 28 37 35] [0,21]) (.seq (.reg [oU (oM 38 0) [39,40,41,42,43,44,45,46,47,48,49,50],oU (oM 39 0) [38,43,44,45,46,47,48,49],oU (oD 40 (.nilCheck (.tmp 39))) [38,43,44,45,46,47,48,49],oU (oF 41 30 40 3) [38,43,44,45,46,47,48,49],oU (oL 42 28 41) [38,43,44,45,46,47,48,49],oU (oM 43 0) [38,39,40,41,42],oU (oD 44 (.nilCheck (.tmp 43))) [38,39,40,41,42],oU (oF 45 30 44 3) [38,39,40,41,42],oU (oL 46 28 45) [38,39,40,41,42],oU (oN 47 46 28) [38,39,40,41,42],oU (oK 48 .sub 3 47 64 3) [38,39,40,41,42],oU (oD 49 (.call { callee := .builtin .max,args := #[.tmp 48,.const (.int .i64 0)],argTypes := #[3,3] })) [38,39,40,41,42],oU (oD 50 (.slice 28 (.tmp 42) (some (.tmp 49)) none none)) [38],oD 51 (.nilCheck (.tmp 38)),oF 52 30 51 3,oS 28 52 50] [0,21]) (.seq (.reg [oD 4 (.assign (.const .nilIface))] [0,4,21]) .ret)))))))
theorem s27 : TextK Proofs.Tryz.prog 1 27 53 [ResultVar.tmp 4] c27 := .mk' Proofs.Tryz.f27 _ (by kernel_rfl) rfl rfl rfl (by kernel_rfl) rfl (by kernel_rfl)
theorem done_ok (m : Image) (r : Record) (hl : m.done.length ≤ 1000) : Turns pg 27 m r (m.doneRec r) := by
  have hn := iAnswered_ok m r.client r.serial (by omega)
  unfold Image.doneRec
  cases hf : m.answered r.client r.serial with
  | some d =>
    rw [hf] at hn
    rw [if_pos (by rfl)]
    refine ⟨some (bs [100, 111, 110, 101], r.client, 9), cellsO m, ?_, pv_cells m, rfl⟩
    refine s27.callM (os := [.own (cellsO m)]) mo (by simp) fun ho hx => ?_
    clear ho hx
    unfold c27; dsimp only [oC, oD, oF, oG, oK, oL, oM, oN, oO, oP, oS, oU, oX]
    have G := @new_ok
    refine wk ?_
    exact fn1
  | none =>
    rw [hf] at hn
    rw [if_neg (by simp)]
    refine ⟨none, [.uq (m.brokers.map encB), .uq (m.topics.map encTO), .uq (m.configs.map encC), .sl ((m.done.map encD ++ [encD ⟨r.client, r.serial, r.code⟩]).drop (m.done.length + 1 - 64)), I m.last], ?_, ?_, rfl⟩
    · refine s27.callM (os := [.own (cellsO m)]) mo (by simp) fun ho hx => ?_
      clear ho hx
      unfold c27; dsimp only [oC, oD, oF, oG, oK, oL, oM, oN, oO, oP, oS, oU, oX]
      refine wk ?_
      refine awWk (ofA [(0, .p (.own [.uq (m.brokers.map encB), .uq (m.topics.map encTO), .uq (m.configs.map encC), .sl (m.done.map encD ++ [encD ⟨r.client, r.serial, r.code⟩]), I m.last]))]) ((Wk.frz1 (r := 0) (j := 3) rfl rfl (by simp)).trans (Wk.ofA (by simp))) ?_
      have hcl : (∀ y ∈ m.done.map encD ++ [.agg [I r.client, I r.serial, I r.code]], y.cells.length = (ti pg 69).size) = True := eq_true (by
        intro y hy
        rcases List.mem_append.1 hy with hy | hy
        · obtain ⟨d, _, rfl⟩ := List.mem_map.1 hy; rfl
        · rw [List.mem_singleton.1 hy]; rfl)
      have ht : (m.done.map encD ++ [V.agg [I r.client, I r.serial, I r.code]]).take (m.done.length + 1) = m.done.map encD ++ [V.agg [I r.client, I r.serial, I r.code]] := List.take_of_length_le (by simp)
      by_cases h1 : (m.done.length : Int) + 1 - 64 < 0
      · rw [show (m.done.map encD ++ [encD ⟨r.client, r.serial, r.code⟩]).drop (m.done.length + 1 - 64) = m.done.map encD ++ [encD ⟨r.client, r.serial, r.code⟩] from by rw [show m.done.length + 1 - 64 = 0 by omega]; rfl]
        repeat' first | (with_reducible first | refine fS ?_ | refine fR ?_ | refine fQ ?_ | refine fT ?_ | refine awRet ?_) | ((with_reducible refine awReg fun K hok hK => ?_); clear hok; (try simp (maxSteps := 10000000) (disch := first | omega | simp) [h1, hcl]); (repeat' first | (with_reducible refine hK _ (by simp) ?_) | ((first | ((with_reducible refine callS' fun K2 hK2 => ?_); (try simp (maxSteps := 10000000) (disch := first | omega | simp) [h1, hcl]); (refine hK2 _ _ hn rfl fun hk9 => ?_); clear hk9; clear hK2 K2) | ((with_reducible refine sideQ' ?_ ?_ fun K2 hK2 => ?_); exact rfl; exact rfl; (try simp (maxSteps := 10000000) (disch := first | omega | simp) [h1, hcl]); with_reducible refine hK2 _ _ ?_; clear hK2 K2) | ((with_reducible refine side' ?_ fun K2 hK2 => ?_); exact rfl; (try simp (maxSteps := 10000000) (disch := first | omega | simp) [h1, hcl]); (try simp only [if_true, h1, hcl]); (try simp (maxSteps := 10000000) (disch := first | omega | simp) [h1, hcl]); refine hK2 _ _ (by simp) ?_; clear hK2 K2)); (try simp (maxSteps := 10000000) (disch := first | omega | simp) [h1, hcl]))) <;> clear hK K) | ((with_reducible refine awCond fun A B hA hB => ?_); simp (maxSteps := 10000000) (disch := first | omega | simp) [h1, hcl]; (first | refine ⟨fun h => hA ?_, fun h => hB ?_⟩ | refine hA ?_ | refine hB ?_) <;> (clear hA hB A B; (try (exfalso; omega))))
        all_goals (refine aEnR (aRes [] fun K hK => ?_); simp (maxSteps := 10000000) (disch := first | omega | simp) [ht]; refine hK _ ?_ (by simp); clear hK; first | done | (simp (maxSteps := 10000000) (disch := first | omega | simp) [ht, *]; done) | (simp (maxSteps := 10000000) (disch := first | omega | simp) [ht, *]; omega) | (simp_all [ht]; done) | (simp_all [ht]; omega))
      · have hk : ((m.done.length : Int) + 1 - 64).toNat = m.done.length - 63 := by omega
        repeat' first | (with_reducible first | refine fS ?_ | refine fR ?_ | refine fQ ?_ | refine fT ?_ | refine awRet ?_) | ((with_reducible refine awReg fun K hok hK => ?_); clear hok; (try simp (maxSteps := 10000000) (disch := first | omega | simp) [h1, hcl]); (repeat' first | (with_reducible refine hK _ (by simp) ?_) | ((first | ((with_reducible refine callS' fun K2 hK2 => ?_); (try simp (maxSteps := 10000000) (disch := first | omega | simp) [h1, hcl]); (refine hK2 _ _ hn rfl fun hk9 => ?_); clear hk9; clear hK2 K2) | ((with_reducible refine sideQ' ?_ ?_ fun K2 hK2 => ?_); exact rfl; exact rfl; (try simp (maxSteps := 10000000) (disch := first | omega | simp) [h1, hcl]); with_reducible refine hK2 _ _ ?_; clear hK2 K2) | ((with_reducible refine side' ?_ fun K2 hK2 => ?_); exact rfl; (try simp (maxSteps := 10000000) (disch := first | omega | simp) [h1, hcl]); (try simp only [if_true, h1, hcl]); (try simp (maxSteps := 10000000) (disch := first | omega | simp) [h1, hcl]); refine hK2 _ _ (by simp) ?_; clear hK2 K2)); (try simp (maxSteps := 10000000) (disch := first | omega | simp) [h1, hcl]))) <;> clear hK K) | ((with_reducible refine awCond fun A B hA hB => ?_); simp (maxSteps := 10000000) (disch := first | omega | simp) [h1, hcl]; (first | refine ⟨fun h => hA ?_, fun h => hB ?_⟩ | refine hA ?_ | refine hB ?_) <;> (clear hA hB A B; (try (exfalso; omega))))
        all_goals (refine aEnR (aRes [] fun K hK => ?_); simp (maxSteps := 10000000) (disch := first | omega | simp) [ht, hk]; refine hK _ ?_ (by simp); clear hK; first | done | (simp (maxSteps := 10000000) (disch := first | omega | simp) [ht, hk, *]; done) | (simp (maxSteps := 10000000) (disch := first | omega | simp) [ht, hk, *]; omega) | (simp_all [ht, hk]; done) | (simp_all [ht, hk]; omega))
    · simp only [pvL]
      simp
      rw [List.drop_append_of_le_length (by simp)]
end
end Go.Am
end
