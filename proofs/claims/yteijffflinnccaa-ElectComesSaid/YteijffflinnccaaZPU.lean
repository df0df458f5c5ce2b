/- Part of the proof of ElectLeaves. -/
import GoSem.Op.String
import Derived.KernelRfl
set_option linter.all false
section
namespace Go.Am
open Go
noncomputable section
structure Broker where
  id : Int
  epoch : Int
  rack : ByteArray
  fenced : Bool
  leaving : Bool
structure Part where
  ids : List Int
  isr : List Int
  leader : Int
  epoch : Int
  add : List Int
  drop : List Int
structure Topic where
  id : Int
  name : ByteArray
  parts : List Part
structure Config where
  topic : Int
  key : ByteArray
  value : ByteArray
structure Done where
  client : Int
  serial : Int
  code : Int
structure Image where
  brokers : List Broker
  topics : List Topic
  configs : List Config
  done : List Done
  last : Int
structure Record where
  kind : Int
  broker : Int
  epoch : Int
  topic : Int
  part : Int
  leader : Int
  client : Int
  serial : Int
  code : Int
  flag : Bool
  name : ByteArray
  key : ByteArray
  value : ByteArray
  rack : ByteArray
  ids : List Int
  isr : List Int
  add : List Int
  drop : List Int
theorem not_take {α : Type} {l : List α} {i : Nat} {x n : α} (hx : l[i]? = some x) (h : n ∉ l.take i) (hne : ¬ x = n) : n ∉ l.take (i + 1) := by
  rw [List.take_add_one, hx]
  simp only [Option.toList_some, List.mem_append, List.mem_singleton, not_or]
  exact ⟨h, fun e => hne e.symm⟩
def zB : Broker := ⟨0, 0, ⟨#[]⟩, false, false⟩
def Image.broker (m : Image) (id : Int) : Option Broker := m.brokers.find? fun b => b.id == id
theorem find_at {α : Type} {l : List α} {p : α → Bool} {i : Nat} (hi : i < l.length) (h : ∀ x ∈ l.take i, p x = false) (hx : p l[i] = true) : l.find? p = some l[i] := by
  have : l = l.take i ++ l[i] :: l.drop (i + 1) := by rw [← List.drop_eq_getElem_cons hi, List.take_append_drop]
  rw [List.find?_eq_some_iff_append]
  exact ⟨hx, l.take i, l.drop (i + 1), this, fun x hx' => by simp [h x hx']⟩
theorem find_no {α : Type} {l : List α} {p : α → Bool} {i : Nat} (hi : l.length ≤ i) (h : ∀ x ∈ l.take i, p x = false) : l.find? p = none := by
  rw [List.take_of_length_le hi] at h
  rw [List.find?_eq_none]
  intro x hx; simp [h x hx]
theorem all_take {α : Type} {l : List α} {p : α → Bool} {i : Nat} (hi : i < l.length) (h : ∀ x ∈ l.take i, p x = false) (hx : p l[i] = false) : ∀ x ∈ l.take (i + 1), p x = false := by
  intro x hx'
  rw [List.take_add_one, List.getElem?_eq_getElem hi] at hx'
  simp only [Option.toList_some, List.mem_append, List.mem_singleton] at hx'
  rcases hx' with h' | rfl
  · exact h x h'
  · exact hx
def zT : Topic := ⟨0, ⟨#[]⟩, []⟩
def Image.topic (m : Image) (id : Int) : Option Topic := m.topics.find? fun t => t.id == id
def Image.named (m : Image) (s : ByteArray) : Option Topic := m.topics.find? fun t => t.name.toList == s.toList
def Image.config (m : Image) (t : Int) (k : ByteArray) : Option Config := m.configs.find? fun c => c.topic == t && c.key.toList == k.toList
def Image.answered (m : Image) (c s : Int) : Option Done := m.done.find? fun d => d.client == c && d.serial == s
def Image.alive (m : Image) (id : Int) : Bool := match m.broker id with | some b => !b.fenced | none => false
def zP : Part := ⟨[], [], 0, 0, [], []⟩
def Image.part (m : Image) (id n : Int) : Option Part := match m.topic id with | some t => if n < 0 then none else t.parts[n.toNat]? | none => none
theorem eq_take {α : Type} {a b : List α} {i : Nat} (ha : i < a.length) (hb : i < b.length) (h : a.take i = b.take i) (hx : a[i] = b[i]) : a.take (i + 1) = b.take (i + 1) := by
  rw [List.take_add_one, List.take_add_one, h, List.getElem?_eq_getElem ha, List.getElem?_eq_getElem hb, hx]
theorem any_at {α : Type} {l : List α} {p : α → Bool} {i : Nat} (hi : i < l.length) (hx : p l[i] = true) : l.any p = true := by
  rw [List.any_eq_true]; exact ⟨l[i], List.getElem_mem hi, hx⟩
theorem any_no {α : Type} {l : List α} {p : α → Bool} {i : Nat} (hi : l.length ≤ i) (h : ∀ x ∈ l.take i, p x = false) : l.any p = false := by
  rw [List.take_of_length_le hi] at h
  rw [List.any_eq_false]
  intro x hx; simp [h x hx]
def Topic.any (t : Topic) (p : Part → Bool) : Bool := t.parts.any p
def Image.any (m : Image) (p : Part → Bool) : Bool := m.topics.any fun t => t.any p
def putStep (b : Broker) (s : List Broker × Bool) (x : Broker) : List Broker × Bool :=
  let s1 := if !s.2 && decide (b.id ≤ x.id) then (s.1 ++ [b], true) else s
  (if x.id != b.id then s1.1 ++ [x] else s1.1, s1.2)
def putB (l : List Broker) (b : Broker) : List Broker :=
  let s := l.foldl (putStep b) ([], false)
  if s.2 then s.1 else s.1 ++ [b]
def Image.register (m : Image) (r : Record) : Image × Int :=
  if (m.broker r.broker).isSome && decide (r.epoch ≤ ((m.broker r.broker).getD zB).epoch) then (m, 11)
  else if (m.broker r.broker).isSome && m.any (fun p => p.leader == r.broker) then (m, 10)
  else ({ m with brokers := putB m.brokers ⟨r.broker, r.epoch, r.rack, true, false⟩ }, 0)
def Image.addTopic (m : Image) (r : Record) : Image × Int :=
  if r.topic ≠ IntKind.i64.wrap (m.last + 1) then (m, 10)
  else if (m.named r.name).isSome then (m, 9)
  else if 256 ≤ m.topics.length then (m, 6)
  else ({ m with topics := m.topics ++ [⟨r.topic, r.name, []⟩], last := r.topic }, 0)
def abouts (k : Int) : List UInt8 :=
  if k = 2 then [98, 101, 114]
  else if k = 3 ∨ k = 4 ∨ k = 5 ∨ k = 6 then [98, 101]
  else if k = 7 then [116, 110]
  else if k = 8 then [116, 112, 108, 105, 109]
  else if k = 9 then [116, 101, 112, 108, 105, 109, 120]
  else if k = 10 then [116, 107, 118, 102]
  else if k = 11 then [116]
  else if k = 12 then [97]
  else []
def hasB (k c : Int) : Bool := (abouts k).any fun b => (b.toNat : Int) == c
theorem abouts_len (k : Int) : (abouts k).length ≤ 7 := by unfold abouts; (repeat' split) <;> simp
def numB (n : Int) (asks : Bool) (lo hi : Int) : Bool := if asks then decide (lo ≤ n) && decide (n ≤ hi) else n == 0
def okCh (c : UInt8) : Bool := (decide (97 ≤ (c.toNat : Int)) && decide ((c.toNat : Int) ≤ 122)) || (decide (48 ≤ (c.toNat : Int)) && decide ((c.toNat : Int) ≤ 57)) || (c.toNat : Int) == 46 || (c.toNat : Int) == 45
def nameB (s : ByteArray) : Bool := !(decide ((s.size : Int) < 1) || decide ((s.size : Int) > 40) || s.toList == [46] || s.toList == [46, 46]) && s.data.toList.all okCh
theorem all_at {α : Type} {l : List α} {p : α → Bool} {i : Nat} (hi : i < l.length) (hx : p l[i] = false) : l.all p = false := by
  rw [List.all_eq_false]; exact ⟨l[i], List.getElem_mem hi, by simp [hx]⟩
theorem all_no {α : Type} {l : List α} {p : α → Bool} {i : Nat} (hi : l.length ≤ i) (h : ∀ x ∈ l.take i, p x = true) : l.all p = true := by
  rw [List.take_of_length_le hi] at h
  rw [List.all_eq_true]; exact h
theorem take_all {α : Type} {l : List α} {p : α → Prop} {i : Nat} (hi : i < l.length) (h : ∀ x ∈ l.take i, p x) (hx : p l[i]) : ∀ x ∈ l.take (i + 1), p x := by
  intro x hx'
  rw [List.take_add_one, List.getElem?_eq_getElem hi] at hx'
  simp only [Option.toList_some, List.mem_append, List.mem_singleton] at hx'
  rcases hx' with h' | rfl
  · exact h x h'
  · exact hx
abbrev brokersB (l : List Int) : Bool := decide (l.length ≤ 7 ∧ (∀ n ∈ l, 1 ≤ n ∧ n ≤ 64) ∧ l.Nodup)
def lowT (k : Int) : Int := if k = 10 then 0 else 1
abbrev big : Int := 1073741824
structure Wrong where
  op : ByteArray
  at' : Int
  code : Int
abbrev bs (l : List UInt8) : ByteArray := ⟨⟨l⟩⟩
def numsW (r : Record) : Wrong :=
  if !numB r.broker (hasB r.kind 98) 1 64 then ⟨bs [98, 114, 111, 107, 101, 114], r.broker, 2⟩
  else if !numB r.epoch (hasB r.kind 101) 0 1073741824 then ⟨bs [101, 112, 111, 99, 104], r.epoch, 2⟩
  else if !numB r.topic (hasB r.kind 116) (lowT r.kind) 1073741824 then ⟨bs [116, 111, 112, 105, 99], r.topic, 2⟩
  else if !numB r.part (hasB r.kind 112) 0 255 then ⟨bs [112, 97, 114, 116], r.part, 2⟩
  else if !numB r.leader (hasB r.kind 108) 0 64 then ⟨bs [108, 101, 97, 100, 101, 114], r.leader, 2⟩
  else if !numB r.client (hasB r.kind 97) 1 1073741824 || !numB r.serial (hasB r.kind 97) 1 1073741824 || !numB r.code (hasB r.kind 97) 0 21 then ⟨bs [97, 115, 107, 101, 114], r.client, 2⟩
  else ⟨bs [], 0, 0⟩
def nmB (s : ByteArray) (a : Bool) : Bool := if a then nameB s else s.toList == []
def rwB (l : List Int) (a : Bool) : Bool := if a then brokersB l else l.length == 0
def checkW (r : Record) : Wrong :=
  if r.kind < 1 ∨ 12 < r.kind then ⟨bs [107, 105, 110, 100], r.kind, 5⟩
  else if (numsW r).code ≠ 0 then numsW r
  else if r.flag && !hasB r.kind 102 then ⟨bs [102, 108, 97, 103], 1, 1⟩
  else if !nmB r.name (hasB r.kind 110) || !nmB r.key (hasB r.kind 107) || !nmB r.rack (hasB r.kind 114) then ⟨bs [110, 97, 109, 101], r.name.size, 1⟩
  else if 256 < (r.value.size : Int) ∨ (r.value.toList ≠ [] ∧ (r.flag = true ∨ hasB r.kind 118 = false)) then ⟨bs [118, 97, 108, 117, 101], r.value.size, 6⟩
  else if !rwB r.ids (hasB r.kind 105) || !rwB r.isr (hasB r.kind 109) || !rwB r.add (hasB r.kind 120) || !rwB r.drop (hasB r.kind 120) then ⟨bs [114, 111, 119], r.ids.length, 18⟩
  else ⟨bs [], 0, 0⟩
def Image.right (m : Image) (p : Part) : Int :=
  if p.ids.length = 0 then 18
  else if p.ids.any (fun n => (m.broker n).isNone) then 18
  else if p.isr.length = 0 then 18
  else if p.isr.any (fun n => !p.ids.contains n) then 18
  else if p.leader ≠ 0 ∧ (p.isr.contains p.leader = false ∨ m.alive p.leader = false) then 17
  else if p.add.any (fun n => !p.ids.contains n || p.drop.contains n) then 18
  else if p.drop.any (fun n => !p.ids.contains n) then 18
  else 0
theorem foldl_drop {α β : Type} {f : β → α → β} {l : List α} {i : Nat} (hi : i < l.length) (s : β) : (l.drop i).foldl f s = (l.drop (i + 1)).foldl f (f s l[i]) := by rw [List.drop_eq_getElem_cons hi]; rfl
theorem drop_cons {α : Type} {l : List α} {i : Nat} (hi : i < l.length) : l.drop i = l[i] :: l.drop (i + 1) := List.drop_eq_getElem_cons hi
theorem drop_nil {α : Type} {l : List α} {i : Nat} (hi : l.length ≤ i) : l.drop i = [] := List.drop_eq_nil_of_le hi
def zM : Image := ⟨[], [], [], [], 0⟩
def Part.same (a b : Part) : Bool := a.leader == b.leader && a.epoch == b.epoch && a.ids == b.ids && a.isr == b.isr && a.add == b.add && a.drop == b.drop
def setAt {α : Type} (l : List α) (n : Nat) (x : α) : List α := l.take n ++ x :: l.drop (n + 1)
def Record.toPart (r : Record) : Part := ⟨r.ids, r.isr, r.leader, r.epoch, r.add, r.drop⟩
def Image.brokerRec (m : Image) (r : Record) : Image × Int :=
  match m.broker r.broker with
  | none => (m, 8)
  | some b =>
    if b.epoch ≠ r.epoch then (m, 11)
    else if r.kind = 3 then (if b.fenced || m.any (fun p => p.leader == b.id) then (m, 10) else ({ m with brokers := putB m.brokers { b with fenced := true } }, 0))
    else if r.kind = 4 then (if !b.fenced then (m, 10) else ({ m with brokers := putB m.brokers { b with fenced := false, leaving := false } }, 0))
    else if r.kind = 5 then (if b.fenced || b.leaving then (m, 10) else ({ m with brokers := putB m.brokers { b with leaving := true } }, 0))
    else if m.any (fun p => p.ids.contains b.id) then (m, 10) else ({ m with brokers := m.brokers.filter fun x => x.id != b.id }, 0)
def Image.putPart (m : Image) (id : Int) (n : Nat) (p : Part) : Image :=
  { m with topics := m.topics.map fun t => if t.id = id then { t with parts := setAt t.parts n p } else t }
def Image.partRec (m : Image) (r : Record) : Image × Int :=
  match m.topic r.topic with
  | none => (m, 8)
  | some t =>
    if m.right r.toPart ≠ 0 then (m, m.right r.toPart)
    else if r.kind = 8 then (if r.part ≠ t.parts.length then (m, 10) else (m.putPart r.topic r.part.toNat r.toPart, 0))
    else if (t.parts.length : Int) ≤ r.part then (m, 8)
    else if r.epoch < (t.parts[r.part.toNat]?.getD zP).epoch ∨ (t.parts[r.part.toNat]?.getD zP).epoch + 1 < r.epoch ∨ (r.epoch = (t.parts[r.part.toNat]?.getD zP).epoch ∧ r.leader ≠ (t.parts[r.part.toNat]?.getD zP).leader) then (m, 11)
    else if (t.parts[r.part.toNat]?.getD zP).same r.toPart then (m, 10)
    else (m.putPart r.topic r.part.toNat r.toPart, 0)
def Image.dropRec (m : Image) (id : Int) : Image × Int :=
  if (m.topic id).isNone then (m, 8)
  else ({ m with topics := m.topics.filter (fun t => t.id != id), configs := m.configs.filter (fun c => c.topic != id) }, 0)
def putCStep (r : Record) (s : List Config × Bool) (c : Config) : List Config × Bool :=
  let s1 := if !s.2 && (decide (r.topic < c.topic) || (c.topic == r.topic && !Op.bytesLess c.key.toList r.key.toList)) then (s.1 ++ [⟨r.topic, r.key, r.value⟩], true) else s
  (if c.topic != r.topic || !(c.key.toList == r.key.toList) then s1.1 ++ [c] else s1.1, s1.2)
def putC (l : List Config) (r : Record) : List Config :=
  let s := l.foldl (putCStep r) ([], r.flag)
  if s.2 then s.1 else s.1 ++ [⟨r.topic, r.key, r.value⟩]
def Image.configRec (m : Image) (r : Record) : Image × Int :=
  if (m.topic r.topic).isNone ∧ r.topic ≠ 0 then (m, 8)
  else if r.flag = true ∧ (m.config r.topic r.key).isNone then (m, 8)
  else ({ m with configs := putC m.configs r }, 0)
def Image.doneRec (m : Image) (r : Record) : Image × Int :=
  if (m.answered r.client r.serial).isSome then (m, 9)
  else ({ m with done := m.done.drop (m.done.length - 63) ++ [⟨r.client, r.serial, r.code⟩] }, 0)
def Image.apply (m : Image) (r : Record) : Image × Int :=
  if (checkW r).code ≠ 0 then (m, (checkW r).code)
  else if r.kind = 2 then m.register r
  else if r.kind = 3 ∨ r.kind = 4 ∨ r.kind = 5 ∨ r.kind = 6 then m.brokerRec r
  else if r.kind = 8 ∨ r.kind = 9 then m.partRec r
  else if r.kind = 7 then m.addTopic r
  else if r.kind = 11 then m.dropRec r.topic
  else if r.kind = 10 then m.configRec r
  else if r.kind = 12 then m.doneRec r
  else (m, 0)
def Image.allFrom (m0 : Image) : Image → List Record → Image × Int
  | out, [] => (out, 0)
  | out, r :: l => if (out.apply r).2 ≠ 0 then (m0, (out.apply r).2) else allFrom m0 (out.apply r).1 l
def Image.all (m : Image) (l : List Record) : Image × Int := m.allFrom m l
def madeFrom (m : Image) (l : List Record) : Image := l.foldl (fun m r => (m.apply r).1) m
def made (l : List Record) : Image := madeFrom zM l
structure Image.Pre (m : Image) : Prop where
  bl : m.brokers.length ≤ 1000
  tl : m.topics.length ≤ 1000
  cl : m.configs.length ≤ 1000
  dl : m.done.length ≤ 1000
  pl : ∀ t ∈ m.topics, t.parts.length ≤ 1000
  ti : m.topics.Pairwise fun a b => a.id < b.id
  ep : ∀ t ∈ m.topics, ∀ p ∈ t.parts, 0 ≤ p.epoch ∧ p.epoch ≤ 1000000
theorem topic_unique {m : Image} (hs : m.topics.Pairwise fun a b => a.id < b.id) {id : Int} {t u : Topic} (ht : m.topic id = some t) (hu : u ∈ m.topics) (e : u.id = id) : u = t := by
  have h1 := List.mem_of_find?_eq_some ht
  have h2 : t.id = id := by simpa using List.find?_some ht
  obtain ⟨i, hi, rfl⟩ := List.getElem_of_mem hu
  obtain ⟨j, hj, rfl⟩ := List.getElem_of_mem h1
  rw [List.pairwise_iff_getElem] at hs
  rcases Nat.lt_trichotomy i j with h | rfl | h
  · have := hs i j hi hj h; omega
  · rfl
  · have := hs j i hj hi h; omega
end
end Go.Am
end
section
namespace Go.Am
open Go
noncomputable section
theorem nums_iff (r : Record) : (numsW r).code = 0 ↔ numB r.broker (hasB r.kind 98) 1 64 = true ∧ numB r.epoch (hasB r.kind 101) 0 1073741824 = true ∧ numB r.topic (hasB r.kind 116) (lowT r.kind) 1073741824 = true ∧ numB r.part (hasB r.kind 112) 0 255 = true ∧ numB r.leader (hasB r.kind 108) 0 64 = true ∧
    numB r.client (hasB r.kind 97) 1 1073741824 = true ∧ numB r.serial (hasB r.kind 97) 1 1073741824 = true ∧ numB r.code (hasB r.kind 97) 0 21 = true := by
  unfold numsW
  (repeat' split) <;> first | (simp_all; done) | grind
structure Record.Chk (r : Record) : Prop where
  kind : 1 ≤ r.kind ∧ r.kind ≤ 12
  nums : numB r.broker (hasB r.kind 98) 1 64 = true ∧ numB r.epoch (hasB r.kind 101) 0 1073741824 = true ∧ numB r.topic (hasB r.kind 116) (lowT r.kind) 1073741824 = true ∧ numB r.part (hasB r.kind 112) 0 255 = true ∧ numB r.leader (hasB r.kind 108) 0 64 = true ∧
    numB r.client (hasB r.kind 97) 1 1073741824 = true ∧ numB r.serial (hasB r.kind 97) 1 1073741824 = true ∧ numB r.code (hasB r.kind 97) 0 21 = true
  flag : r.flag = true → hasB r.kind 102 = true
  names : nmB r.name (hasB r.kind 110) = true ∧ nmB r.key (hasB r.kind 107) = true ∧ nmB r.rack (hasB r.kind 114) = true
  value : (r.value.size : Int) ≤ 256 ∧ (r.value.toList = [] ∨ (r.flag = false ∧ hasB r.kind 118 = true))
  rows : rwB r.ids (hasB r.kind 105) = true ∧ rwB r.isr (hasB r.kind 109) = true ∧ rwB r.add (hasB r.kind 120) = true ∧ rwB r.drop (hasB r.kind 120) = true
theorem check_iff (r : Record) : (checkW r).code = 0 ↔ r.Chk := by
  constructor
  · intro h
    unfold checkW at h
    split at h
    · simp at h
    split at h
    · simp_all
    split at h
    · simp at h
    split at h
    · simp at h
    split at h
    · simp at h
    split at h
    · simp at h
    rename_i h1 h2 h3 h4 h5 h6
    refine ⟨by omega, (nums_iff r).1 (by simpa using h2), ?_, ?_, ?_, ?_⟩
    · intro hf; simpa [hf] using h3
    · simp at h4; exact ⟨h4.1.1, h4.1.2, h4.2⟩
    · constructor
      · omega
      · by_cases hv : r.value.toList = []
        · exact .inl hv
        · right
          simp only [not_or, not_and, ne_eq] at h5
          have := h5.2 hv
          simpa using this
    · simp at h6; exact ⟨h6.1.1.1, h6.1.1.2, h6.1.2, h6.2⟩
  · intro h
    unfold checkW
    rw [if_neg (by have := h.kind; omega), if_neg (by simp [(nums_iff r).2 h.nums]), if_neg, if_neg, if_neg, if_neg]
    · simp [h.rows.1, h.rows.2.1, h.rows.2.2.1, h.rows.2.2.2]
    · intro hc
      rcases hc with hc | ⟨h1, h2⟩
      · have := h.value.1; omega
      · rcases h.value.2 with h3 | ⟨h3, h4⟩
        · exact h1 h3
        · simp_all
    · simp [h.names.1, h.names.2.1, h.names.2.2]
    · intro hc; simp at hc; have := h.flag hc.1; simp_all
theorem check_part {r : Record} (hc : (checkW r).code = 0) (hk : r.kind = 8 ∨ r.kind = 9) : 0 ≤ r.part ∧ r.part ≤ 255 := by
  have h := ((check_iff r).1 hc).nums.2.2.2.1
  rcases hk with hk | hk <;> rw [hk] at h <;> simpa [numB, hasB, abouts] using h
end
end Go.Am
end
section
namespace Go.Am
open Go
noncomputable section
abbrev srtB (l : List Broker) : Prop := l.Pairwise fun a b => a.id < b.id
theorem putB_done (b : Broker) : ∀ (l : List Broker) (acc : List Broker), l.foldl (putStep b) (acc, true) = (acc ++ l.filter (fun x => x.id != b.id), true) := by
  intro l
  induction l with
  | nil => intro acc; simp
  | cons x l ih =>
    intro acc
    simp only [List.foldl_cons, putStep, Bool.not_true, Bool.false_and, Bool.false_eq_true, if_false, List.filter_cons]
    split
    · rw [ih]; simp
    · rw [ih]
theorem putB_from (b : Broker) : ∀ (l : List Broker) (acc : List Broker), srtB l →
    (let s := l.foldl (putStep b) (acc, false); if s.2 then s.1 else s.1 ++ [b]) = acc ++ l.filter (fun x => decide (x.id < b.id)) ++ b :: l.filter (fun x => decide (b.id < x.id)) := by
  intro l
  induction l with
  | nil => intro acc _; simp
  | cons x l ih =>
    intro acc hs
    rw [srtB, List.pairwise_cons] at hs
    by_cases hx : b.id ≤ x.id
    · have h1 : l.filter (fun y => decide (y.id < b.id)) = [] := by
        rw [List.filter_eq_nil_iff]; intro y hy; have := hs.1 y hy; simp; omega
      have h2 : l.filter (fun y => y.id != b.id) = l := by
        rw [List.filter_eq_self]; intro y hy; have := hs.1 y hy; simp; omega
      have h3 : l.filter (fun y => decide (b.id < y.id)) = l := by
        rw [List.filter_eq_self]; intro y hy; have := hs.1 y hy; simp; omega
      simp only [List.foldl_cons, putStep, Bool.not_false, Bool.true_and, decide_eq_true_eq, hx, if_true, List.filter_cons]
      by_cases he : x.id = b.id
      · simp [he, putB_done, h1, h2, h3]
      · have hlt : b.id < x.id := by omega
        have hnl : ¬ x.id < b.id := by omega
        simp [he, putB_done, h1, h2, h3, hlt, hnl]
    · have hlt : x.id < b.id := by omega
      have hne : ¬ x.id = b.id := by omega
      have hng : ¬ b.id < x.id := by omega
      simp only [List.foldl_cons, putStep, Bool.not_false, Bool.true_and, decide_eq_true_eq, hx, if_false, List.filter_cons]
      have := ih (acc ++ [x]) hs.2
      simp [hne, hlt, hng] at this ⊢
      exact this
theorem putB_eq {l : List Broker} (b : Broker) (h : srtB l) : putB l b = l.filter (fun x => decide (x.id < b.id)) ++ b :: l.filter (fun x => decide (b.id < x.id)) := by
  have := putB_from b l [] h
  simpa [putB] using this
theorem putB_mem {l : List Broker} {b x : Broker} (h : srtB l) : x ∈ putB l b ↔ x = b ∨ (x ∈ l ∧ x.id ≠ b.id) := by
  rw [putB_eq b h]
  simp only [List.mem_append, List.mem_filter, List.mem_cons, decide_eq_true_eq]
  constructor
  · rintro (⟨h1, h2⟩ | rfl | ⟨h1, h2⟩)
    · exact .inr ⟨h1, by omega⟩
    · exact .inl rfl
    · exact .inr ⟨h1, by omega⟩
  · rintro (rfl | ⟨h1, h2⟩)
    · exact .inr (.inl rfl)
    · rcases Int.lt_or_gt_of_ne h2 with h | h
      · exact .inl ⟨h1, h⟩
      · exact .inr (.inr ⟨h1, h⟩)
theorem putB_srt {l : List Broker} {b : Broker} (h : srtB l) : srtB (putB l b) := by
  rw [putB_eq b h, srtB, List.pairwise_append]
  refine ⟨h.filter _, ?_, ?_⟩
  · rw [List.pairwise_cons]
    refine ⟨fun y hy => ?_, h.filter _⟩
    simpa using (List.mem_filter.1 hy).2
  · intro x hx y hy
    have h1 := (List.mem_filter.1 hx).2
    rcases List.mem_cons.1 hy with rfl | hy
    · simpa using h1
    · have h2 := (List.mem_filter.1 hy).2
      simp at h1 h2; omega
theorem find_srt {l : List Broker} (h : srtB l) {id : Int} {b : Broker} : l.find? (fun x => x.id == id) = some b ↔ b ∈ l ∧ b.id = id := by
  constructor
  · intro hf; exact ⟨List.mem_of_find?_eq_some hf, by simpa using List.find?_some hf⟩
  · rintro ⟨hm, rfl⟩
    induction l with
    | nil => simp at hm
    | cons x l ih =>
      rw [srtB, List.pairwise_cons] at h
      rw [List.find?_cons]
      rcases List.mem_cons.1 hm with rfl | hm
      · simp
      · have := h.1 b hm
        have hne : (x.id == b.id) = false := by simp; omega
        rw [hne]; exact ih h.2 hm
theorem find_none_srt {l : List Broker} {id : Int} : l.find? (fun x => x.id == id) = none ↔ ∀ b ∈ l, b.id ≠ id := by
  rw [List.find?_eq_none]; simp
theorem broker_put {l : List Broker} {b : Broker} (h : srtB l) (id : Int) : (putB l b).find? (fun x => x.id == id) = if id = b.id then some b else l.find? (fun x => x.id == id) := by
  split
  · rename_i e; subst e
    rw [find_srt (putB_srt h)]; exact ⟨(putB_mem h).2 (.inl rfl), rfl⟩
  · rename_i e
    cases hf : l.find? (fun x => x.id == id) with
    | none =>
      rw [find_none_srt] at hf ⊢
      intro x hx
      rcases (putB_mem h).1 hx with rfl | ⟨hx, _⟩
      · exact fun e' => e e'.symm
      · exact hf x hx
    | some y =>
      rw [find_srt h] at hf
      rw [find_srt (putB_srt h)]
      exact ⟨(putB_mem h).2 (.inr ⟨hf.1, by rw [hf.2]; exact e⟩), hf.2⟩
theorem putB_len (l : List Broker) (b : Broker) (h : srtB l) : (putB l b).length ≤ l.length + 1 := by
  have aux : ∀ (l : List Broker), srtB l → (l.filter (fun x => decide (x.id < b.id))).length + (l.filter (fun x => decide (b.id < x.id))).length ≤ l.length := by
    intro l
    induction l with
    | nil => simp
    | cons x l ih =>
      intro h
      have := ih (List.pairwise_cons.1 h).2
      simp only [List.filter_cons, List.length_cons]
      by_cases h1 : x.id < b.id
      · have h2 : ¬ b.id < x.id := by omega
        simp [h1, h2]; omega
      · by_cases h2 : b.id < x.id <;> simp [h1, h2] <;> omega
  rw [putB_eq b h]
  have := aux l h
  simp; omega
structure Image.Right (m : Image) (p : Part) : Prop where
  ids : p.ids ≠ []
  reg : ∀ n ∈ p.ids, (m.broker n).isSome = true
  isr : p.isr ≠ []
  sub : ∀ n ∈ p.isr, n ∈ p.ids
  lead : p.leader ≠ 0 → p.leader ∈ p.isr ∧ m.alive p.leader = true
  add : ∀ n ∈ p.add, n ∈ p.ids ∧ n ∉ p.drop
  drop : ∀ n ∈ p.drop, n ∈ p.ids
theorem right_iff {m : Image} {p : Part} : m.right p = 0 ↔ m.Right p := by
  unfold Image.right
  constructor
  · intro h
    split at h
    · simp at h
    split at h
    · simp at h
    split at h
    · simp at h
    split at h
    · simp at h
    split at h
    · simp at h
    split at h
    · simp at h
    split at h
    · simp at h
    rename_i h1 h2 h3 h4 h5 h6 h7
    refine ⟨by simpa using h1, ?_, by simpa using h3, by simpa using h4, ?_, ?_, by simpa using h7⟩
    · intro n hn
      simp only [List.any_eq_true, not_exists, not_and] at h2
      have := h2 n hn
      cases hb : m.broker n <;> simp_all
    · intro hl
      simp only [ne_eq, not_and, not_or] at h5
      have := h5 hl
      simpa using this
    · intro n hn
      simp only [List.any_eq_true, not_exists, not_and] at h6
      have := h6 n hn
      simpa using this
  · intro h
    rw [if_neg (by simpa using h.ids), if_neg, if_neg (by simpa using h.isr), if_neg (by simpa using h.sub), if_neg, if_neg, if_neg (by simpa using h.drop)]
    · simp only [List.any_eq_true, not_exists, not_and]
      intro n hn
      have := h.add n hn
      simp [this.1, this.2]
    · rintro ⟨h1, h2⟩
      have := h.lead h1
      simp_all
    · simp only [List.any_eq_true, not_exists, not_and]
      intro n hn
      have := h.reg n hn
      cases hb : m.broker n <;> simp_all
theorem Image.Right.mono {m m' : Image} {p : Part} (h : m.Right p) (h1 : ∀ n ∈ p.ids, (m.broker n).isSome = true → (m'.broker n).isSome = true) (h2 : p.leader ≠ 0 → m.alive p.leader = true → m'.alive p.leader = true) : m'.Right p :=
  ⟨h.ids, fun n hn => h1 n hn (h.reg n hn), h.isr, h.sub, fun hl => ⟨(h.lead hl).1, h2 hl (h.lead hl).2⟩, h.add, h.drop⟩
structure Part.Rows (p : Part) (n : Nat) : Prop where
  ids : brokersB p.ids = true
  isr : brokersB p.isr = true
  add : brokersB p.add = true
  drop : brokersB p.drop = true
  ep : 0 ≤ p.epoch ∧ p.epoch ≤ n
  le : 0 ≤ p.leader ∧ p.leader ≤ 64
theorem brokersB_nil : brokersB [] = true := by simp [brokersB]
structure Image.Inv (m : Image) (n : Nat) : Prop where
  bs : srtB m.brokers
  br : ∀ b ∈ m.brokers, 1 ≤ b.id ∧ b.id ≤ 64 ∧ 0 ≤ b.epoch ∧ b.epoch ≤ 1073741824 ∧ nameB b.rack = true
  bl : m.brokers.length ≤ n
  ti : m.topics.Pairwise fun a b => a.id < b.id
  tr : ∀ t ∈ m.topics, 1 ≤ t.id ∧ t.id ≤ m.last
  tn : m.topics.Pairwise fun a b => a.name.toList ≠ b.name.toList
  la : 0 ≤ m.last ∧ m.last ≤ n
  tl : m.topics.length ≤ n
  pl : ∀ t ∈ m.topics, t.parts.length ≤ n
  cl : m.configs.length ≤ n
  dl : m.done.length ≤ n
  pr : ∀ t ∈ m.topics, ∀ p ∈ t.parts, m.Right p ∧ p.Rows n
theorem Image.Inv.pre {m : Image} {n : Nat} (h : m.Inv n) (hn : n ≤ 1000) : m.Pre :=
  ⟨by have := h.bl; omega, by have := h.tl; omega, by have := h.cl; omega, by have := h.dl; omega, fun t ht => by have := h.pl t ht; omega, h.ti, fun t ht p hp => by have := (h.pr t ht p hp).2.ep; omega⟩
theorem zM_inv : zM.Inv 0 := by constructor <;> simp [zM]
theorem Part.Rows.mono {p : Part} {n k : Nat} (h : p.Rows n) (hk : n ≤ k) : p.Rows k := ⟨h.ids, h.isr, h.add, h.drop, by have := h.ep; omega, h.le⟩
theorem Image.Inv.mono {m : Image} {n k : Nat} (h : m.Inv n) (hk : n ≤ k) : m.Inv k :=
  ⟨h.bs, h.br, by have := h.bl; omega, h.ti, h.tr, h.tn, by have := h.la; omega, by have := h.tl; omega, fun t ht => by have := h.pl t ht; omega, by have := h.cl; omega, by have := h.dl; omega,
    fun t ht p hp => ⟨(h.pr t ht p hp).1, (h.pr t ht p hp).2.mono hk⟩⟩
theorem Image.Inv.setB {m : Image} {n : Nat} (h : m.Inv n) {l : List Broker} (h1 : srtB l) (h2 : ∀ b ∈ l, 1 ≤ b.id ∧ b.id ≤ 64 ∧ 0 ≤ b.epoch ∧ b.epoch ≤ 1073741824 ∧ nameB b.rack = true) (h3 : l.length ≤ n + 1)
    (h4 : ∀ t ∈ m.topics, ∀ p ∈ t.parts, ({ m with brokers := l } : Image).Right p) : ({ m with brokers := l } : Image).Inv (n + 1) :=
  ⟨h1, h2, h3, h.ti, h.tr, h.tn, by have := h.la; simp only; omega, by have := h.tl; simp only; omega, fun t ht => by have := h.pl t ht; omega, by have := h.cl; simp only; omega, by have := h.dl; simp only; omega,
    fun t ht p hp => ⟨h4 t ht p hp, (h.pr t ht p hp).2.mono (by omega)⟩⟩
theorem any_false {m : Image} {f : Part → Bool} (h : m.any f = false) {t : Topic} (ht : t ∈ m.topics) {p : Part} (hp : p ∈ t.parts) : f p = false := by
  simp only [Image.any, Topic.any, List.any_eq_false] at h
  have := h t ht
  simp only [Bool.not_eq_true, List.any_eq_false] at this
  simpa using this p hp
theorem Image.Inv.putB {m : Image} {n : Nat} (h : m.Inv n) {b : Broker} (hb : 1 ≤ b.id ∧ b.id ≤ 64 ∧ 0 ≤ b.epoch ∧ b.epoch ≤ 1073741824 ∧ nameB b.rack = true) (hl : b.fenced = false ∨ m.any (fun p => p.leader == b.id) = false) : ({ m with brokers := Am.putB m.brokers b } : Image).Inv (n + 1) := by
  have hf : ∀ id, ({ m with brokers := Am.putB m.brokers b } : Image).broker id = if id = b.id then some b else m.broker id := fun id => broker_put h.bs id
  refine h.setB (putB_srt h.bs) ?_ ?_ ?_
  · intro x hx
    rcases (putB_mem h.bs).1 hx with rfl | ⟨hx, _⟩
    · exact hb
    · exact h.br x hx
  · have := putB_len m.brokers b h.bs; have := h.bl; omega
  · intro t ht p hp
    refine (h.pr t ht p hp).1.mono ?_ ?_
    · intro k hk hs
      rw [hf]; split
      · rfl
      · exact hs
    · intro hl0 ha
      unfold Image.alive
      rw [hf]
      by_cases e : p.leader = b.id
      · rw [if_pos e]
        rcases hl with hl | hl
        · simp [hl]
        · have := any_false hl ht hp
          simp at this; exact absurd e this
      · rw [if_neg e]; exact ha
theorem setAt_mem {α : Type} {l : List α} {n : Nat} {x y : α} (h : y ∈ setAt l n x) : y = x ∨ y ∈ l := by
  simp only [setAt, List.mem_append, List.mem_cons] at h
  rcases h with h | rfl | h
  · exact .inr (List.mem_of_mem_take h)
  · exact .inl rfl
  · exact .inr (List.mem_of_mem_drop h)
theorem setAt_len {α : Type} (l : List α) (n : Nat) (x : α) : (setAt l n x).length ≤ l.length + 1 := by
  simp only [setAt, List.length_append, List.length_take, List.length_cons, List.length_drop]; omega
theorem Image.Inv.putPart {m : Image} {n : Nat} (h : m.Inv n) (id : Int) (k : Nat) {p : Part} (hr : m.Right p) (hp : p.Rows (n + 1)) : (m.putPart id k p).Inv (n + 1) := by
  have e : ∀ t ∈ (m.putPart id k p).topics, ∃ u ∈ m.topics, t.id = u.id ∧ t.name = u.name ∧ (t.parts = u.parts ∨ t.parts = setAt u.parts k p) := by
    intro t ht
    simp only [Image.putPart, List.mem_map] at ht
    obtain ⟨u, hu, rfl⟩ := ht
    refine ⟨u, hu, ?_⟩
    split <;> simp
  refine ⟨h.bs, h.br, by have := h.bl; simp only [Image.putPart]; omega, ?_, ?_, ?_, by have := h.la; simp only [Image.putPart]; omega, by have := h.tl; simp only [Image.putPart, List.length_map]; omega, ?_, by have := h.cl; simp only [Image.putPart]; omega, by have := h.dl; simp only [Image.putPart]; omega, ?_⟩
  · simp only [Image.putPart, List.pairwise_map]
    refine h.ti.imp ?_
    intro a b hab; split <;> split <;> exact hab
  · intro t ht
    obtain ⟨u, hu, e1, _⟩ := e t ht
    rw [e1]; exact h.tr u hu
  · simp only [Image.putPart, List.pairwise_map]
    refine h.tn.imp ?_
    intro a b hab; split <;> split <;> exact hab
  · intro t ht
    obtain ⟨u, hu, _, _, e1 | e1⟩ := e t ht
    · rw [e1]; have := h.pl u hu; omega
    · rw [e1]; have := h.pl u hu; have := setAt_len u.parts k p; omega
  · intro t ht q hq
    have hm : ∀ q, m.Right q → (m.putPart id k p).Right q := fun q hq => hq.mono (fun _ _ h => h) (fun _ h => h)
    obtain ⟨u, hu, _, _, e1 | e1⟩ := e t ht
    · rw [e1] at hq; exact ⟨hm _ (h.pr u hu q hq).1, (h.pr u hu q hq).2.mono (by omega)⟩
    · rw [e1] at hq
      rcases setAt_mem hq with rfl | hq
      · exact ⟨hm _ hr, hp⟩
      · exact ⟨hm _ (h.pr u hu q hq).1, (h.pr u hu q hq).2.mono (by omega)⟩
theorem putC_len (l : List Config) (r : Record) : (putC l r).length ≤ l.length + 1 := by
  have hd : ∀ (l : List Config) (acc : List Config), (l.foldl (putCStep r) (acc, true)).2 = true ∧ (l.foldl (putCStep r) (acc, true)).1.length ≤ acc.length + l.length := by
    intro l
    induction l with
    | nil => intro acc; simp
    | cons c l ih =>
      intro acc
      simp only [List.foldl_cons, putCStep, Bool.not_true, Bool.false_and, Bool.false_eq_true, if_false]
      split
      · have := ih (acc ++ [c]); simp at this ⊢; exact ⟨this.1, by omega⟩
      · have := ih acc; simp at this ⊢; exact ⟨this.1, by omega⟩
  have hn : ∀ (l : List Config) (acc : List Config), (let s := l.foldl (putCStep r) (acc, false); if s.2 then s.1.length else s.1.length + 1) ≤ acc.length + l.length + 1 := by
    intro l
    induction l with
    | nil => intro acc; simp
    | cons c l ih =>
      intro acc
      simp only [List.foldl_cons, putCStep, Bool.not_false, Bool.true_and]
      by_cases hc : (decide (r.topic < c.topic) || c.topic == r.topic && !Op.bytesLess c.key.toList r.key.toList) = true
      · simp only [hc, if_true]
        split
        · have := hd l (acc ++ [⟨r.topic, r.key, r.value⟩] ++ [c]); simp at this ⊢; rw [this.1]; simp; omega
        · have := hd l (acc ++ [⟨r.topic, r.key, r.value⟩]); simp at this ⊢; rw [this.1]; simp; omega
      · simp only [hc, if_false, Bool.false_eq_true]
        split
        · have := ih (acc ++ [c]); simp at this ⊢; omega
        · have := ih acc; simp at this ⊢; omega
  unfold putC
  cases hf : r.flag with
  | true => have := hd l []; simp at this ⊢; rw [this.1]; simp; omega
  | false =>
    have := hn l []
    simp only at this ⊢
    split at this <;> rename_i hc <;> simp [hc] at this ⊢ <;> omega
theorem i64_wrap {n : Int} (h : -9223372036854775808 ≤ n ∧ n ≤ 9223372036854775807) : IntKind.i64.wrap n = n := by
  simp [IntKind.wrap, IntKind.bits, IntKind.signed, Int.bmod]; omega
theorem Image.Inv.apply {m : Image} {n : Nat} (h : m.Inv n) (hn : n ≤ 1000000) (r : Record) : (m.apply r).1.Inv (n + 1) := by
  have hm : m.Inv (n + 1) := h.mono (by omega)
  unfold Image.apply
  split
  · exact hm
  rename_i hc
  have hc : r.Chk := (check_iff r).1 (by simpa using hc)
  split
  · rename_i hk
    unfold Image.register
    split
    · exact hm
    split
    · exact hm
    rename_i h1 h2
    have hnm := hc.nums
    have hnn := hc.names
    rw [hk] at hnm hnn
    simp [numB, hasB, abouts, nmB] at hnm hnn
    refine h.putB ⟨by simp only; omega, by simp only; omega, by simp only; omega, by simp only; omega, hnn.2.2⟩ ?_
    right
    simp only [Bool.and_eq_true, not_and, Bool.not_eq_true] at h2
    cases hb : (m.broker r.broker).isSome with
    | true => exact h2 hb
    | false =>
      simp only [Image.any, Topic.any, List.any_eq_false]
      intro t ht
      simp only [Bool.not_eq_true, List.any_eq_false, beq_iff_eq]
      intro p hp e
      have hr := (h.pr t ht p hp).1
      have hne : p.leader ≠ 0 := by omega
      have := hr.reg _ (hr.sub _ (hr.lead hne).1)
      rw [e, hb] at this; simp at this
  split
  · rename_i hk
    unfold Image.brokerRec
    split
    · exact hm
    rename_i b hb
    have hbm : b ∈ m.brokers ∧ b.id = r.broker := (find_srt h.bs).1 hb
    have hbr := h.br b hbm.1
    split
    · exact hm
    split
    · split
      · exact hm
      · rename_i hx
        simp only [Bool.or_eq_true, not_or, Bool.not_eq_true] at hx
        exact h.putB hbr (.inr hx.2)
    split
    · split
      · exact hm
      · exact h.putB hbr (.inl rfl)
    split
    · split
      · exact hm
      · rename_i hx
        simp only [Bool.or_eq_true, not_or, Bool.not_eq_true] at hx
        exact h.putB hbr (.inl hx.1)
    split
    · exact hm
    · rename_i hx
      simp only [Bool.not_eq_true] at hx
      have hfi : ∀ k, k ≠ b.id → ({ m with brokers := m.brokers.filter fun x => x.id != b.id } : Image).broker k = m.broker k := by
        intro k hk
        unfold Image.broker
        rw [List.find?_filter]
        congr 1; funext x
        by_cases hxk : x.id = k
        · subst hxk; simp [hk]
        · simp [hxk]
      refine h.setB (h.bs.filter _) (fun x hx => h.br x (List.mem_filter.1 hx).1) (by have := h.bl; have := List.length_filter_le (fun x => x.id != b.id) m.brokers; omega) ?_
      intro t ht p hp
      have hr := (h.pr t ht p hp).1
      have hnu : b.id ∉ p.ids := by have := any_false hx ht hp; simpa using this
      refine hr.mono ?_ ?_
      · intro k hk hs
        rw [hfi k (fun e => hnu (e ▸ hk))]; exact hs
      · intro hl ha
        unfold Image.alive at ha ⊢
        rw [hfi _ (fun e => hnu (e ▸ hr.sub _ (hr.lead hl).1))]; exact ha
  split
  · rename_i hk
    unfold Image.partRec
    split
    · exact hm
    rename_i t ht
    have htm := List.mem_of_find?_eq_some ht
    split
    · exact hm
    rename_i hr
    have hr : m.Right r.toPart := right_iff.1 (by simpa using hr)
    have hrow : ∀ e : Int, (r.epoch = 0 ∨ (0 ≤ e ∧ e ≤ n ∧ e ≤ r.epoch ∧ r.epoch ≤ e + 1)) → r.toPart.Rows (n + 1) := by
      intro e he
      have h1 := hc.rows
      have h2 := hc.nums
      rcases hk with hk | hk
      · rw [hk] at h1 h2
        simp [rwB, hasB, abouts, numB] at h1 h2
        refine ⟨decide_eq_true h1.1, decide_eq_true h1.2.1, ?_, ?_, by simp only [Record.toPart]; omega, by simp only [Record.toPart]; omega⟩
        · simp only [Record.toPart, h1.2.2.1]; exact brokersB_nil
        · simp only [Record.toPart, h1.2.2.2]; exact brokersB_nil
      · rw [hk] at h1 h2
        simp [rwB, hasB, abouts, numB] at h1 h2
        exact ⟨decide_eq_true h1.1, decide_eq_true h1.2.1, decide_eq_true h1.2.2.1, decide_eq_true h1.2.2.2, by simp only [Record.toPart]; omega, by simp only [Record.toPart]; omega⟩
    split
    · split
      · exact hm
      · rename_i hk8 _
        refine h.putPart _ _ hr (hrow 0 (.inl ?_))
        have := hc.nums.2.1
        rw [hk8] at this
        simpa [numB, hasB, abouts] using this
    split
    · exact hm
    split
    · exact hm
    split
    · exact hm
    rename_i hk8 hpl hep hsame
    have hpp := check_part ((check_iff r).2 hc) hk
    have hlt : r.part.toNat < t.parts.length := by omega
    rw [List.getElem?_eq_getElem hlt] at hep
    simp only [Option.getD_some, not_or, not_and] at hep
    have := (h.pr t htm t.parts[r.part.toNat] (List.getElem_mem hlt)).2.ep
    exact h.putPart _ _ hr (hrow t.parts[r.part.toNat].epoch (.inr ⟨by omega, by omega, by omega, by omega⟩))
  split
  · rename_i hk
    unfold Image.addTopic
    split
    · exact hm
    split
    · exact hm
    split
    · exact hm
    rename_i h1 h2 h3
    have hla := h.la
    have hid : r.topic = m.last + 1 := by
      rw [i64_wrap (by omega)] at h1; simpa using h1
    have hR : ∀ q, m.Right q → ({ m with topics := m.topics ++ [⟨r.topic, r.name, []⟩], last := r.topic } : Image).Right q := fun q hq => hq.mono (fun _ _ h => h) (fun _ h => h)
    refine ⟨h.bs, h.br, by have := h.bl; simp only; omega, ?_, ?_, ?_, by simp only; omega, by have := h.tl; simp; omega, ?_, by have := h.cl; simp only; omega, by have := h.dl; simp only; omega, ?_⟩
    · rw [List.pairwise_append]
      refine ⟨h.ti, by simp, ?_⟩
      intro a ha b hb
      simp at hb; subst hb
      have := h.tr a ha
      simp only; omega
    · intro t ht
      simp only [List.mem_append, List.mem_singleton] at ht
      rcases ht with ht | rfl
      · have := h.tr t ht; simp only; omega
      · simp only; omega
    · rw [List.pairwise_append]
      refine ⟨h.tn, by simp, ?_⟩
      intro a ha b hb
      simp at hb; subst hb
      simp only [Image.named, Option.isSome_iff_ne_none, ne_eq, Classical.not_not, List.find?_eq_none, beq_iff_eq] at h2
      exact h2 a ha
    · intro t ht
      simp only [List.mem_append, List.mem_singleton] at ht
      rcases ht with ht | rfl
      · have := h.pl t ht; omega
      · simp
    · intro t ht p hp
      simp only [List.mem_append, List.mem_singleton] at ht
      rcases ht with ht | rfl
      · exact ⟨hR _ (h.pr t ht p hp).1, (h.pr t ht p hp).2.mono (by omega)⟩
      · simp at hp
  split
  · unfold Image.dropRec
    split
    · exact hm
    have hR : ∀ q, m.Right q → ({ m with topics := m.topics.filter (fun t => t.id != r.topic), configs := m.configs.filter (fun c => c.topic != r.topic) } : Image).Right q := fun q hq => hq.mono (fun _ _ h => h) (fun _ h => h)
    refine ⟨h.bs, h.br, by have := h.bl; simp only; omega, h.ti.filter _, fun t ht => h.tr t (List.mem_filter.1 ht).1, h.tn.filter _, by have := h.la; simp only; omega, ?_, fun t ht => by have := h.pl t (List.mem_filter.1 ht).1; omega, ?_, by have := h.dl; simp only; omega, ?_⟩
    · have := h.tl; have := List.length_filter_le (fun t : Topic => t.id != r.topic) m.topics; simp only; omega
    · have := h.cl; have := List.length_filter_le (fun t : Config => t.topic != r.topic) m.configs; simp only; omega
    · intro t ht p hp
      exact ⟨hR _ (h.pr t (List.mem_filter.1 ht).1 p hp).1, (h.pr t (List.mem_filter.1 ht).1 p hp).2.mono (by omega)⟩
  split
  · unfold Image.configRec
    split
    · exact hm
    split
    · exact hm
    have hR : ∀ q, m.Right q → ({ m with configs := putC m.configs r } : Image).Right q := fun q hq => hq.mono (fun _ _ h => h) (fun _ h => h)
    refine ⟨h.bs, h.br, hm.bl, h.ti, h.tr, h.tn, hm.la, hm.tl, hm.pl, ?_, hm.dl, fun t ht p hp => ⟨hR _ (h.pr t ht p hp).1, (hm.pr t ht p hp).2⟩⟩
    have := h.cl; have := putC_len m.configs r; simp only; omega
  split
  · unfold Image.doneRec
    split
    · exact hm
    have hR : ∀ q, m.Right q → ({ m with done := m.done.drop (m.done.length - 63) ++ [⟨r.client, r.serial, r.code⟩] } : Image).Right q := fun q hq => hq.mono (fun _ _ h => h) (fun _ h => h)
    refine ⟨h.bs, h.br, hm.bl, h.ti, h.tr, h.tn, hm.la, hm.tl, hm.pl, hm.cl, ?_, fun t ht p hp => ⟨hR _ (h.pr t ht p hp).1, (hm.pr t ht p hp).2⟩⟩
    have := h.dl; simp; omega
  · exact hm
theorem madeFrom_inv : ∀ (l : List Record) (m : Image) (n : Nat), m.Inv n → n + l.length ≤ 1000000 → (madeFrom m l).Inv (n + l.length) := by
  intro l
  induction l with
  | nil => intro m n h _; exact h
  | cons r l ih =>
    intro m n h hl
    simp only [List.length_cons] at hl ⊢
    have := ih (m.apply r).1 (n + 1) (h.apply (by omega) r) (by omega)
    have e : n + (l.length + 1) = n + 1 + l.length := by omega
    rw [e]; exact this
theorem made_inv (l : List Record) (h : l.length ≤ 1000000) : (made l).Inv l.length := by
  have := madeFrom_inv l zM 0 zM_inv (by omega)
  simpa [made] using this
end
end Go.Am
end
section
namespace Go.Am
open Go
noncomputable section
def idxI : List Int → Int → Nat → Int
  | [], _, _ => -1
  | x :: t, v, k => if v = x then (k : Int) else idxI t v (k + 1)
theorem idxI_nonneg : ∀ (l : List Int) (v : Int) (k : Nat), (0 ≤ idxI l v k) ↔ v ∈ l := by
  intro l
  induction l with
  | nil => intro v k; simp [idxI]
  | cons x l ih =>
    intro v k
    simp only [idxI, List.mem_cons]
    split
    · rename_i h; subst h; simp
    · rename_i h; rw [ih]; simp [h]
theorem idxI_lt : ∀ (l : List Int) (v : Int) (k : Nat), idxI l v k < k + l.length := by
  intro l
  induction l with
  | nil => intro v k; simp [idxI]; omega
  | cons x l ih =>
    intro v k
    simp only [idxI, List.length_cons]
    split
    · omega
    · have := ih v (k + 1); omega
theorem idxI_erase : ∀ (l : List Int) (v : Int) (k i : Nat), idxI l v k = ((k + i : Nat) : Int) → l.take i ++ l.drop (i + 1) = l.erase v := by
  intro l
  induction l with
  | nil => intro v k i h; simp [idxI] at h; omega
  | cons x l ih =>
    intro v k i h
    simp only [idxI] at h
    split at h
    · rename_i hx; subst hx
      have : i = 0 := by omega
      subst this; simp
    · rename_i hx
      have hlt := idxI_nonneg l v (k + 1)
      have hi : 0 < i := by
        by_cases hm : v ∈ l
        · have := hlt.2 hm
          have aux : ∀ (l : List Int) (k : Nat), v ∈ l → (k : Int) ≤ idxI l v k := by
            intro l
            induction l with
            | nil => simp
            | cons y l ih2 =>
              intro k hm
              simp only [idxI]
              split
              · omega
              · rename_i hy
                rcases List.mem_cons.1 hm with e | e
                · exact absurd e hy
                · have := ih2 (k + 1) e; omega
          have := aux l (k + 1) hm
          omega
        · have h2 : ¬ 0 ≤ idxI l v (k + 1) := fun hh => hm (hlt.1 hh)
          omega
      obtain ⟨j, rfl⟩ : ∃ j, i = j + 1 := ⟨i - 1, by omega⟩
      have := ih v (k + 1) j (by rw [h]; congr 1; omega)
      have hne : ¬ x = v := fun e => hx e.symm
      simp only [List.take_succ_cons, List.drop_succ_cons, List.cons_append, this]
      rw [List.erase_cons_tail (by simpa using hne)]
def Part.with (p : Part) (l : Int) : Part := if p.leader ≠ l then { p with leader := l, epoch := p.epoch + 1 } else p
def Image.fit (m : Image) (id : Int) (stays : Bool) : Bool := match m.broker id with | some b => !b.fenced && (!stays || !b.leaving) | none => false
def Image.mayLead (m : Image) (p : Part) (but : Int) (stays : Bool) (id : Int) : Bool := id != but && p.isr.contains id && m.fit id stays
def Image.chooseP (m : Image) (p : Part) (but : Int) : Int :=
  match p.ids.find? (m.mayLead p but true) with
  | some id => id
  | none => match p.ids.find? (m.mayLead p but false) with
    | some id => id
    | none => 0
def Image.chooseFrom (m : Image) (p : Part) (but : Int) : List Int → Int → Int
  | [], s => s
  | n :: l, s => match m.broker n with
    | none => chooseFrom m p but l s
    | some b =>
      if b.fenced = true ∨ b.id = but ∨ p.isr.contains b.id = false then chooseFrom m p but l s
      else if b.leaving = false then b.id
      else if s = 0 then chooseFrom m p but l b.id
      else chooseFrom m p but l s
def Image.chooseR (m : Image) (p : Part) (but : Int) : Int := m.chooseFrom p but p.ids 0
def Image.lose (m : Image) (p : Part) (id : Int) : Part :=
  let o := if p.leader = id then p.with (m.chooseP p id) else p
  if id ∈ o.isr ∧ 1 < o.isr.length ∧ o.leader ≠ 0 then { o with isr := o.isr.erase id } else o
def Image.gain (m : Image) (p : Part) : Part := if p.leader = 0 then p.with (m.chooseP p 0) else p
def change (topic : Int) (n : Nat) (p : Part) : Record := ⟨9, 0, p.epoch, topic, n, p.leader, 0, 0, 0, false, ⟨#[]⟩, ⟨#[]⟩, ⟨#[]⟩, ⟨#[]⟩, p.ids, p.isr, p.add, p.drop⟩
def changesT (f : Part → Part) (id : Int) : List Part → Nat → List Record
  | [], _ => []
  | p :: l, k => if p.same (f p) then changesT f id l (k + 1) else change id k (f p) :: changesT f id l (k + 1)
def Image.changes (m : Image) (f : Part → Part) : List Record := m.topics.flatMap fun t => changesT f t.id t.parts 0
def openB (id : Int) (b : Broker) : Broker := if b.id = id then { b with fenced := false, leaving := false } else b
def Image.opened (m : Image) (id : Int) : Image := { m with brokers := m.brokers.map (openB id) }
def Image.leave (m : Image) (id : Int) : List Record := m.changes fun p => m.lose p id
def Image.come (m : Image) (id : Int) : List Record := m.changes fun p => (m.opened id).gain p
def Image.flat (m : Image) : List (Int × Nat × Part) := m.topics.flatMap fun t => t.parts.zipIdx.map fun x => (t.id, x.2, x.1)
def Image.count (m : Image) : Nat := (m.topics.map fun t => t.parts.length).sum
def Image.pick (m : Image) (n : Int) : Option (Int × Nat × Part) := if m.count = 0 then none else m.flat[((IntKind.u64.wrap n).tmod m.count).toNat]?
end
end Go.Am
end
section
namespace Go.Am
open Go
noncomputable section
def posOf {α : Type} (f : α → Int) (l : List α) (n : Int) : Nat := l.countP fun x => decide (f x < n)
theorem pos_le {α : Type} (f : α → Int) (l : List α) (n : Int) : posOf f l n ≤ l.length := List.countP_le_length
theorem pos_iff {α : Type} {f : α → Int} : ∀ {l : List α} (n : Int), l.Pairwise (fun a b => f a < f b) → ∀ i (h : i < l.length), i < posOf f l n ↔ f l[i] < n := by
  intro l
  induction l with
  | nil => intro n _ i h; simp at h
  | cons x l ih =>
    intro n hs i h
    rw [List.pairwise_cons] at hs
    simp only [posOf, List.countP_cons]
    by_cases hx : f x < n
    · simp only [hx, decide_true, if_true]
      cases i with
      | zero => simp [hx]
      | succ i =>
        have := ih n hs.2 i (by simpa using h)
        simp only [posOf] at this
        simp only [List.getElem_cons_succ]
        omega
    · have h0 : l.countP (fun x => decide (f x < n)) = 0 := by
        rw [List.countP_eq_zero]
        intro y hy
        have := hs.1 y hy
        simp; omega
      simp only [hx, decide_false, Bool.false_eq_true, if_false, h0]
      cases i with
      | zero => simp [hx]
      | succ i =>
        simp only [List.getElem_cons_succ]
        have hi : i < l.length := by simpa using h
        have := hs.1 l[i] (List.getElem_mem hi)
        omega
theorem pos_find {α : Type} {f : α → Int} {l : List α} (n : Int) (hs : l.Pairwise (fun a b => f a < f b)) : l.find? (fun x => f x == n) = if h : posOf f l n < l.length then (if f l[posOf f l n] = n then some l[posOf f l n] else none) else none := by
  have hiff := pos_iff (f := f) n hs
  split
  · rename_i h
    have hnl : ¬ f l[posOf f l n] < n := fun hh => by have := (hiff _ h).2 hh; omega
    split
    · rename_i he
      refine find_at h ?_ (by simpa using he)
      intro x hx
      obtain ⟨i, hi, rfl⟩ := List.getElem_of_mem hx
      simp only [List.length_take] at hi
      have := (hiff i (by omega)).1 (by omega)
      simp only [List.getElem_take]
      simp; omega
    · rename_i he
      rw [List.find?_eq_none]
      intro x hx
      obtain ⟨i, hi, rfl⟩ := List.getElem_of_mem hx
      simp only [beq_iff_eq]
      intro e
      rw [List.pairwise_iff_getElem] at hs
      rcases Nat.lt_trichotomy i (posOf f l n) with h' | h' | h'
      · have := (hiff i hi).1 h'; omega
      · subst h'; exact he e
      · have := hs _ i h hi h'; omega
  · rename_i h
    rw [List.find?_eq_none]
    intro x hx
    obtain ⟨i, hi, rfl⟩ := List.getElem_of_mem hx
    have := (hiff i hi).1 (by have := pos_le f l n; omega)
    simp; omega
end
end Go.Am
end
section
namespace Go.Am
open Go
noncomputable section
theorem with_ids (p : Part) (l : Int) : (p.with l).ids = p.ids := by unfold Part.with; split <;> rfl
theorem with_isr (p : Part) (l : Int) : (p.with l).isr = p.isr := by unfold Part.with; split <;> rfl
theorem with_add (p : Part) (l : Int) : (p.with l).add = p.add := by unfold Part.with; split <;> rfl
theorem with_drop (p : Part) (l : Int) : (p.with l).drop = p.drop := by unfold Part.with; split <;> rfl
theorem lose_eq (m : Image) (p : Part) (id : Int) : m.lose p id =
    if p.leader = id then (if id ∈ p.isr ∧ 1 < p.isr.length ∧ (p.with (m.chooseP p id)).leader ≠ 0 then { p.with (m.chooseP p id) with isr := p.isr.erase id } else p.with (m.chooseP p id))
    else (if id ∈ p.isr ∧ 1 < p.isr.length ∧ p.leader ≠ 0 then { p with isr := p.isr.erase id } else p) := by
  unfold Image.lose
  split <;> simp only [with_isr]
theorem idxI_at {l : List Int} {v : Int} (h : v ∈ l) : ∃ k : Nat, k < l.length ∧ idxI l v 0 = k ∧ l.take k ++ l.drop (k + 1) = l.erase v := by
  have h0 := (idxI_nonneg l v 0).2 h
  have h1 := idxI_lt l v 0
  refine ⟨(idxI l v 0).toNat, by omega, by omega, idxI_erase l v 0 _ (by simp; omega)⟩
abbrev Bad := ByteArray × Int × Int
def Image.syncFrom (m : Image) (p : Part) (isr : List Int) : List Int → Nat → Option Bad
  | [], _ => none
  | n :: l, i =>
    if p.ids.contains n = false ∨ (isr.take i).contains n = true then some (bs [105, 115, 114], i, 18)
    else if p.isr.contains n = false ∧ m.fit n true = false then some (bs [105, 115, 114], i, 17)
    else syncFrom m p isr l (i + 1)
def Image.sync (m : Image) (p : Part) (leader epoch : Int) (isr : List Int) : Part × Option Bad :=
  if p.leader ≠ leader ∨ leader = 0 then (p, some (bs [108, 101, 97, 100, 101, 114], leader, 12))
  else if p.epoch ≠ epoch then (p, some (bs [101, 112, 111, 99, 104], epoch, 11))
  else if isr.contains leader = false ∨ p.ids.length < isr.length then (p, some (bs [105, 115, 114], isr.length, 18))
  else match m.syncFrom p isr isr 0 with
    | some c => (p, some c)
    | none => if ({ p with isr := isr } : Part).same p then (p, some (bs [105, 115, 114], isr.length, 10)) else ({ p with isr := isr }, none)
def Image.prefer (m : Image) (p : Part) : Part × Option Bad :=
  let f := p.ids.headD 0
  if p.leader = f then (p, some (bs [108, 101, 97, 100, 101, 114], f, 10))
  else if p.isr.contains f = false ∨ m.fit f true = false then (p, some (bs [108, 101, 97, 100, 101, 114], f, 17))
  else (p.with f, none)
end
end Go.Am
end
section
namespace Go.Am
open Go
noncomputable section
def zR : Record := ⟨0, 0, 0, 0, 0, 0, 0, 0, 0, false, ⟨#[]⟩, ⟨#[]⟩, ⟨#[]⟩, ⟨#[]⟩, [], [], [], []⟩
def firstL : List Record :=
  [{ zR with kind := 2, broker := 1, epoch := 1, rack := bs [97] }, { zR with kind := 4, broker := 1, epoch := 1 },
   { zR with kind := 2, broker := 2, epoch := 1, rack := bs [98] }, { zR with kind := 4, broker := 2, epoch := 1 },
   { zR with kind := 7, topic := 1, name := bs [116] }, { zR with kind := 8, topic := 1, ids := [1, 2], isr := [1, 2], leader := 1 }]
def fm : Image := made firstL
def fp : Part := ⟨[1, 2], [1, 2], 1, 0, [], []⟩
theorem fm_part : fm.part 1 0 = some fp := by kernel_rfl
def fq : Part := ⟨[1, 2], [2], 2, 1, [], []⟩
theorem fm_lose : fm.lose fp 1 = fq := by kernel_rfl
theorem fm_prefer : fm.prefer fq = (fq, some (bs [108, 101, 97, 100, 101, 114], 1, 17)) := by kernel_rfl
def fs : Part := ⟨[1, 2], [1], 1, 0, [], []⟩
theorem fm_sync0 : fm.sync fp 1 0 [1] = (fs, none) := by kernel_rfl
theorem fm_sync3 : fm.sync fp 1 3 [1] = (fp, some (bs [101, 112, 111, 99, 104], 3, 11)) := by kernel_rfl
theorem fm_leave : fm.leave 1 = [change 1 0 fq] := by kernel_rfl
theorem fm_choose : fm.chooseP fp 1 = 2 := by kernel_rfl
theorem fm_gain : fm.gain fp = fp := by kernel_rfl
theorem fm_come : fm.come 2 = [] := by kernel_rfl
theorem fm_inv : fm.Inv 6 := made_inv firstL (by decide)
end
end Go.Am
end
section
namespace Go.Am
open Go
noncomputable section
structure Image.Next (m : Image) (p q : Part) : Prop where
  right : m.Right q
  rows : q.Rows 1000000
  ep : q.epoch = p.epoch ∧ q.leader = p.leader ∨ q.epoch = p.epoch + 1
theorem change_chk {t : Int} {k : Nat} {q : Part} (ht : 1 ≤ t ∧ t ≤ 1073741824) (hk : k ≤ 255) (hq : q.Rows 1000000) : (change t k q).Chk := by
  have e := hq.ep
  have l := hq.le
  have e1 : (change t k q).kind = 9 := rfl
  refine ⟨by rw [e1]; omega, ?_, ?_, ?_, ?_, ?_⟩
  · rw [e1]
    have hn : ∀ (n lo hi : Int) (a : Bool), a = true → lo ≤ n → n ≤ hi → numB n a lo hi = true := by
      rintro n lo hi _ rfl h1 h2
      simp only [numB, if_true, Bool.and_eq_true, decide_eq_true_eq]
      exact ⟨h1, h2⟩
    exact ⟨by kernel_rfl, hn q.epoch _ _ _ (by kernel_rfl) (by omega) (by omega), hn t _ _ _ (by kernel_rfl) (by show (1 : Int) ≤ t; omega) (by omega), hn (k : Int) _ _ _ (by kernel_rfl) (by omega) (by omega), hn q.leader _ _ _ (by kernel_rfl) (by omega) (by omega), by kernel_rfl, by kernel_rfl, by kernel_rfl⟩
  · rw [e1]; intro h; simp [change] at h
  · rw [e1]; exact ⟨by kernel_rfl, by kernel_rfl, by kernel_rfl⟩
  · exact ⟨by show ((0 : Nat) : Int) ≤ 256; omega, .inl (by kernel_rfl)⟩
  · rw [e1]; simp only [rwB, hasB, abouts, change]; simp; exact ⟨by simpa using hq.ids, by simpa using hq.isr, by simpa using hq.add, by simpa using hq.drop⟩
theorem topic_mid {s : Image} {A B : List Topic} {t : Topic} (hs : s.topics = A ++ t :: B) (hp : s.topics.Pairwise fun a b => a.id < b.id) : s.topic t.id = some t ∧ ∀ u ∈ s.topics, u.id = t.id → u = t := by
  have hm : t ∈ s.topics := by rw [hs]; simp
  have hf : s.topic t.id = some t := by
    unfold Image.topic
    cases h : s.topics.find? (fun u => u.id == t.id) with
    | none =>
      rw [List.find?_eq_none] at h
      have := h t hm; simp at this
    | some u =>
      have h1 := List.mem_of_find?_eq_some h
      have h2 : u.id = t.id := by simpa using List.find?_some h
      have e := topic_unique (m := s) hp (id := t.id) (t := u) h hm rfl
      rw [e]
  exact ⟨hf, fun u hu e => topic_unique hp hf hu e⟩
theorem setAt_mid {α : Type} (X : List α) (p q : α) (Y : List α) : setAt (X ++ p :: Y) X.length q = X ++ q :: Y := by
  simp [setAt]
theorem apply_change {s : Image} {A B : List Topic} {t : Topic} {X Y : List Part} {p q : Part} (hs : s.topics = A ++ t :: B) (hp : s.topics.Pairwise fun a b => a.id < b.id) (ht : t.parts = X ++ p :: Y) (hid : 1 ≤ t.id ∧ t.id ≤ 1073741824) (hk : X.length ≤ 255)
    (hn : s.Next p q) (hne : p.same q = false) : s.apply (change t.id X.length q) = ({ s with topics := A ++ { t with parts := X ++ q :: Y } :: B }, 0) := by
  have hc := change_chk hid hk hn.rows
  obtain ⟨h1, h2⟩ := topic_mid hs hp
  have e0 : (checkW (change t.id X.length q)).code = 0 := (check_iff _).2 hc
  have ek : (change t.id X.length q).kind = 9 := rfl
  unfold Image.apply
  rw [if_neg (by simp [e0]), ek]
  simp only [show ¬ (9 : Int) = 2 by decide, show ¬ ((9 : Int) = 3 ∨ (9 : Int) = 4 ∨ (9 : Int) = 5 ∨ (9 : Int) = 6) by decide, show ((9 : Int) = 8 ∨ (9 : Int) = 9) by decide, if_false, if_true]
  unfold Image.partRec
  have et : s.topic (change t.id X.length q).topic = some t := h1
  have ep : (change t.id X.length q).toPart = q := rfl
  have en : (change t.id X.length q).part = (X.length : Int) := rfl
  have eg : t.parts[X.length]?.getD zP = p := by rw [ht]; simp
  have hlt : X.length < t.parts.length := by rw [ht]; simp
  rw [et]
  have hne2 := hn.ep
  have c1 : (s.right q ≠ 0) = False := by simp [right_iff.2 hn.right]
  have c2 : ((9 : Int) = 8) = False := by decide
  have c3 : ((t.parts.length : Int) ≤ (X.length : Int)) = False := by simp; omega
  have c4 : ((change t.id X.length q).epoch < p.epoch ∨ p.epoch + 1 < (change t.id X.length q).epoch ∨ (change t.id X.length q).epoch = p.epoch ∧ (change t.id X.length q).leader ≠ p.leader) = False := by
    have e1 : (change t.id X.length q).epoch = q.epoch := rfl
    have e2 : (change t.id X.length q).leader = q.leader := rfl
    rw [e1, e2, eq_iff_iff, iff_false]
    rintro (h | h | ⟨h, h'⟩)
    · omega
    · omega
    · rcases hne2 with ⟨_, h3⟩ | h3
      · exact h' h3
      · omega
  have c5 : (p.same q = true) = False := by simp [hne]
  simp only [ep, en, Int.toNat_natCast, eg, ek, c1, c2, c3, c4, c5, if_false]
  simp only [Image.putPart, Prod.mk.injEq, and_true, Image.mk.injEq, true_and]
  have hx : ∀ u ∈ s.topics, (if u.id = (change t.id X.length q).topic then ({ u with parts := setAt u.parts X.length q } : Topic) else u) = if u.id = t.id then { t with parts := X ++ q :: Y } else u := by
    intro u hu
    by_cases e : u.id = t.id
    · rw [if_pos e, if_pos (show u.id = (change t.id X.length q).topic from e), h2 u hu e, ht, setAt_mid]
    · rw [if_neg e, if_neg (show ¬ u.id = (change t.id X.length q).topic from e)]
  rw [List.map_congr_left hx, hs]
  rw [hs, List.pairwise_append, List.pairwise_cons] at hp
  have hA : ∀ u ∈ A, (if u.id = t.id then ({ t with parts := X ++ q :: Y } : Topic) else u) = u := fun u hu => by
    rw [if_neg]; have := hp.2.2 u hu t (by simp); omega
  have hB : ∀ u ∈ B, (if u.id = t.id then ({ t with parts := X ++ q :: Y } : Topic) else u) = u := fun u hu => by
    rw [if_neg]; have := hp.2.1.1 u hu; omega
  rw [List.map_append, List.map_cons, List.map_congr_left hA, List.map_congr_left hB]
  simp
end
end Go.Am
end
section
namespace Go.Am
open Go
noncomputable section
theorem same_eq {p q : Part} (h : p.same q = true) : p = q := by
  simp only [Part.same, Bool.and_eq_true, beq_iff_eq] at h
  obtain ⟨⟨⟨⟨⟨h1, h2⟩, h3⟩, h4⟩, h5⟩, h6⟩ := h
  cases p; cases q; simp_all
theorem Image.Next.brokers {m m' : Image} {p q : Part} (h : m.Next p q) (e : m'.brokers = m.brokers) : m'.Next p q :=
  ⟨h.right.mono (fun n _ hs => by unfold Image.broker at hs ⊢; rw [e]; exact hs) (fun _ ha => by unfold Image.alive Image.broker at ha ⊢; rw [e]; exact ha), h.rows, h.ep⟩
theorem go_parts (m0 : Image) (f : Part → Part) (rest : List Record) : ∀ (Y X : List Part) (s : Image) (A B : List Topic) (t : Topic), s.topics = A ++ t :: B → t.parts = X ++ Y → (s.topics.Pairwise fun a b => a.id < b.id) → (1 ≤ t.id ∧ t.id ≤ 1073741824) → X.length + Y.length ≤ 256 →
    (∀ p ∈ Y, p.same (f p) = false → s.Next p (f p)) → m0.allFrom s (changesT f t.id Y X.length ++ rest) = m0.allFrom { s with topics := A ++ { t with parts := X ++ Y.map f } :: B } rest := by
  intro Y
  induction Y with
  | nil =>
    intro X s A B t hs ht _ _ _ _
    simp only [changesT, List.nil_append, List.map_nil, List.append_nil]
    have : ({ t with parts := X } : Topic) = t := by cases t; simp at ht; simp [ht]
    rw [this, ← hs]
  | cons p Y ih =>
    intro X s A B t hs ht hp hid hl hn
    simp only [List.length_cons] at hl
    simp only [changesT, List.map_cons]
    by_cases hsm : p.same (f p) = true
    · rw [if_pos hsm]
      have e := same_eq hsm
      have := ih (X ++ [p]) s A B t hs (by simp [ht]) hp hid (by simp; omega) (fun q hq => hn q (by simp [hq]))
      simp only [List.length_append, List.length_singleton, List.append_assoc, List.cons_append, List.nil_append] at this
      rw [this, ← e]
    · have hsm : p.same (f p) = false := by simpa using hsm
      rw [if_neg (by simp [hsm])]
      have ha := apply_change hs hp ht hid (by omega) (hn p (by simp) hsm) hsm
      simp only [List.cons_append, Image.allFrom, ha, ne_eq, not_true_eq_false, if_false]
      have hp' : (A ++ ({ t with parts := X ++ f p :: Y } : Topic) :: B).Pairwise fun a b => a.id < b.id := by
        rw [hs, List.pairwise_append, List.pairwise_cons] at hp
        rw [List.pairwise_append, List.pairwise_cons]
        refine ⟨hp.1, hp.2.1, fun a ha b hb => ?_⟩
        rcases List.mem_cons.1 hb with rfl | hb
        · exact hp.2.2 a ha t (by simp)
        · exact hp.2.2 a ha b (by simp [hb])
      have := ih (X ++ [f p]) { s with topics := A ++ { t with parts := X ++ f p :: Y } :: B } A B { t with parts := X ++ f p :: Y } rfl (by simp) hp' hid (by simp; omega) (fun q hq hq2 => (hn q (by simp [hq]) hq2).brokers rfl)
      simp only [List.length_append, List.length_singleton, List.append_assoc, List.cons_append, List.nil_append] at this
      exact this
theorem go_topics (m0 : Image) (f : Part → Part) (rest : List Record) : ∀ (B A : List Topic) (s : Image), s.topics = A ++ B → (s.topics.Pairwise fun a b => a.id < b.id) → (∀ t ∈ B, (1 ≤ t.id ∧ t.id ≤ 1073741824) ∧ t.parts.length ≤ 256) →
    (∀ t ∈ B, ∀ p ∈ t.parts, p.same (f p) = false → s.Next p (f p)) →
    m0.allFrom s (B.flatMap (fun t => changesT f t.id t.parts 0) ++ rest) = m0.allFrom { s with topics := A ++ B.map fun t => { t with parts := t.parts.map f } } rest := by
  intro B
  induction B with
  | nil => intro A s hs _ _ _; simp at hs; simp [← hs]
  | cons t B ih =>
    intro A s hs hp hb hn
    have h1 := go_parts m0 f (B.flatMap (fun t => changesT f t.id t.parts 0) ++ rest) t.parts [] s A B t hs (by simp) hp (hb t (by simp)).1 (by have := (hb t (by simp)).2; simp; omega) (fun p hp' => hn t (by simp) p hp')
    simp only [List.flatMap_cons, List.append_assoc]
    simp only [List.length_nil, List.nil_append] at h1
    rw [h1]
    have hp' : (A ++ ({ t with parts := t.parts.map f } : Topic) :: B).Pairwise fun a b => a.id < b.id := by
      rw [hs, List.pairwise_append, List.pairwise_cons] at hp
      rw [List.pairwise_append, List.pairwise_cons]
      refine ⟨hp.1, hp.2.1, fun a ha b hb => ?_⟩
      rcases List.mem_cons.1 hb with rfl | hb
      · exact hp.2.2 a ha t (by simp)
      · exact hp.2.2 a ha b (by simp [hb])
    have := ih (A ++ [{ t with parts := t.parts.map f }]) { s with topics := A ++ { t with parts := t.parts.map f } :: B } (by simp) hp' (fun u hu => hb u (by simp [hu])) (fun u hu p hp hq => (hn u (by simp [hu]) p hp hq).brokers rfl)
    simp only [List.append_assoc, List.cons_append, List.nil_append] at this
    rw [this]
    simp
def Image.mapParts (m : Image) (f : Part → Part) : Image := { m with topics := m.topics.map fun t => { t with parts := t.parts.map f } }
theorem all_changes {m : Image} {n : Nat} (h : m.Inv n) (hn : n ≤ 256) (f : Part → Part) (hf : ∀ t ∈ m.topics, ∀ p ∈ t.parts, p.same (f p) = false → m.Next p (f p)) : m.all (m.changes f) = (m.mapParts f, 0) := by
  have := go_topics m f [] m.topics [] m rfl h.ti (fun t ht => ⟨by have := h.tr t ht; have := h.la; omega, by have := h.pl t ht; omega⟩) hf
  simp only [List.append_nil, List.nil_append] at this
  unfold Image.all Image.changes
  rw [this]
  rfl
end
end Go.Am
end
section
namespace Go.Am
open Go
noncomputable section
theorem with_leader (p : Part) (l : Int) : (p.with l).leader = l := by
  unfold Part.with; split
  · rfl
  · rename_i h; simpa using h
theorem with_ep (p : Part) (l : Int) : (p.with l).epoch = p.epoch ∧ l = p.leader ∨ (p.with l).epoch = p.epoch + 1 := by
  unfold Part.with; split
  · exact .inr rfl
  · rename_i h; exact .inl ⟨rfl, by simpa [eq_comm] using h⟩
theorem fit_alive {m : Image} {id : Int} {st : Bool} (h : m.fit id st = true) : m.alive id = true := by
  unfold Image.fit at h; unfold Image.alive
  cases hb : m.broker id with
  | none => rw [hb] at h; simp at h
  | some b => rw [hb] at h; simp at h; simp [h.1]
theorem chooseP_spec (m : Image) (p : Part) (but : Int) : m.chooseP p but = 0 ∨ (m.chooseP p but ∈ p.ids ∧ m.chooseP p but ≠ but ∧ m.chooseP p but ∈ p.isr ∧ m.alive (m.chooseP p but) = true) := by
  have key : ∀ st x, p.ids.find? (m.mayLead p but st) = some x → x ∈ p.ids ∧ x ≠ but ∧ x ∈ p.isr ∧ m.alive x = true := by
    intro st x hx
    have h1 := List.mem_of_find?_eq_some hx
    have h2 := List.find?_some hx
    simp only [Image.mayLead, Bool.and_eq_true, bne_iff_ne, ne_eq, List.contains_iff_mem] at h2
    exact ⟨h1, h2.1.1, h2.1.2, fit_alive h2.2⟩
  unfold Image.chooseP
  split
  · rename_i x hx; exact .inr (key _ _ hx)
  · split
    · rename_i x hx; exact .inr (key _ _ hx)
    · exact .inl rfl
theorem brokersB_sub {l l' : List Int} (h : brokersB l = true) (hs : l'.Sublist l) : brokersB l' = true := by
  simp only [brokersB, decide_eq_true_eq] at h ⊢
  exact ⟨by have := hs.length_le; omega, fun n hn => h.2.1 n (hs.subset hn), h.2.2.sublist hs⟩
theorem erase_ne {l : List Int} {id : Int} (h : 1 < l.length) : l.erase id ≠ [] := by
  intro e
  have := List.length_erase (a := id) (l := l)
  rw [e] at this
  simp at this
  split at this <;> omega
theorem lose_next {m : Image} {n : Nat} (hn : n ≤ 1000) {p : Part} (hr : m.Right p) (hw : p.Rows n) (id : Int) : m.Next p (m.lose p id) := by
  have hc := chooseP_spec m p id
  have hwl := with_leader p (m.chooseP p id)
  have hids : ∀ x ∈ p.ids, 1 ≤ x ∧ x ≤ 64 := by have := hw.ids; simp only [brokersB, decide_eq_true_eq] at this; exact this.2.1
  have hep := hw.ep
  rw [lose_eq]
  by_cases hl : p.leader = id
  · rw [if_pos hl]
    have hwe := with_ep p (m.chooseP p id)
    by_cases he : id ∈ p.isr ∧ 1 < p.isr.length ∧ (p.with (m.chooseP p id)).leader ≠ 0
    · rw [if_pos he]
      have hc : m.chooseP p id ∈ p.ids ∧ m.chooseP p id ≠ id ∧ m.chooseP p id ∈ p.isr ∧ m.alive (m.chooseP p id) = true := hc.resolve_left (by rw [hwl] at he; exact he.2.2)
      refine ⟨⟨by simpa [with_ids] using hr.ids, by simpa [with_ids] using hr.reg, erase_ne he.2.1, ?_, ?_, by simpa [with_ids, with_add, with_drop] using hr.add, by simpa [with_ids, with_drop] using hr.drop⟩, ⟨by simpa [with_ids] using hw.ids, brokersB_sub hw.isr List.erase_sublist, by simpa [with_add] using hw.add, by simpa [with_drop] using hw.drop, ?_, ?_⟩, ?_⟩
      · intro x hx; rw [with_ids]; exact hr.sub x (List.mem_of_mem_erase hx)
      · intro _
        simp only [hwl]
        exact ⟨(List.mem_erase_of_ne hc.2.1).2 hc.2.2.1, hc.2.2.2⟩
      · simp only; omega
      · simp only [hwl]; have := hids _ hc.1; omega
      · simp only [hwl]; rcases hwe with ⟨h1, h2⟩ | h1
        · exact .inl ⟨h1, h2⟩
        · exact .inr h1
    · rw [if_neg he]
      refine ⟨⟨by simpa [with_ids] using hr.ids, by simpa [with_ids] using hr.reg, by simpa [with_isr] using hr.isr, by simpa [with_isr, with_ids] using hr.sub, ?_, by simpa [with_ids, with_add, with_drop] using hr.add, by simpa [with_ids, with_drop] using hr.drop⟩, ⟨by simpa [with_ids] using hw.ids, by simpa [with_isr] using hw.isr, by simpa [with_add] using hw.add, by simpa [with_drop] using hw.drop, ?_, ?_⟩, ?_⟩
      · intro h0
        rw [hwl] at h0 ⊢
        rw [with_isr]
        have := hc.resolve_left h0
        exact ⟨this.2.2.1, this.2.2.2⟩
      · omega
      · rw [hwl]
        rcases hc with h0 | h0
        · omega
        · have := hids _ h0.1; omega
      · rw [hwl]; rcases hwe with ⟨h1, h2⟩ | h1
        · exact .inl ⟨h1, h2⟩
        · exact .inr h1
  · rw [if_neg hl]
    by_cases he : id ∈ p.isr ∧ 1 < p.isr.length ∧ p.leader ≠ 0
    · rw [if_pos he]
      refine ⟨⟨hr.ids, hr.reg, erase_ne he.2.1, fun x hx => hr.sub x (List.mem_of_mem_erase hx), fun h0 => ⟨(List.mem_erase_of_ne hl).2 (hr.lead h0).1, (hr.lead h0).2⟩, hr.add, hr.drop⟩, ⟨hw.ids, brokersB_sub hw.isr List.erase_sublist, hw.add, hw.drop, by simp only; omega, hw.le⟩, .inl ⟨rfl, rfl⟩⟩
    · rw [if_neg he]
      exact ⟨hr, hw.mono (by omega), .inl ⟨rfl, rfl⟩⟩
theorem gain_next {m : Image} {n : Nat} (hn : n ≤ 1000) {p : Part} (hr : m.Right p) (hw : p.Rows n) : m.Next p (m.gain p) := by
  have hc := chooseP_spec m p 0
  have hwl := with_leader p (m.chooseP p 0)
  have hids : ∀ x ∈ p.ids, 1 ≤ x ∧ x ≤ 64 := by have := hw.ids; simp only [brokersB, decide_eq_true_eq] at this; exact this.2.1
  have hep := hw.ep
  unfold Image.gain
  split
  · have hwe := with_ep p (m.chooseP p 0)
    refine ⟨⟨by simpa [with_ids] using hr.ids, by simpa [with_ids] using hr.reg, by simpa [with_isr] using hr.isr, by simpa [with_isr, with_ids] using hr.sub, ?_, by simpa [with_ids, with_add, with_drop] using hr.add, by simpa [with_ids, with_drop] using hr.drop⟩, ⟨by simpa [with_ids] using hw.ids, by simpa [with_isr] using hw.isr, by simpa [with_add] using hw.add, by simpa [with_drop] using hw.drop, ?_, ?_⟩, ?_⟩
    · intro h0
      rw [hwl] at h0 ⊢
      rw [with_isr]
      have := hc.resolve_left h0
      exact ⟨this.2.2.1, this.2.2.2⟩
    · omega
    · rw [hwl]
      rcases hc with h0 | h0
      · omega
      · have := hids _ h0.1; omega
    · rw [hwl]; rcases hwe with ⟨h1, h2⟩ | h1
      · exact .inl ⟨h1, h2⟩
      · exact .inr h1
  · exact ⟨hr, hw.mono (by omega), .inl ⟨rfl, rfl⟩⟩
end
end Go.Am
end
section
namespace Go.Am
open Go
noncomputable section
theorem Image.Pre.change {s : Image} (h : s.Pre) {r : Record} (hk : r.kind = 9) (he : 0 ≤ r.epoch ∧ r.epoch ≤ 1000000) : (s.apply r).1.Pre := by
  unfold Image.apply
  split
  · exact h
  rename_i hc
  have hc : (checkW r).code = 0 := by simpa using hc
  have hp := (check_part hc (.inr hk)).1
  rw [if_neg (show ¬ r.kind = 2 by omega), if_neg (show ¬ (r.kind = 3 ∨ r.kind = 4 ∨ r.kind = 5 ∨ r.kind = 6) by omega), if_pos (show r.kind = 8 ∨ r.kind = 9 by omega)]
  unfold Image.partRec
  split
  · exact h
  rename_i t ht
  split
  · exact h
  rw [if_neg (show ¬ r.kind = 8 by omega)]
  split
  · exact h
  rename_i hlt
  split
  · exact h
  split
  · exact h
  have hu : ∀ u ∈ s.topics, u.id = r.topic → u = t := fun u hu e => topic_unique h.ti ht hu e
  refine ⟨h.bl, by have := h.tl; simpa [Image.putPart] using this, h.cl, h.dl, ?_, ?_, ?_⟩
  · intro t' ht'
    simp only [Image.putPart, List.mem_map] at ht'
    obtain ⟨u, hum, rfl⟩ := ht'
    have hul := h.pl u hum
    split
    · rename_i e
      have hut := hu u hum e
      subst hut
      simp only [setAt, List.length_append, List.length_take, List.length_cons, List.length_drop]
      omega
    · exact hul
  · simp only [Image.putPart, List.pairwise_map]
    refine h.ti.imp ?_
    intro a b hab; split <;> split <;> exact hab
  · intro t' ht' p hp'
    simp only [Image.putPart, List.mem_map] at ht'
    obtain ⟨u, hum, rfl⟩ := ht'
    split at hp'
    · rcases setAt_mem hp' with rfl | hp'
      · exact he
      · exact h.ep u hum p hp'
    · exact h.ep u hum p hp'
end
end Go.Am
end
section
namespace Go.Am
open Go
noncomputable section
theorem broker_id {m : Image} {n : Int} {b : Broker} (h : m.broker n = some b) : b.id = n := by
  have := List.find?_some h; simpa using this
theorem chooseFrom_eq (m : Image) (p : Part) (but : Int) : ∀ (l : List Int) (s : Int), (∀ n ∈ l, n ≠ 0) → m.chooseFrom p but l s =
    match l.find? (m.mayLead p but true) with
    | some x => x
    | none => if s ≠ 0 then s else match l.find? (m.mayLead p but false) with
      | some x => x
      | none => 0 := by
  intro l
  induction l with
  | nil => intro s _; simp [Image.chooseFrom]
  | cons n l ih =>
    intro s hl
    have hn := hl n (by simp)
    have ih := fun s => ih s fun x hx => hl x (by simp [hx])
    simp only [Image.chooseFrom, List.find?_cons]
    cases hb : m.broker n with
    | none =>
      have e1 : ∀ st, m.mayLead p but st n = false := fun st => by simp [Image.mayLead, Image.fit, hb]
      simp only [e1, ih]
    | some b =>
      have hid := broker_id hb
      have hb' : m.broker b.id = some b := by rw [hid]; exact hb
      simp only
      by_cases hx : b.fenced = true ∨ b.id = but ∨ p.isr.contains b.id = false
      · rw [if_pos hx]
        have e1 : ∀ st, m.mayLead p but st n = false := fun st => by
          simp only [Image.mayLead, Image.fit, hb]
          rcases hx with hx | hx | hx
          · simp [hx]
          · rw [← hid]; simp [hx]
          · rw [← hid, hx]; simp
        simp only [e1, ih]
      · rw [if_neg hx]
        simp only [not_or, Bool.not_eq_true, Bool.not_eq_false] at hx
        have e2 : m.mayLead p but false n = true := by
          simp only [Image.mayLead, Image.fit, ← hid, hb']
          simp [hx.1, hx.2.1]
          simpa using hx.2.2
        by_cases hlv : b.leaving = false
        · rw [if_pos hlv]
          have e1 : m.mayLead p but true n = true := by
            simp only [Image.mayLead, Image.fit, ← hid, hb']
            simp [hx.1, hx.2.1, hlv]
            simpa using hx.2.2
          simp only [e1, hid]
        · rw [if_neg hlv]
          have e1 : m.mayLead p but true n = false := by
            simp only [Image.mayLead, Image.fit, hb]
            simp at hlv
            simp [hlv]
          simp only [e1, e2, ih, hid]
          by_cases hs : s = 0
          · subst hs; simp [hn]
          · simp [hs]
theorem chooseR_eq (m : Image) (p : Part) (but : Int) (h : ∀ n ∈ p.ids, n ≠ 0) : m.chooseR p but = m.chooseP p but := by
  unfold Image.chooseR Image.chooseP
  rw [chooseFrom_eq m p but _ _ h]
  cases h1 : p.ids.find? (m.mayLead p but true) <;> cases h2 : p.ids.find? (m.mayLead p but false) <;> simp
theorem lose_leader (m : Image) (p : Part) (id : Int) : (m.lose p id).leader = if p.leader = id then m.chooseP p id else p.leader := by
  rw [lose_eq]
  by_cases hl : p.leader = id
  · simp only [hl, if_true]; split <;> simp [with_leader]
  · simp only [hl, if_false]; split <;> rfl
theorem lose_epoch (m : Image) (p : Part) (id : Int) : p.epoch ≤ (m.lose p id).epoch := by
  have := with_ep p (m.chooseP p id)
  rw [lose_eq]
  split <;> split <;> (try simp only) <;> omega
theorem lose_any (m : Image) (id : Int) (h : id ≠ 0) : (m.mapParts fun p => m.lose p id).any (fun p => p.leader == id) = false := by
  simp only [Image.any, Topic.any, Image.mapParts, List.any_map, List.any_eq_false, Function.comp_apply]
  intro t _
  simp only [Bool.not_eq_true, List.any_eq_false, beq_iff_eq]
  intro p _
  simp only [Function.comp_apply, beq_iff_eq]
  rw [lose_leader]
  rw [beq_eq_false_iff_ne]
  rcases chooseP_spec m p id with hc | hc
  · split
    · rw [hc]; exact fun (e : (0 : Int) = id) => h e.symm
    · assumption
  · split
    · exact hc.2.1
    · assumption
def fenceR (b : Broker) : Record := { zR with kind := 3, broker := b.id, epoch := b.epoch }
theorem fence_ok {s : Image} {b : Broker} (hb : s.broker b.id = some b) (h1 : 1 ≤ b.id ∧ b.id ≤ 64 ∧ 0 ≤ b.epoch ∧ b.epoch ≤ 1073741824) (hf : b.fenced = false) (ha : s.any (fun p => p.leader == b.id) = false) : (s.apply (fenceR b)).2 = 0 := by
  have ek : (fenceR b).kind = 3 := rfl
  have hc : (fenceR b).Chk := by
    have hn : ∀ (n lo hi : Int) (a : Bool), a = true → lo ≤ n → n ≤ hi → numB n a lo hi = true := by
      rintro n lo hi _ rfl h1 h2
      simp only [numB, if_true, Bool.and_eq_true, decide_eq_true_eq]
      exact ⟨h1, h2⟩
    refine ⟨by rw [ek]; omega, ?_, ?_, ?_, ?_, ?_⟩
    · rw [ek]
      exact ⟨hn b.id _ _ _ (by kernel_rfl) (by omega) (by omega), hn b.epoch _ _ _ (by kernel_rfl) (by omega) (by omega), by kernel_rfl, by kernel_rfl, by kernel_rfl, by kernel_rfl, by kernel_rfl, by kernel_rfl⟩
    · intro h; simp [fenceR, zR] at h
    · rw [ek]; exact ⟨by kernel_rfl, by kernel_rfl, by kernel_rfl⟩
    · exact ⟨by show ((0 : Nat) : Int) ≤ 256; omega, .inl (by kernel_rfl)⟩
    · rw [ek]; exact ⟨by kernel_rfl, by kernel_rfl, by kernel_rfl, by kernel_rfl⟩
  have e0 : (checkW (fenceR b)).code = 0 := (check_iff _).2 hc
  unfold Image.apply
  rw [if_neg (by simp [e0]), if_neg (show ¬ (fenceR b).kind = 2 by rw [ek]; decide), if_pos (show (fenceR b).kind = 3 ∨ _ from .inl ek)]
  unfold Image.brokerRec
  have e1 : s.broker (fenceR b).broker = some b := hb
  rw [e1]
  have e2 : (fenceR b).epoch = b.epoch := rfl
  simp [e2, ek, hf, ha]
end
end Go.Am
end
section
namespace Go.Am
open Go
noncomputable section
theorem changesT_mem (f : Part → Part) (id : Int) : ∀ (l : List Part) (k : Nat) (r : Record), r ∈ changesT f id l k → ∃ p ∈ l, ∃ j, r = change id j (f p) := by
  intro l
  induction l with
  | nil => intro k r h; simp [changesT] at h
  | cons p l ih =>
    intro k r h
    simp only [changesT] at h
    split at h
    · obtain ⟨q, hq, j, e⟩ := ih _ r h; exact ⟨q, by simp [hq], j, e⟩
    · rcases List.mem_cons.1 h with rfl | h
      · exact ⟨p, by simp, k, rfl⟩
      · obtain ⟨q, hq, j, e⟩ := ih _ r h; exact ⟨q, by simp [hq], j, e⟩
theorem changesT_le (f : Part → Part) (id : Int) : ∀ (l : List Part) (k : Nat), (changesT f id l k).length ≤ l.length := by
  intro l
  induction l with
  | nil => intro k; simp [changesT]
  | cons p l ih => intro k; simp only [changesT]; split <;> simp <;> have := ih (k + 1) <;> omega
theorem changes_mem {m : Image} {f : Part → Part} {r : Record} (h : r ∈ m.changes f) : ∃ t ∈ m.topics, ∃ p ∈ t.parts, ∃ j, r = change t.id j (f p) := by
  simp only [Image.changes, List.mem_flatMap] at h
  obtain ⟨t, ht, h⟩ := h
  obtain ⟨p, hp, j, e⟩ := changesT_mem f t.id t.parts 0 r h
  exact ⟨t, ht, p, hp, j, e⟩
theorem flat_le {α β : Type} (g : α → List β) (N : Nat) : ∀ (l : List α), (∀ x ∈ l, (g x).length ≤ N) → (l.flatMap g).length ≤ l.length * N := by
  intro l
  induction l with
  | nil => intro _; simp
  | cons x l ih =>
    intro h
    have h1 := h x (by simp)
    have h2 := ih fun y hy => h y (by simp [hy])
    simp only [List.flatMap_cons, List.length_append, List.length_cons, Nat.add_mul]
    omega
theorem changes_len {m : Image} {n : Nat} (h : m.Inv n) (hn : n ≤ 1000) (f : Part → Part) : (m.changes f).length ≤ 1000000 := by
  have h1 := flat_le (fun t => changesT f t.id t.parts 0) 1000 m.topics (fun t ht => by have := changesT_le f t.id t.parts 0; have := h.pl t ht; omega)
  have h2 := h.tl
  have : m.topics.length * 1000 ≤ 1000 * 1000 := Nat.mul_le_mul_right _ (by omega)
  unfold Image.changes
  omega
theorem changes_pre {m : Image} {f : Part → Part} (hf : ∀ t ∈ m.topics, ∀ p ∈ t.parts, 0 ≤ (f p).epoch ∧ (f p).epoch ≤ 1000000) (s : Image) (r : Record) (hr : r ∈ m.changes f) (hs : s.Pre) : (s.apply r).1.Pre := by
  obtain ⟨t, ht, p, hp, j, rfl⟩ := changes_mem hr
  exact hs.change rfl (hf t ht p hp)
theorem mapParts_pre {m : Image} (h : m.Pre) {f : Part → Part} (hf : ∀ t ∈ m.topics, ∀ p ∈ t.parts, 0 ≤ (f p).epoch ∧ (f p).epoch ≤ 1000000) : (m.mapParts f).Pre := by
  refine ⟨h.bl, by have := h.tl; simpa [Image.mapParts] using this, h.cl, h.dl, ?_, ?_, ?_⟩
  · intro t ht
    simp only [Image.mapParts, List.mem_map] at ht
    obtain ⟨u, hu, rfl⟩ := ht
    have := h.pl u hu; simpa using this
  · simp only [Image.mapParts, List.pairwise_map]; exact h.ti
  · intro t ht p hp
    simp only [Image.mapParts, List.mem_map] at ht
    obtain ⟨u, hu, rfl⟩ := ht
    simp only [List.mem_map] at hp
    obtain ⟨q, hq, rfl⟩ := hp
    exact hf u hu q hq
end
end Go.Am
end
