/- Part of the proof of a law of the image. -/
import GoSem.Op.String
import Derived.KernelRfl
set_option linter.all false
section
namespace Go.Am
open Go
noncomputable section
structure Broker where
  id : Int
  epoch : Int
  rack : ByteArray
  fenced : Bool
  leaving : Bool
structure Part where
  ids : List Int
  isr : List Int
  leader : Int
  epoch : Int
  add : List Int
  drop : List Int
structure Topic where
  id : Int
  name : ByteArray
  parts : List Part
structure Config where
  topic : Int
  key : ByteArray
  value : ByteArray
structure Done where
  client : Int
  serial : Int
  code : Int
structure Image where
  brokers : List Broker
  topics : List Topic
  configs : List Config
  done : List Done
  last : Int
structure Record where
  kind : Int
  broker : Int
  epoch : Int
  topic : Int
  part : Int
  leader : Int
  client : Int
  serial : Int
  code : Int
  flag : Bool
  name : ByteArray
  key : ByteArray
  value : ByteArray
  rack : ByteArray
  ids : List Int
  isr : List Int
  add : List Int
  drop : List Int
theorem not_take {α : Type} {l : List α} {i : Nat} {x n : α} (hx : l[i]? = some x) (h : n ∉ l.take i) (hne : ¬ x = n) : n ∉ l.take (i + 1) := by
  rw [List.take_add_one, hx]
  simp only [Option.toList_some, List.mem_append, List.mem_singleton, not_or]
  exact ⟨h, fun e => hne e.symm⟩
def zB : Broker := ⟨0, 0, ⟨#[]⟩, false, false⟩
def Image.broker (m : Image) (id : Int) : Option Broker := m.brokers.find? fun b => b.id == id
theorem find_at {α : Type} {l : List α} {p : α → Bool} {i : Nat} (hi : i < l.length) (h : ∀ x ∈ l.take i, p x = false) (hx : p l[i] = true) : l.find? p = some l[i] := by
  have : l = l.take i ++ l[i] :: l.drop (i + 1) := by rw [← List.drop_eq_getElem_cons hi, List.take_append_drop]
  rw [List.find?_eq_some_iff_append]
  exact ⟨hx, l.take i, l.drop (i + 1), this, fun x hx' => by simp [h x hx']⟩
theorem find_no {α : Type} {l : List α} {p : α → Bool} {i : Nat} (hi : l.length ≤ i) (h : ∀ x ∈ l.take i, p x = false) : l.find? p = none := by
  rw [List.take_of_length_le hi] at h
  rw [List.find?_eq_none]
  intro x hx; simp [h x hx]
theorem all_take {α : Type} {l : List α} {p : α → Bool} {i : Nat} (hi : i < l.length) (h : ∀ x ∈ l.take i, p x = false) (hx : p l[i] = false) : ∀ x ∈ l.take (i + 1), p x = false := by
  intro x hx'
  rw [List.take_add_one, List.getElem?_eq_getElem hi] at hx'
  simp only [Option.toList_some, List.mem_append, List.mem_singleton] at hx'
  rcases hx' with h' | rfl
  · exact h x h'
  · exact hx
def zT : Topic := ⟨0, ⟨#[]⟩, []⟩
def Image.topic (m : Image) (id : Int) : Option Topic := m.topics.find? fun t => t.id == id
def Image.named (m : Image) (s : ByteArray) : Option Topic := m.topics.find? fun t => t.name.toList == s.toList
def Image.config (m : Image) (t : Int) (k : ByteArray) : Option Config := m.configs.find? fun c => c.topic == t && c.key.toList == k.toList
def Image.answered (m : Image) (c s : Int) : Option Done := m.done.find? fun d => d.client == c && d.serial == s
def Image.alive (m : Image) (id : Int) : Bool := match m.broker id with | some b => !b.fenced | none => false
def zP : Part := ⟨[], [], 0, 0, [], []⟩
def Image.part (m : Image) (id n : Int) : Option Part := match m.topic id with | some t => if n < 0 then none else t.parts[n.toNat]? | none => none
theorem eq_take {α : Type} {a b : List α} {i : Nat} (ha : i < a.length) (hb : i < b.length) (h : a.take i = b.take i) (hx : a[i] = b[i]) : a.take (i + 1) = b.take (i + 1) := by
  rw [List.take_add_one, List.take_add_one, h, List.getElem?_eq_getElem ha, List.getElem?_eq_getElem hb, hx]
theorem any_at {α : Type} {l : List α} {p : α → Bool} {i : Nat} (hi : i < l.length) (hx : p l[i] = true) : l.any p = true := by
  rw [List.any_eq_true]; exact ⟨l[i], List.getElem_mem hi, hx⟩
theorem any_no {α : Type} {l : List α} {p : α → Bool} {i : Nat} (hi : l.length ≤ i) (h : ∀ x ∈ l.take i, p x = false) : l.any p = false := by
  rw [List.take_of_length_le hi] at h
  rw [List.any_eq_false]
  intro x hx; simp [h x hx]
def Topic.any (t : Topic) (p : Part → Bool) : Bool := t.parts.any p
def Image.any (m : Image) (p : Part → Bool) : Bool := m.topics.any fun t => t.any p
def putStep (b : Broker) (s : List Broker × Bool) (x : Broker) : List Broker × Bool :=
  let s1 := if !s.2 && decide (b.id ≤ x.id) then (s.1 ++ [b], true) else s
  (if x.id != b.id then s1.1 ++ [x] else s1.1, s1.2)
def putB (l : List Broker) (b : Broker) : List Broker :=
  let s := l.foldl (putStep b) ([], false)
  if s.2 then s.1 else s.1 ++ [b]
def Image.register (m : Image) (r : Record) : Image × Int :=
  if (m.broker r.broker).isSome && decide (r.epoch ≤ ((m.broker r.broker).getD zB).epoch) then (m, 11)
  else if (m.broker r.broker).isSome && m.any (fun p => p.leader == r.broker) then (m, 10)
  else ({ m with brokers := putB m.brokers ⟨r.broker, r.epoch, r.rack, true, false⟩ }, 0)
def Image.addTopic (m : Image) (r : Record) : Image × Int :=
  if r.topic ≠ IntKind.i64.wrap (m.last + 1) then (m, 10)
  else if (m.named r.name).isSome then (m, 9)
  else if 256 ≤ m.topics.length then (m, 6)
  else ({ m with topics := m.topics ++ [⟨r.topic, r.name, []⟩], last := r.topic }, 0)
def abouts (k : Int) : List UInt8 :=
  if k = 2 then [98, 101, 114]
  else if k = 3 ∨ k = 4 ∨ k = 5 ∨ k = 6 then [98, 101]
  else if k = 7 then [116, 110]
  else if k = 8 then [116, 112, 108, 105, 109]
  else if k = 9 then [116, 101, 112, 108, 105, 109, 120]
  else if k = 10 then [116, 107, 118, 102]
  else if k = 11 then [116]
  else if k = 12 then [97]
  else []
def hasB (k c : Int) : Bool := (abouts k).any fun b => (b.toNat : Int) == c
def numB (n : Int) (asks : Bool) (lo hi : Int) : Bool := if asks then decide (lo ≤ n) && decide (n ≤ hi) else n == 0
def okCh (c : UInt8) : Bool := (decide (97 ≤ (c.toNat : Int)) && decide ((c.toNat : Int) ≤ 122)) || (decide (48 ≤ (c.toNat : Int)) && decide ((c.toNat : Int) ≤ 57)) || (c.toNat : Int) == 46 || (c.toNat : Int) == 45
def nameB (s : ByteArray) : Bool := !(decide ((s.size : Int) < 1) || decide ((s.size : Int) > 40) || s.toList == [46] || s.toList == [46, 46]) && s.data.toList.all okCh
theorem all_at {α : Type} {l : List α} {p : α → Bool} {i : Nat} (hi : i < l.length) (hx : p l[i] = false) : l.all p = false := by
  rw [List.all_eq_false]; exact ⟨l[i], List.getElem_mem hi, by simp [hx]⟩
theorem all_no {α : Type} {l : List α} {p : α → Bool} {i : Nat} (hi : l.length ≤ i) (h : ∀ x ∈ l.take i, p x = true) : l.all p = true := by
  rw [List.take_of_length_le hi] at h
  rw [List.all_eq_true]; exact h
theorem take_all {α : Type} {l : List α} {p : α → Prop} {i : Nat} (hi : i < l.length) (h : ∀ x ∈ l.take i, p x) (hx : p l[i]) : ∀ x ∈ l.take (i + 1), p x := by
  intro x hx'
  rw [List.take_add_one, List.getElem?_eq_getElem hi] at hx'
  simp only [Option.toList_some, List.mem_append, List.mem_singleton] at hx'
  rcases hx' with h' | rfl
  · exact h x h'
  · exact hx
abbrev brokersB (l : List Int) : Bool := decide (l.length ≤ 7 ∧ (∀ n ∈ l, 1 ≤ n ∧ n ≤ 64) ∧ l.Nodup)
def lowT (k : Int) : Int := if k = 10 then 0 else 1
abbrev big : Int := 1073741824
structure Wrong where
  op : ByteArray
  at' : Int
  code : Int
abbrev bs (l : List UInt8) : ByteArray := ⟨⟨l⟩⟩
def numsW (r : Record) : Wrong :=
  if !numB r.broker (hasB r.kind 98) 1 64 then ⟨bs [98, 114, 111, 107, 101, 114], r.broker, 2⟩
  else if !numB r.epoch (hasB r.kind 101) 0 1073741824 then ⟨bs [101, 112, 111, 99, 104], r.epoch, 2⟩
  else if !numB r.topic (hasB r.kind 116) (lowT r.kind) 1073741824 then ⟨bs [116, 111, 112, 105, 99], r.topic, 2⟩
  else if !numB r.part (hasB r.kind 112) 0 255 then ⟨bs [112, 97, 114, 116], r.part, 2⟩
  else if !numB r.leader (hasB r.kind 108) 0 64 then ⟨bs [108, 101, 97, 100, 101, 114], r.leader, 2⟩
  else if !numB r.client (hasB r.kind 97) 1 1073741824 || !numB r.serial (hasB r.kind 97) 1 1073741824 || !numB r.code (hasB r.kind 97) 0 21 then ⟨bs [97, 115, 107, 101, 114], r.client, 2⟩
  else ⟨bs [], 0, 0⟩
def nmB (s : ByteArray) (a : Bool) : Bool := if a then nameB s else s.toList == []
def rwB (l : List Int) (a : Bool) : Bool := if a then brokersB l else l.length == 0
def checkW (r : Record) : Wrong :=
  if r.kind < 1 ∨ 12 < r.kind then ⟨bs [107, 105, 110, 100], r.kind, 5⟩
  else if (numsW r).code ≠ 0 then numsW r
  else if r.flag && !hasB r.kind 102 then ⟨bs [102, 108, 97, 103], 1, 1⟩
  else if !nmB r.name (hasB r.kind 110) || !nmB r.key (hasB r.kind 107) || !nmB r.rack (hasB r.kind 114) then ⟨bs [110, 97, 109, 101], r.name.size, 1⟩
  else if 256 < (r.value.size : Int) ∨ (r.value.toList ≠ [] ∧ (r.flag = true ∨ hasB r.kind 118 = false)) then ⟨bs [118, 97, 108, 117, 101], r.value.size, 6⟩
  else if !rwB r.ids (hasB r.kind 105) || !rwB r.isr (hasB r.kind 109) || !rwB r.add (hasB r.kind 120) || !rwB r.drop (hasB r.kind 120) then ⟨bs [114, 111, 119], r.ids.length, 18⟩
  else ⟨bs [], 0, 0⟩
def Image.right (m : Image) (p : Part) : Int :=
  if p.ids.length = 0 then 18
  else if p.ids.any (fun n => (m.broker n).isNone) then 18
  else if p.isr.length = 0 then 18
  else if p.isr.any (fun n => !p.ids.contains n) then 18
  else if p.leader ≠ 0 ∧ (p.isr.contains p.leader = false ∨ m.alive p.leader = false) then 17
  else if p.add.any (fun n => !p.ids.contains n || p.drop.contains n) then 18
  else if p.drop.any (fun n => !p.ids.contains n) then 18
  else 0
theorem drop_cons {α : Type} {l : List α} {i : Nat} (hi : i < l.length) : l.drop i = l[i] :: l.drop (i + 1) := List.drop_eq_getElem_cons hi
theorem drop_nil {α : Type} {l : List α} {i : Nat} (hi : l.length ≤ i) : l.drop i = [] := List.drop_eq_nil_of_le hi
def zM : Image := ⟨[], [], [], [], 0⟩
def Part.same (a b : Part) : Bool := a.leader == b.leader && a.epoch == b.epoch && a.ids == b.ids && a.isr == b.isr && a.add == b.add && a.drop == b.drop
def setAt {α : Type} (l : List α) (n : Nat) (x : α) : List α := l.take n ++ x :: l.drop (n + 1)
def Record.toPart (r : Record) : Part := ⟨r.ids, r.isr, r.leader, r.epoch, r.add, r.drop⟩
def Image.brokerRec (m : Image) (r : Record) : Image × Int :=
  match m.broker r.broker with
  | none => (m, 8)
  | some b =>
    if b.epoch ≠ r.epoch then (m, 11)
    else if r.kind = 3 then (if b.fenced || m.any (fun p => p.leader == b.id) then (m, 10) else ({ m with brokers := putB m.brokers { b with fenced := true } }, 0))
    else if r.kind = 4 then (if !b.fenced then (m, 10) else ({ m with brokers := putB m.brokers { b with fenced := false, leaving := false } }, 0))
    else if r.kind = 5 then (if b.fenced || b.leaving then (m, 10) else ({ m with brokers := putB m.brokers { b with leaving := true } }, 0))
    else if m.any (fun p => p.ids.contains b.id) then (m, 10) else ({ m with brokers := m.brokers.filter fun x => x.id != b.id }, 0)
def Image.putPart (m : Image) (id : Int) (n : Nat) (p : Part) : Image :=
  { m with topics := m.topics.map fun t => if t.id = id then { t with parts := setAt t.parts n p } else t }
def Image.partRec (m : Image) (r : Record) : Image × Int :=
  match m.topic r.topic with
  | none => (m, 8)
  | some t =>
    if m.right r.toPart ≠ 0 then (m, m.right r.toPart)
    else if r.kind = 8 then (if r.part ≠ t.parts.length then (m, 10) else (m.putPart r.topic r.part.toNat r.toPart, 0))
    else if (t.parts.length : Int) ≤ r.part then (m, 8)
    else if r.epoch < (t.parts[r.part.toNat]?.getD zP).epoch ∨ (t.parts[r.part.toNat]?.getD zP).epoch + 1 < r.epoch ∨ (r.epoch = (t.parts[r.part.toNat]?.getD zP).epoch ∧ r.leader ≠ (t.parts[r.part.toNat]?.getD zP).leader) then (m, 11)
    else if (t.parts[r.part.toNat]?.getD zP).same r.toPart then (m, 10)
    else (m.putPart r.topic r.part.toNat r.toPart, 0)
def Image.dropRec (m : Image) (id : Int) : Image × Int :=
  if (m.topic id).isNone then (m, 8)
  else ({ m with topics := m.topics.filter (fun t => t.id != id), configs := m.configs.filter (fun c => c.topic != id) }, 0)
def putCStep (r : Record) (s : List Config × Bool) (c : Config) : List Config × Bool :=
  let s1 := if !s.2 && (decide (r.topic < c.topic) || (c.topic == r.topic && !Op.bytesLess c.key.toList r.key.toList)) then (s.1 ++ [⟨r.topic, r.key, r.value⟩], true) else s
  (if c.topic != r.topic || !(c.key.toList == r.key.toList) then s1.1 ++ [c] else s1.1, s1.2)
def putC (l : List Config) (r : Record) : List Config :=
  let s := l.foldl (putCStep r) ([], r.flag)
  if s.2 then s.1 else s.1 ++ [⟨r.topic, r.key, r.value⟩]
def Image.configRec (m : Image) (r : Record) : Image × Int :=
  if (m.topic r.topic).isNone ∧ r.topic ≠ 0 then (m, 8)
  else if r.flag = true ∧ (m.config r.topic r.key).isNone then (m, 8)
  else ({ m with configs := putC m.configs r }, 0)
def Image.doneRec (m : Image) (r : Record) : Image × Int :=
  if (m.answered r.client r.serial).isSome then (m, 9)
  else ({ m with done := m.done.drop (m.done.length - 63) ++ [⟨r.client, r.serial, r.code⟩] }, 0)
def Image.apply (m : Image) (r : Record) : Image × Int :=
  if (checkW r).code ≠ 0 then (m, (checkW r).code)
  else if r.kind = 2 then m.register r
  else if r.kind = 3 ∨ r.kind = 4 ∨ r.kind = 5 ∨ r.kind = 6 then m.brokerRec r
  else if r.kind = 8 ∨ r.kind = 9 then m.partRec r
  else if r.kind = 7 then m.addTopic r
  else if r.kind = 11 then m.dropRec r.topic
  else if r.kind = 10 then m.configRec r
  else if r.kind = 12 then m.doneRec r
  else (m, 0)
def Image.allFrom (m0 : Image) : Image → List Record → Image × Int
  | out, [] => (out, 0)
  | out, r :: l => if (out.apply r).2 ≠ 0 then (m0, (out.apply r).2) else allFrom m0 (out.apply r).1 l
def Image.all (m : Image) (l : List Record) : Image × Int := m.allFrom m l
def madeFrom (m : Image) (l : List Record) : Image := l.foldl (fun m r => (m.apply r).1) m
def made (l : List Record) : Image := madeFrom zM l
structure Image.Pre (m : Image) : Prop where
  bl : m.brokers.length ≤ 1000
  tl : m.topics.length ≤ 1000
  cl : m.configs.length ≤ 1000
  dl : m.done.length ≤ 1000
  pl : ∀ t ∈ m.topics, t.parts.length ≤ 1000
  ti : m.topics.Pairwise fun a b => a.id < b.id
  ep : ∀ t ∈ m.topics, ∀ p ∈ t.parts, 0 ≤ p.epoch ∧ p.epoch ≤ 1000000
end
end Go.Am
end
section
namespace Go.Am
open Go
noncomputable section
theorem nums_iff (r : Record) : (numsW r).code = 0 ↔ numB r.broker (hasB r.kind 98) 1 64 = true ∧ numB r.epoch (hasB r.kind 101) 0 1073741824 = true ∧ numB r.topic (hasB r.kind 116) (lowT r.kind) 1073741824 = true ∧ numB r.part (hasB r.kind 112) 0 255 = true ∧ numB r.leader (hasB r.kind 108) 0 64 = true ∧
    numB r.client (hasB r.kind 97) 1 1073741824 = true ∧ numB r.serial (hasB r.kind 97) 1 1073741824 = true ∧ numB r.code (hasB r.kind 97) 0 21 = true := by
  unfold numsW
  (repeat' split) <;> first | (simp_all; done) | grind
structure Record.Chk (r : Record) : Prop where
  kind : 1 ≤ r.kind ∧ r.kind ≤ 12
  nums : numB r.broker (hasB r.kind 98) 1 64 = true ∧ numB r.epoch (hasB r.kind 101) 0 1073741824 = true ∧ numB r.topic (hasB r.kind 116) (lowT r.kind) 1073741824 = true ∧ numB r.part (hasB r.kind 112) 0 255 = true ∧ numB r.leader (hasB r.kind 108) 0 64 = true ∧
    numB r.client (hasB r.kind 97) 1 1073741824 = true ∧ numB r.serial (hasB r.kind 97) 1 1073741824 = true ∧ numB r.code (hasB r.kind 97) 0 21 = true
  flag : r.flag = true → hasB r.kind 102 = true
  names : nmB r.name (hasB r.kind 110) = true ∧ nmB r.key (hasB r.kind 107) = true ∧ nmB r.rack (hasB r.kind 114) = true
  value : (r.value.size : Int) ≤ 256 ∧ (r.value.toList = [] ∨ (r.flag = false ∧ hasB r.kind 118 = true))
  rows : rwB r.ids (hasB r.kind 105) = true ∧ rwB r.isr (hasB r.kind 109) = true ∧ rwB r.add (hasB r.kind 120) = true ∧ rwB r.drop (hasB r.kind 120) = true
theorem check_iff (r : Record) : (checkW r).code = 0 ↔ r.Chk := by
  constructor
  · intro h
    unfold checkW at h
    split at h
    · simp at h
    split at h
    · simp_all
    split at h
    · simp at h
    split at h
    · simp at h
    split at h
    · simp at h
    split at h
    · simp at h
    rename_i h1 h2 h3 h4 h5 h6
    refine ⟨by omega, (nums_iff r).1 (by simpa using h2), ?_, ?_, ?_, ?_⟩
    · intro hf; simpa [hf] using h3
    · simp at h4; exact ⟨h4.1.1, h4.1.2, h4.2⟩
    · constructor
      · omega
      · by_cases hv : r.value.toList = []
        · exact .inl hv
        · right
          simp only [not_or, not_and, ne_eq] at h5
          have := h5.2 hv
          simpa using this
    · simp at h6; exact ⟨h6.1.1.1, h6.1.1.2, h6.1.2, h6.2⟩
  · intro h
    unfold checkW
    rw [if_neg (by have := h.kind; omega), if_neg (by simp [(nums_iff r).2 h.nums]), if_neg, if_neg, if_neg, if_neg]
    · simp [h.rows.1, h.rows.2.1, h.rows.2.2.1, h.rows.2.2.2]
    · intro hc
      rcases hc with hc | ⟨h1, h2⟩
      · have := h.value.1; omega
      · rcases h.value.2 with h3 | ⟨h3, h4⟩
        · exact h1 h3
        · simp_all
    · simp [h.names.1, h.names.2.1, h.names.2.2]
    · intro hc; simp at hc; have := h.flag hc.1; simp_all
theorem check_part {r : Record} (hc : (checkW r).code = 0) (hk : r.kind = 8 ∨ r.kind = 9) : 0 ≤ r.part ∧ r.part ≤ 255 := by
  have h := ((check_iff r).1 hc).nums.2.2.2.1
  rcases hk with hk | hk <;> rw [hk] at h <;> simpa [numB, hasB, abouts] using h
end
end Go.Am
end
section
namespace Go.Am
open Go
noncomputable section
abbrev srtB (l : List Broker) : Prop := l.Pairwise fun a b => a.id < b.id
theorem putB_done (b : Broker) : ∀ (l : List Broker) (acc : List Broker), l.foldl (putStep b) (acc, true) = (acc ++ l.filter (fun x => x.id != b.id), true) := by
  intro l
  induction l with
  | nil => intro acc; simp
  | cons x l ih =>
    intro acc
    simp only [List.foldl_cons, putStep, Bool.not_true, Bool.false_and, Bool.false_eq_true, if_false, List.filter_cons]
    split
    · rw [ih]; simp
    · rw [ih]
theorem putB_from (b : Broker) : ∀ (l : List Broker) (acc : List Broker), srtB l →
    (let s := l.foldl (putStep b) (acc, false); if s.2 then s.1 else s.1 ++ [b]) = acc ++ l.filter (fun x => decide (x.id < b.id)) ++ b :: l.filter (fun x => decide (b.id < x.id)) := by
  intro l
  induction l with
  | nil => intro acc _; simp
  | cons x l ih =>
    intro acc hs
    rw [srtB, List.pairwise_cons] at hs
    by_cases hx : b.id ≤ x.id
    · have h1 : l.filter (fun y => decide (y.id < b.id)) = [] := by
        rw [List.filter_eq_nil_iff]; intro y hy; have := hs.1 y hy; simp; omega
      have h2 : l.filter (fun y => y.id != b.id) = l := by
        rw [List.filter_eq_self]; intro y hy; have := hs.1 y hy; simp; omega
      have h3 : l.filter (fun y => decide (b.id < y.id)) = l := by
        rw [List.filter_eq_self]; intro y hy; have := hs.1 y hy; simp; omega
      simp only [List.foldl_cons, putStep, Bool.not_false, Bool.true_and, decide_eq_true_eq, hx, if_true, List.filter_cons]
      by_cases he : x.id = b.id
      · simp [he, putB_done, h1, h2, h3]
      · have hlt : b.id < x.id := by omega
        have hnl : ¬ x.id < b.id := by omega
        simp [he, putB_done, h1, h2, h3, hlt, hnl]
    · have hlt : x.id < b.id := by omega
      have hne : ¬ x.id = b.id := by omega
      have hng : ¬ b.id < x.id := by omega
      simp only [List.foldl_cons, putStep, Bool.not_false, Bool.true_and, decide_eq_true_eq, hx, if_false, List.filter_cons]
      have := ih (acc ++ [x]) hs.2
      simp [hne, hlt, hng] at this ⊢
      exact this
theorem putB_eq {l : List Broker} (b : Broker) (h : srtB l) : putB l b = l.filter (fun x => decide (x.id < b.id)) ++ b :: l.filter (fun x => decide (b.id < x.id)) := by
  have := putB_from b l [] h
  simpa [putB] using this
theorem putB_mem {l : List Broker} {b x : Broker} (h : srtB l) : x ∈ putB l b ↔ x = b ∨ (x ∈ l ∧ x.id ≠ b.id) := by
  rw [putB_eq b h]
  simp only [List.mem_append, List.mem_filter, List.mem_cons, decide_eq_true_eq]
  constructor
  · rintro (⟨h1, h2⟩ | rfl | ⟨h1, h2⟩)
    · exact .inr ⟨h1, by omega⟩
    · exact .inl rfl
    · exact .inr ⟨h1, by omega⟩
  · rintro (rfl | ⟨h1, h2⟩)
    · exact .inr (.inl rfl)
    · rcases Int.lt_or_gt_of_ne h2 with h | h
      · exact .inl ⟨h1, h⟩
      · exact .inr (.inr ⟨h1, h⟩)
theorem putB_srt {l : List Broker} {b : Broker} (h : srtB l) : srtB (putB l b) := by
  rw [putB_eq b h, srtB, List.pairwise_append]
  refine ⟨h.filter _, ?_, ?_⟩
  · rw [List.pairwise_cons]
    refine ⟨fun y hy => ?_, h.filter _⟩
    simpa using (List.mem_filter.1 hy).2
  · intro x hx y hy
    have h1 := (List.mem_filter.1 hx).2
    rcases List.mem_cons.1 hy with rfl | hy
    · simpa using h1
    · have h2 := (List.mem_filter.1 hy).2
      simp at h1 h2; omega
theorem find_srt {l : List Broker} (h : srtB l) {id : Int} {b : Broker} : l.find? (fun x => x.id == id) = some b ↔ b ∈ l ∧ b.id = id := by
  constructor
  · intro hf; exact ⟨List.mem_of_find?_eq_some hf, by simpa using List.find?_some hf⟩
  · rintro ⟨hm, rfl⟩
    induction l with
    | nil => simp at hm
    | cons x l ih =>
      rw [srtB, List.pairwise_cons] at h
      rw [List.find?_cons]
      rcases List.mem_cons.1 hm with rfl | hm
      · simp
      · have := h.1 b hm
        have hne : (x.id == b.id) = false := by simp; omega
        rw [hne]; exact ih h.2 hm
theorem find_none_srt {l : List Broker} {id : Int} : l.find? (fun x => x.id == id) = none ↔ ∀ b ∈ l, b.id ≠ id := by
  rw [List.find?_eq_none]; simp
theorem broker_put {l : List Broker} {b : Broker} (h : srtB l) (id : Int) : (putB l b).find? (fun x => x.id == id) = if id = b.id then some b else l.find? (fun x => x.id == id) := by
  split
  · rename_i e; subst e
    rw [find_srt (putB_srt h)]; exact ⟨(putB_mem h).2 (.inl rfl), rfl⟩
  · rename_i e
    cases hf : l.find? (fun x => x.id == id) with
    | none =>
      rw [find_none_srt] at hf ⊢
      intro x hx
      rcases (putB_mem h).1 hx with rfl | ⟨hx, _⟩
      · exact fun e' => e e'.symm
      · exact hf x hx
    | some y =>
      rw [find_srt h] at hf
      rw [find_srt (putB_srt h)]
      exact ⟨(putB_mem h).2 (.inr ⟨hf.1, by rw [hf.2]; exact e⟩), hf.2⟩
theorem putB_len (l : List Broker) (b : Broker) (h : srtB l) : (putB l b).length ≤ l.length + 1 := by
  have aux : ∀ (l : List Broker), srtB l → (l.filter (fun x => decide (x.id < b.id))).length + (l.filter (fun x => decide (b.id < x.id))).length ≤ l.length := by
    intro l
    induction l with
    | nil => simp
    | cons x l ih =>
      intro h
      have := ih (List.pairwise_cons.1 h).2
      simp only [List.filter_cons, List.length_cons]
      by_cases h1 : x.id < b.id
      · have h2 : ¬ b.id < x.id := by omega
        simp [h1, h2]; omega
      · by_cases h2 : b.id < x.id <;> simp [h1, h2] <;> omega
  rw [putB_eq b h]
  have := aux l h
  simp; omega
structure Image.Right (m : Image) (p : Part) : Prop where
  ids : p.ids ≠ []
  reg : ∀ n ∈ p.ids, (m.broker n).isSome = true
  isr : p.isr ≠ []
  sub : ∀ n ∈ p.isr, n ∈ p.ids
  lead : p.leader ≠ 0 → p.leader ∈ p.isr ∧ m.alive p.leader = true
  add : ∀ n ∈ p.add, n ∈ p.ids ∧ n ∉ p.drop
  drop : ∀ n ∈ p.drop, n ∈ p.ids
theorem right_iff {m : Image} {p : Part} : m.right p = 0 ↔ m.Right p := by
  unfold Image.right
  constructor
  · intro h
    split at h
    · simp at h
    split at h
    · simp at h
    split at h
    · simp at h
    split at h
    · simp at h
    split at h
    · simp at h
    split at h
    · simp at h
    split at h
    · simp at h
    rename_i h1 h2 h3 h4 h5 h6 h7
    refine ⟨by simpa using h1, ?_, by simpa using h3, by simpa using h4, ?_, ?_, by simpa using h7⟩
    · intro n hn
      simp only [List.any_eq_true, not_exists, not_and] at h2
      have := h2 n hn
      cases hb : m.broker n <;> simp_all
    · intro hl
      simp only [ne_eq, not_and, not_or] at h5
      have := h5 hl
      simpa using this
    · intro n hn
      simp only [List.any_eq_true, not_exists, not_and] at h6
      have := h6 n hn
      simpa using this
  · intro h
    rw [if_neg (by simpa using h.ids), if_neg, if_neg (by simpa using h.isr), if_neg (by simpa using h.sub), if_neg, if_neg, if_neg (by simpa using h.drop)]
    · simp only [List.any_eq_true, not_exists, not_and]
      intro n hn
      have := h.add n hn
      simp [this.1, this.2]
    · rintro ⟨h1, h2⟩
      have := h.lead h1
      simp_all
    · simp only [List.any_eq_true, not_exists, not_and]
      intro n hn
      have := h.reg n hn
      cases hb : m.broker n <;> simp_all
theorem Image.Right.mono {m m' : Image} {p : Part} (h : m.Right p) (h1 : ∀ n ∈ p.ids, (m.broker n).isSome = true → (m'.broker n).isSome = true) (h2 : p.leader ≠ 0 → m.alive p.leader = true → m'.alive p.leader = true) : m'.Right p :=
  ⟨h.ids, fun n hn => h1 n hn (h.reg n hn), h.isr, h.sub, fun hl => ⟨(h.lead hl).1, h2 hl (h.lead hl).2⟩, h.add, h.drop⟩
structure Part.Rows (p : Part) (n : Nat) : Prop where
  ids : brokersB p.ids = true
  isr : brokersB p.isr = true
  add : brokersB p.add = true
  drop : brokersB p.drop = true
  ep : 0 ≤ p.epoch ∧ p.epoch ≤ n
  le : 0 ≤ p.leader ∧ p.leader ≤ 64
theorem brokersB_nil : brokersB [] = true := by simp [brokersB]
structure Image.Inv (m : Image) (n : Nat) : Prop where
  bs : srtB m.brokers
  br : ∀ b ∈ m.brokers, 1 ≤ b.id ∧ b.id ≤ 64 ∧ 0 ≤ b.epoch ∧ b.epoch ≤ 1073741824 ∧ nameB b.rack = true
  bl : m.brokers.length ≤ n
  ti : m.topics.Pairwise fun a b => a.id < b.id
  tr : ∀ t ∈ m.topics, 1 ≤ t.id ∧ t.id ≤ m.last
  tn : m.topics.Pairwise fun a b => a.name.toList ≠ b.name.toList
  la : 0 ≤ m.last ∧ m.last ≤ n
  tl : m.topics.length ≤ n
  pl : ∀ t ∈ m.topics, t.parts.length ≤ n
  cl : m.configs.length ≤ n
  dl : m.done.length ≤ n
  pr : ∀ t ∈ m.topics, ∀ p ∈ t.parts, m.Right p ∧ p.Rows n
theorem Image.Inv.pre {m : Image} {n : Nat} (h : m.Inv n) (hn : n ≤ 1000) : m.Pre :=
  ⟨by have := h.bl; omega, by have := h.tl; omega, by have := h.cl; omega, by have := h.dl; omega, fun t ht => by have := h.pl t ht; omega, h.ti, fun t ht p hp => by have := (h.pr t ht p hp).2.ep; omega⟩
theorem zM_inv : zM.Inv 0 := by constructor <;> simp [zM]
theorem Part.Rows.mono {p : Part} {n k : Nat} (h : p.Rows n) (hk : n ≤ k) : p.Rows k := ⟨h.ids, h.isr, h.add, h.drop, by have := h.ep; omega, h.le⟩
theorem Image.Inv.mono {m : Image} {n k : Nat} (h : m.Inv n) (hk : n ≤ k) : m.Inv k :=
  ⟨h.bs, h.br, by have := h.bl; omega, h.ti, h.tr, h.tn, by have := h.la; omega, by have := h.tl; omega, fun t ht => by have := h.pl t ht; omega, by have := h.cl; omega, by have := h.dl; omega,
    fun t ht p hp => ⟨(h.pr t ht p hp).1, (h.pr t ht p hp).2.mono hk⟩⟩
theorem Image.Inv.setB {m : Image} {n : Nat} (h : m.Inv n) {l : List Broker} (h1 : srtB l) (h2 : ∀ b ∈ l, 1 ≤ b.id ∧ b.id ≤ 64 ∧ 0 ≤ b.epoch ∧ b.epoch ≤ 1073741824 ∧ nameB b.rack = true) (h3 : l.length ≤ n + 1)
    (h4 : ∀ t ∈ m.topics, ∀ p ∈ t.parts, ({ m with brokers := l } : Image).Right p) : ({ m with brokers := l } : Image).Inv (n + 1) :=
  ⟨h1, h2, h3, h.ti, h.tr, h.tn, by have := h.la; simp only; omega, by have := h.tl; simp only; omega, fun t ht => by have := h.pl t ht; omega, by have := h.cl; simp only; omega, by have := h.dl; simp only; omega,
    fun t ht p hp => ⟨h4 t ht p hp, (h.pr t ht p hp).2.mono (by omega)⟩⟩
theorem any_false {m : Image} {f : Part → Bool} (h : m.any f = false) {t : Topic} (ht : t ∈ m.topics) {p : Part} (hp : p ∈ t.parts) : f p = false := by
  simp only [Image.any, Topic.any, List.any_eq_false] at h
  have := h t ht
  simp only [Bool.not_eq_true, List.any_eq_false] at this
  simpa using this p hp
theorem Image.Inv.putB {m : Image} {n : Nat} (h : m.Inv n) {b : Broker} (hb : 1 ≤ b.id ∧ b.id ≤ 64 ∧ 0 ≤ b.epoch ∧ b.epoch ≤ 1073741824 ∧ nameB b.rack = true) (hl : b.fenced = false ∨ m.any (fun p => p.leader == b.id) = false) : ({ m with brokers := Am.putB m.brokers b } : Image).Inv (n + 1) := by
  have hf : ∀ id, ({ m with brokers := Am.putB m.brokers b } : Image).broker id = if id = b.id then some b else m.broker id := fun id => broker_put h.bs id
  refine h.setB (putB_srt h.bs) ?_ ?_ ?_
  · intro x hx
    rcases (putB_mem h.bs).1 hx with rfl | ⟨hx, _⟩
    · exact hb
    · exact h.br x hx
  · have := putB_len m.brokers b h.bs; have := h.bl; omega
  · intro t ht p hp
    refine (h.pr t ht p hp).1.mono ?_ ?_
    · intro k hk hs
      rw [hf]; split
      · rfl
      · exact hs
    · intro hl0 ha
      unfold Image.alive
      rw [hf]
      by_cases e : p.leader = b.id
      · rw [if_pos e]
        rcases hl with hl | hl
        · simp [hl]
        · have := any_false hl ht hp
          simp at this; exact absurd e this
      · rw [if_neg e]; exact ha
theorem setAt_mem {α : Type} {l : List α} {n : Nat} {x y : α} (h : y ∈ setAt l n x) : y = x ∨ y ∈ l := by
  simp only [setAt, List.mem_append, List.mem_cons] at h
  rcases h with h | rfl | h
  · exact .inr (List.mem_of_mem_take h)
  · exact .inl rfl
  · exact .inr (List.mem_of_mem_drop h)
theorem setAt_len {α : Type} (l : List α) (n : Nat) (x : α) : (setAt l n x).length ≤ l.length + 1 := by
  simp only [setAt, List.length_append, List.length_take, List.length_cons, List.length_drop]; omega
theorem Image.Inv.putPart {m : Image} {n : Nat} (h : m.Inv n) (id : Int) (k : Nat) {p : Part} (hr : m.Right p) (hp : p.Rows (n + 1)) : (m.putPart id k p).Inv (n + 1) := by
  have e : ∀ t ∈ (m.putPart id k p).topics, ∃ u ∈ m.topics, t.id = u.id ∧ t.name = u.name ∧ (t.parts = u.parts ∨ t.parts = setAt u.parts k p) := by
    intro t ht
    simp only [Image.putPart, List.mem_map] at ht
    obtain ⟨u, hu, rfl⟩ := ht
    refine ⟨u, hu, ?_⟩
    split <;> simp
  refine ⟨h.bs, h.br, by have := h.bl; simp only [Image.putPart]; omega, ?_, ?_, ?_, by have := h.la; simp only [Image.putPart]; omega, by have := h.tl; simp only [Image.putPart, List.length_map]; omega, ?_, by have := h.cl; simp only [Image.putPart]; omega, by have := h.dl; simp only [Image.putPart]; omega, ?_⟩
  · simp only [Image.putPart, List.pairwise_map]
    refine h.ti.imp ?_
    intro a b hab; split <;> split <;> exact hab
  · intro t ht
    obtain ⟨u, hu, e1, _⟩ := e t ht
    rw [e1]; exact h.tr u hu
  · simp only [Image.putPart, List.pairwise_map]
    refine h.tn.imp ?_
    intro a b hab; split <;> split <;> exact hab
  · intro t ht
    obtain ⟨u, hu, _, _, e1 | e1⟩ := e t ht
    · rw [e1]; have := h.pl u hu; omega
    · rw [e1]; have := h.pl u hu; have := setAt_len u.parts k p; omega
  · intro t ht q hq
    have hm : ∀ q, m.Right q → (m.putPart id k p).Right q := fun q hq => hq.mono (fun _ _ h => h) (fun _ h => h)
    obtain ⟨u, hu, _, _, e1 | e1⟩ := e t ht
    · rw [e1] at hq; exact ⟨hm _ (h.pr u hu q hq).1, (h.pr u hu q hq).2.mono (by omega)⟩
    · rw [e1] at hq
      rcases setAt_mem hq with rfl | hq
      · exact ⟨hm _ hr, hp⟩
      · exact ⟨hm _ (h.pr u hu q hq).1, (h.pr u hu q hq).2.mono (by omega)⟩
theorem putC_len (l : List Config) (r : Record) : (putC l r).length ≤ l.length + 1 := by
  have hd : ∀ (l : List Config) (acc : List Config), (l.foldl (putCStep r) (acc, true)).2 = true ∧ (l.foldl (putCStep r) (acc, true)).1.length ≤ acc.length + l.length := by
    intro l
    induction l with
    | nil => intro acc; simp
    | cons c l ih =>
      intro acc
      simp only [List.foldl_cons, putCStep, Bool.not_true, Bool.false_and, Bool.false_eq_true, if_false]
      split
      · have := ih (acc ++ [c]); simp at this ⊢; exact ⟨this.1, by omega⟩
      · have := ih acc; simp at this ⊢; exact ⟨this.1, by omega⟩
  have hn : ∀ (l : List Config) (acc : List Config), (let s := l.foldl (putCStep r) (acc, false); if s.2 then s.1.length else s.1.length + 1) ≤ acc.length + l.length + 1 := by
    intro l
    induction l with
    | nil => intro acc; simp
    | cons c l ih =>
      intro acc
      simp only [List.foldl_cons, putCStep, Bool.not_false, Bool.true_and]
      by_cases hc : (decide (r.topic < c.topic) || c.topic == r.topic && !Op.bytesLess c.key.toList r.key.toList) = true
      · simp only [hc, if_true]
        split
        · have := hd l (acc ++ [⟨r.topic, r.key, r.value⟩] ++ [c]); simp at this ⊢; rw [this.1]; simp; omega
        · have := hd l (acc ++ [⟨r.topic, r.key, r.value⟩]); simp at this ⊢; rw [this.1]; simp; omega
      · simp only [hc, if_false, Bool.false_eq_true]
        split
        · have := ih (acc ++ [c]); simp at this ⊢; omega
        · have := ih acc; simp at this ⊢; omega
  unfold putC
  cases hf : r.flag with
  | true => have := hd l []; simp at this ⊢; rw [this.1]; simp; omega
  | false =>
    have := hn l []
    simp only at this ⊢
    split at this <;> rename_i hc <;> simp [hc] at this ⊢ <;> omega
theorem i64_wrap {n : Int} (h : -9223372036854775808 ≤ n ∧ n ≤ 9223372036854775807) : IntKind.i64.wrap n = n := by
  simp [IntKind.wrap, IntKind.bits, IntKind.signed, Int.bmod]; omega
theorem Image.Inv.apply {m : Image} {n : Nat} (h : m.Inv n) (hn : n ≤ 1000000) (r : Record) : (m.apply r).1.Inv (n + 1) := by
  have hm : m.Inv (n + 1) := h.mono (by omega)
  unfold Image.apply
  split
  · exact hm
  rename_i hc
  have hc : r.Chk := (check_iff r).1 (by simpa using hc)
  split
  · rename_i hk
    unfold Image.register
    split
    · exact hm
    split
    · exact hm
    rename_i h1 h2
    have hnm := hc.nums
    have hnn := hc.names
    rw [hk] at hnm hnn
    simp [numB, hasB, abouts, nmB] at hnm hnn
    refine h.putB ⟨by simp only; omega, by simp only; omega, by simp only; omega, by simp only; omega, hnn.2.2⟩ ?_
    right
    simp only [Bool.and_eq_true, not_and, Bool.not_eq_true] at h2
    cases hb : (m.broker r.broker).isSome with
    | true => exact h2 hb
    | false =>
      simp only [Image.any, Topic.any, List.any_eq_false]
      intro t ht
      simp only [Bool.not_eq_true, List.any_eq_false, beq_iff_eq]
      intro p hp e
      have hr := (h.pr t ht p hp).1
      have hne : p.leader ≠ 0 := by omega
      have := hr.reg _ (hr.sub _ (hr.lead hne).1)
      rw [e, hb] at this; simp at this
  split
  · rename_i hk
    unfold Image.brokerRec
    split
    · exact hm
    rename_i b hb
    have hbm : b ∈ m.brokers ∧ b.id = r.broker := (find_srt h.bs).1 hb
    have hbr := h.br b hbm.1
    split
    · exact hm
    split
    · split
      · exact hm
      · rename_i hx
        simp only [Bool.or_eq_true, not_or, Bool.not_eq_true] at hx
        exact h.putB hbr (.inr hx.2)
    split
    · split
      · exact hm
      · exact h.putB hbr (.inl rfl)
    split
    · split
      · exact hm
      · rename_i hx
        simp only [Bool.or_eq_true, not_or, Bool.not_eq_true] at hx
        exact h.putB hbr (.inl hx.1)
    split
    · exact hm
    · rename_i hx
      simp only [Bool.not_eq_true] at hx
      have hfi : ∀ k, k ≠ b.id → ({ m with brokers := m.brokers.filter fun x => x.id != b.id } : Image).broker k = m.broker k := by
        intro k hk
        unfold Image.broker
        rw [List.find?_filter]
        congr 1; funext x
        by_cases hxk : x.id = k
        · subst hxk; simp [hk]
        · simp [hxk]
      refine h.setB (h.bs.filter _) (fun x hx => h.br x (List.mem_filter.1 hx).1) (by have := h.bl; have := List.length_filter_le (fun x => x.id != b.id) m.brokers; omega) ?_
      intro t ht p hp
      have hr := (h.pr t ht p hp).1
      have hnu : b.id ∉ p.ids := by have := any_false hx ht hp; simpa using this
      refine hr.mono ?_ ?_
      · intro k hk hs
        rw [hfi k (fun e => hnu (e ▸ hk))]; exact hs
      · intro hl ha
        unfold Image.alive at ha ⊢
        rw [hfi _ (fun e => hnu (e ▸ hr.sub _ (hr.lead hl).1))]; exact ha
  split
  · rename_i hk
    unfold Image.partRec
    split
    · exact hm
    rename_i t ht
    have htm := List.mem_of_find?_eq_some ht
    split
    · exact hm
    rename_i hr
    have hr : m.Right r.toPart := right_iff.1 (by simpa using hr)
    have hrow : ∀ e : Int, (r.epoch = 0 ∨ (0 ≤ e ∧ e ≤ n ∧ e ≤ r.epoch ∧ r.epoch ≤ e + 1)) → r.toPart.Rows (n + 1) := by
      intro e he
      have h1 := hc.rows
      have h2 := hc.nums
      rcases hk with hk | hk
      · rw [hk] at h1 h2
        simp [rwB, hasB, abouts, numB] at h1 h2
        refine ⟨decide_eq_true h1.1, decide_eq_true h1.2.1, ?_, ?_, by simp only [Record.toPart]; omega, by simp only [Record.toPart]; omega⟩
        · simp only [Record.toPart, h1.2.2.1]; exact brokersB_nil
        · simp only [Record.toPart, h1.2.2.2]; exact brokersB_nil
      · rw [hk] at h1 h2
        simp [rwB, hasB, abouts, numB] at h1 h2
        exact ⟨decide_eq_true h1.1, decide_eq_true h1.2.1, decide_eq_true h1.2.2.1, decide_eq_true h1.2.2.2, by simp only [Record.toPart]; omega, by simp only [Record.toPart]; omega⟩
    split
    · split
      · exact hm
      · rename_i hk8 _
        refine h.putPart _ _ hr (hrow 0 (.inl ?_))
        have := hc.nums.2.1
        rw [hk8] at this
        simpa [numB, hasB, abouts] using this
    split
    · exact hm
    split
    · exact hm
    split
    · exact hm
    rename_i hk8 hpl hep hsame
    have hpp := check_part ((check_iff r).2 hc) hk
    have hlt : r.part.toNat < t.parts.length := by omega
    rw [List.getElem?_eq_getElem hlt] at hep
    simp only [Option.getD_some, not_or, not_and] at hep
    have := (h.pr t htm t.parts[r.part.toNat] (List.getElem_mem hlt)).2.ep
    exact h.putPart _ _ hr (hrow t.parts[r.part.toNat].epoch (.inr ⟨by omega, by omega, by omega, by omega⟩))
  split
  · rename_i hk
    unfold Image.addTopic
    split
    · exact hm
    split
    · exact hm
    split
    · exact hm
    rename_i h1 h2 h3
    have hla := h.la
    have hid : r.topic = m.last + 1 := by
      rw [i64_wrap (by omega)] at h1; simpa using h1
    have hR : ∀ q, m.Right q → ({ m with topics := m.topics ++ [⟨r.topic, r.name, []⟩], last := r.topic } : Image).Right q := fun q hq => hq.mono (fun _ _ h => h) (fun _ h => h)
    refine ⟨h.bs, h.br, by have := h.bl; simp only; omega, ?_, ?_, ?_, by simp only; omega, by have := h.tl; simp; omega, ?_, by have := h.cl; simp only; omega, by have := h.dl; simp only; omega, ?_⟩
    · rw [List.pairwise_append]
      refine ⟨h.ti, by simp, ?_⟩
      intro a ha b hb
      simp at hb; subst hb
      have := h.tr a ha
      simp only; omega
    · intro t ht
      simp only [List.mem_append, List.mem_singleton] at ht
      rcases ht with ht | rfl
      · have := h.tr t ht; simp only; omega
      · simp only; omega
    · rw [List.pairwise_append]
      refine ⟨h.tn, by simp, ?_⟩
      intro a ha b hb
      simp at hb; subst hb
      simp only [Image.named, Option.isSome_iff_ne_none, ne_eq, Classical.not_not, List.find?_eq_none, beq_iff_eq] at h2
      exact h2 a ha
    · intro t ht
      simp only [List.mem_append, List.mem_singleton] at ht
      rcases ht with ht | rfl
      · have := h.pl t ht; omega
      · simp
    · intro t ht p hp
      simp only [List.mem_append, List.mem_singleton] at ht
      rcases ht with ht | rfl
      · exact ⟨hR _ (h.pr t ht p hp).1, (h.pr t ht p hp).2.mono (by omega)⟩
      · simp at hp
  split
  · unfold Image.dropRec
    split
    · exact hm
    have hR : ∀ q, m.Right q → ({ m with topics := m.topics.filter (fun t => t.id != r.topic), configs := m.configs.filter (fun c => c.topic != r.topic) } : Image).Right q := fun q hq => hq.mono (fun _ _ h => h) (fun _ h => h)
    refine ⟨h.bs, h.br, by have := h.bl; simp only; omega, h.ti.filter _, fun t ht => h.tr t (List.mem_filter.1 ht).1, h.tn.filter _, by have := h.la; simp only; omega, ?_, fun t ht => by have := h.pl t (List.mem_filter.1 ht).1; omega, ?_, by have := h.dl; simp only; omega, ?_⟩
    · have := h.tl; have := List.length_filter_le (fun t : Topic => t.id != r.topic) m.topics; simp only; omega
    · have := h.cl; have := List.length_filter_le (fun t : Config => t.topic != r.topic) m.configs; simp only; omega
    · intro t ht p hp
      exact ⟨hR _ (h.pr t (List.mem_filter.1 ht).1 p hp).1, (h.pr t (List.mem_filter.1 ht).1 p hp).2.mono (by omega)⟩
  split
  · unfold Image.configRec
    split
    · exact hm
    split
    · exact hm
    have hR : ∀ q, m.Right q → ({ m with configs := putC m.configs r } : Image).Right q := fun q hq => hq.mono (fun _ _ h => h) (fun _ h => h)
    refine ⟨h.bs, h.br, hm.bl, h.ti, h.tr, h.tn, hm.la, hm.tl, hm.pl, ?_, hm.dl, fun t ht p hp => ⟨hR _ (h.pr t ht p hp).1, (hm.pr t ht p hp).2⟩⟩
    have := h.cl; have := putC_len m.configs r; simp only; omega
  split
  · unfold Image.doneRec
    split
    · exact hm
    have hR : ∀ q, m.Right q → ({ m with done := m.done.drop (m.done.length - 63) ++ [⟨r.client, r.serial, r.code⟩] } : Image).Right q := fun q hq => hq.mono (fun _ _ h => h) (fun _ h => h)
    refine ⟨h.bs, h.br, hm.bl, h.ti, h.tr, h.tn, hm.la, hm.tl, hm.pl, hm.cl, ?_, fun t ht p hp => ⟨hR _ (h.pr t ht p hp).1, (hm.pr t ht p hp).2⟩⟩
    have := h.dl; simp; omega
  · exact hm
theorem madeFrom_inv : ∀ (l : List Record) (m : Image) (n : Nat), m.Inv n → n + l.length ≤ 1000000 → (madeFrom m l).Inv (n + l.length) := by
  intro l
  induction l with
  | nil => intro m n h _; exact h
  | cons r l ih =>
    intro m n h hl
    simp only [List.length_cons] at hl ⊢
    have := ih (m.apply r).1 (n + 1) (h.apply (by omega) r) (by omega)
    have e : n + (l.length + 1) = n + 1 + l.length := by omega
    rw [e]; exact this
theorem made_inv (l : List Record) (h : l.length ≤ 1000000) : (made l).Inv l.length := by
  have := madeFrom_inv l zM 0 zM_inv (by omega)
  simpa [made] using this
end
end Go.Am
end
section
namespace Go.Am
open Go
noncomputable section
def idxI : List Int → Int → Nat → Int
  | [], _, _ => -1
  | x :: t, v, k => if v = x then (k : Int) else idxI t v (k + 1)
theorem idxI_nonneg : ∀ (l : List Int) (v : Int) (k : Nat), (0 ≤ idxI l v k) ↔ v ∈ l := by
  intro l
  induction l with
  | nil => intro v k; simp [idxI]
  | cons x l ih =>
    intro v k
    simp only [idxI, List.mem_cons]
    split
    · rename_i h; subst h; simp
    · rename_i h; rw [ih]; simp [h]
def change (topic : Int) (n : Nat) (p : Part) : Record := ⟨9, 0, p.epoch, topic, n, p.leader, 0, 0, 0, false, ⟨#[]⟩, ⟨#[]⟩, ⟨#[]⟩, ⟨#[]⟩, p.ids, p.isr, p.add, p.drop⟩
def Image.flat (m : Image) : List (Int × Nat × Part) := m.topics.flatMap fun t => t.parts.zipIdx.map fun x => (t.id, x.2, x.1)
def Image.count (m : Image) : Nat := (m.topics.map fun t => t.parts.length).sum
def Image.pick (m : Image) (n : Int) : Option (Int × Nat × Part) := if m.count = 0 then none else m.flat[((IntKind.u64.wrap n).tmod m.count).toNat]?
end
end Go.Am
end
section
namespace Go.Am
open Go
noncomputable section
def posOf {α : Type} (f : α → Int) (l : List α) (n : Int) : Nat := l.countP fun x => decide (f x < n)
theorem pos_le {α : Type} (f : α → Int) (l : List α) (n : Int) : posOf f l n ≤ l.length := List.countP_le_length
theorem pos_iff {α : Type} {f : α → Int} : ∀ {l : List α} (n : Int), l.Pairwise (fun a b => f a < f b) → ∀ i (h : i < l.length), i < posOf f l n ↔ f l[i] < n := by
  intro l
  induction l with
  | nil => intro n _ i h; simp at h
  | cons x l ih =>
    intro n hs i h
    rw [List.pairwise_cons] at hs
    simp only [posOf, List.countP_cons]
    by_cases hx : f x < n
    · simp only [hx, decide_true, if_true]
      cases i with
      | zero => simp [hx]
      | succ i =>
        have := ih n hs.2 i (by simpa using h)
        simp only [posOf] at this
        simp only [List.getElem_cons_succ]
        omega
    · have h0 : l.countP (fun x => decide (f x < n)) = 0 := by
        rw [List.countP_eq_zero]
        intro y hy
        have := hs.1 y hy
        simp; omega
      simp only [hx, decide_false, Bool.false_eq_true, if_false, h0]
      cases i with
      | zero => simp [hx]
      | succ i =>
        simp only [List.getElem_cons_succ]
        have hi : i < l.length := by simpa using h
        have := hs.1 l[i] (List.getElem_mem hi)
        omega
theorem pos_find {α : Type} {f : α → Int} {l : List α} (n : Int) (hs : l.Pairwise (fun a b => f a < f b)) : l.find? (fun x => f x == n) = if h : posOf f l n < l.length then (if f l[posOf f l n] = n then some l[posOf f l n] else none) else none := by
  have hiff := pos_iff (f := f) n hs
  split
  · rename_i h
    have hnl : ¬ f l[posOf f l n] < n := fun hh => by have := (hiff _ h).2 hh; omega
    split
    · rename_i he
      refine find_at h ?_ (by simpa using he)
      intro x hx
      obtain ⟨i, hi, rfl⟩ := List.getElem_of_mem hx
      simp only [List.length_take] at hi
      have := (hiff i (by omega)).1 (by omega)
      simp only [List.getElem_take]
      simp; omega
    · rename_i he
      rw [List.find?_eq_none]
      intro x hx
      obtain ⟨i, hi, rfl⟩ := List.getElem_of_mem hx
      simp only [beq_iff_eq]
      intro e
      rw [List.pairwise_iff_getElem] at hs
      rcases Nat.lt_trichotomy i (posOf f l n) with h' | h' | h'
      · have := (hiff i hi).1 h'; omega
      · subst h'; exact he e
      · have := hs _ i h hi h'; omega
  · rename_i h
    rw [List.find?_eq_none]
    intro x hx
    obtain ⟨i, hi, rfl⟩ := List.getElem_of_mem hx
    have := (hiff i hi).1 (by have := pos_le f l n; omega)
    simp; omega
end
end Go.Am
end
section
namespace Go.Am
open Go
noncomputable section
abbrev Bad := ByteArray × Int × Int
end
end Go.Am
end
section
namespace Go.Am
open Go
noncomputable section
def zR : Record := ⟨0, 0, 0, 0, 0, 0, 0, 0, 0, false, ⟨#[]⟩, ⟨#[]⟩, ⟨#[]⟩, ⟨#[]⟩, [], [], [], []⟩
def firstL : List Record :=
  [{ zR with kind := 2, broker := 1, epoch := 1, rack := bs [97] }, { zR with kind := 4, broker := 1, epoch := 1 },
   { zR with kind := 2, broker := 2, epoch := 1, rack := bs [98] }, { zR with kind := 4, broker := 2, epoch := 1 },
   { zR with kind := 7, topic := 1, name := bs [116] }, { zR with kind := 8, topic := 1, ids := [1, 2], isr := [1, 2], leader := 1 }]
def fm : Image := made firstL
def fp : Part := ⟨[1, 2], [1, 2], 1, 0, [], []⟩
def fq : Part := ⟨[1, 2], [2], 2, 1, [], []⟩
def fs : Part := ⟨[1, 2], [1], 1, 0, [], []⟩
end
end Go.Am
end
