/- Part of the proof of a law of the image. -/
import Derived.Test.YtfgfjgbggkdobaaGreatQAA
import Derived.Test.YtfgfjgbggkdobaaGreatQE0
import Derived.Test.YtfgfjgbggkdobaaGreatQEB
import Derived.Test.YtfgfjgbggkdobaaGreatQPU
import Derived.Test.YtfgfjgbggkdobaaGreatQW0
set_option linter.all false
section
set_option maxRecDepth 100000
set_option maxHeartbeats 0
namespace Go.Am
open Go
noncomputable section
def c52 : SC := (.seq (.reg [oO 1 47 0,oA 2 47] [1,2]) (.seq (.reg [oU (oF 3 47 1 0) [6,7],oU (oL 4 35 3) [6,7],oU (oC 5 81 #[.tmp 4] #[35]) [6,7],oU (oF 6 47 1 1) [3,4,5],oU (oL 7 35 6) [3,4,5],oU (oC 8 81 #[.tmp 7] #[35]) [9],oU (oF 9 47 1 0) [8],oS 35 9 5,oF 10 47 1 1,oS 35 10 8] [1,2]) (.seq (.reg [oU (oF 11 47 1 4) [14,15],oU (oL 12 35 11) [14,15],oU (oC 13 81 #[.tmp 12] #[35]) [14,15],oU (oF 14 47 1 5) [11,12,13],oU (oL 15 35 14) [11,12,13],oU (oC 16 81 #[.tmp 15] #[35]) [17],oU (oF 17 47 1 4) [16],oS 35 17 13,oF 18 47 1 5,oS 35 18 16] [1,2]) (.seq (.reg [oL 19 47 1,oS 47 2 19] [2]) .ret))))
theorem s52 : TextK Proofs.Tryz.prog 0 52 20 [ResultVar.cell 2 47] c52 := .mk' Proofs.Tryz.f52 _ (by kernel_rfl) rfl rfl rfl (by kernel_rfl) rfl (by kernel_rfl)
def encPO (p : Part) : V := .agg [.uq (p.ids.map I), .uq (p.isr.map I), I p.leader, I p.epoch, .uq (p.add.map I), .uq (p.drop.map I)]
@[simp] theorem encPO_eq (p : Part) : encPO p = .agg [.uq (p.ids.map I), .uq (p.isr.map I), I p.leader, I p.epoch, .uq (p.add.map I), .uq (p.drop.map I)] := rfl
structure Part.Small (p : Part) : Prop where
  ids : p.ids.length ≤ 1000000
  isr : p.isr.length ≤ 1000000
  add : p.add.length ≤ 1000000
  drop : p.drop.length ≤ 1000000
theorem alone_ok (p : Part) (h : p.Small) : ACall pg 52 [encP p] (encPO p) := by
  refine s52.call mo (by simp) fun hxs => ?_
  clear hxs
  unfold c52; dsimp only [oA, oC, oF, oL, oO, oS, oU]
  repeat' first | (with_reducible first | refine awRet ?_) | ((with_reducible refine awReg fun K hok hK => ?_); clear hok; (try simp (maxSteps := 10000000) (disch := first | omega | simp) []); (repeat' first | (with_reducible refine hK _ (by simp) ?_) | ((first | ((with_reducible refine sideF' fun K2 hK2 => ?_); (try simp (maxSteps := 10000000) (disch := first | omega | simp) []); (first | refine hK2 _ _ _ (cloneI_ok p.ids h.ids) (by simp) ?_ | refine hK2 _ _ _ (cloneI_ok p.isr h.isr) (by simp) ?_ | refine hK2 _ _ _ (cloneI_ok p.add h.add) (by simp) ?_ | refine hK2 _ _ _ (cloneI_ok p.drop h.drop) (by simp) ?_); clear hK2 K2) | ((with_reducible refine sideQ' ?_ ?_ fun K2 hK2 => ?_); exact rfl; exact rfl; (try simp (maxSteps := 10000000) (disch := first | omega | simp) []); with_reducible refine hK2 _ _ ?_; clear hK2 K2)); (try simp (maxSteps := 10000000) (disch := first | omega | simp) []))) <;> clear hK K) | ((with_reducible refine awCond fun A B hA hB => ?_); simp (maxSteps := 10000000) (disch := first | omega | simp) []; (first | refine ⟨fun h => hA ?_, fun h => hB ?_⟩ | refine hA ?_ | refine hB ?_) <;> (clear hA hB A B; (try (exfalso; omega))))
  (refine aEnR (aRes [] fun K hK => ?_); simp (maxSteps := 10000000) (disch := first | omega | simp) []; refine hK _ ?_ (by simp); simp (maxSteps := 10000000) (disch := first | omega | simp) [])
end
end Go.Am
end
section
set_option maxRecDepth 100000
set_option maxHeartbeats 0
namespace Go.Am
open Go
noncomputable section
def c39 : SC := (.seq (.reg [oD 6 (.assign (.const .nilIface))] [0,1,2]) (.seq (.reg [oM 7 0,oM 8 1,oM 9 2,oD 10 (.makeInterface 55 (.tmp 9)),oD 11 (.build 92 #[(0,.tmp 7),(1,.tmp 8),(2,.tmp 10)]),oD 12 (.makeInterface 92 (.tmp 11)),oG 6 12] [6,12]) .ret))
theorem s39 : TextK Proofs.Tryz.prog 0 39 13 [ResultVar.tmp 6] c39 := .mk' Proofs.Tryz.f39 _ (by kernel_rfl) rfl rfl rfl (by kernel_rfl) rfl (by kernel_rfl)
def errF (op : ByteArray) (a c : Int) : V := .c (.iface 92 (.agg #[.string op, .int .i64 a, .iface 55 (.int .i64 c)]))
@[simp] theorem errF_eq (op : ByteArray) (a c : Int) : errF op a c = .c (.iface 92 (.agg #[.string op, .int .i64 a, .iface 55 (.int .i64 c)])) := rfl
theorem new_ok (op : ByteArray) (a c : Int) : ACall pg 39 [St op, I a, I c] (errF op a c) := by
  refine s39.call mo (by simp) fun hxs => ?_
  clear hxs
  unfold c39; dsimp only [oD, oG, oM]
  refine wk ?_
  (refine aEnR (aRes [] fun K hK => ?_); simp (maxSteps := 10000000) (disch := first | omega | simp) [errF]; refine hK _ ?_ (by simp); clear hK; first | done | (simp (maxSteps := 10000000) (disch := first | omega | simp) [errF, *]; done) | (simp (maxSteps := 10000000) (disch := first | omega | simp) [errF, *]; omega) | (simp_all [errF]; done) | (simp_all [errF]; omega))
def errO : Option Bad → V
  | some b => errF b.1 b.2.1 b.2.2
  | none => .c .nilIface
@[simp] theorem errO_some (b : Bad) : errO (some b) = errF b.1 b.2.1 b.2.2 := rfl
@[simp] theorem errO_none : errO none = .c .nilIface := rfl
end
end Go.Am
end
section
set_option maxRecDepth 100000
set_option maxHeartbeats 0
namespace Go.Am
open Go
noncomputable section
def c17 : SC := (.seq (.reg [oZ 4 false] [0,1]) (.seq (.reg [oM 5 0,oM 6 1,oD 7 (.makeInterface 55 (.tmp 6)),oC 8 34 #[.tmp 5,.tmp 7] #[32,32],oG 4 8] [4,8]) .ret))
theorem s17 : TextK Proofs.Tryz.prog 0 17 9 [ResultVar.tmp 4] c17 := .mk' Proofs.Tryz.f17 _ (by kernel_rfl) rfl rfl rfl (by kernel_rfl) rfl (by kernel_rfl)
end
end Go.Am
end
section
set_option maxRecDepth 100000
set_option maxHeartbeats 0
namespace Go.Am
open Go
noncomputable section
def c14 : SC := (.seq (.reg [oD 0 (.assign (.const (.slice none 0 0)))] []) (.seq (.reg [oD 1 (.build 37 #[(0,.const (.int .i64 2)),(1,.const (.int .i64 1)),(2,.const (.int .i64 1)),(13,.const (.string ⟨#[97]⟩))]),oD 2 (.build 37 #[(0,.const (.int .i64 4)),(1,.const (.int .i64 1)),(2,.const (.int .i64 1))]),oD 3 (.build 37 #[(0,.const (.int .i64 2)),(1,.const (.int .i64 2)),(2,.const (.int .i64 1)),(13,.const (.string ⟨#[98]⟩))]),oD 4 (.build 37 #[(0,.const (.int .i64 4)),(1,.const (.int .i64 2)),(2,.const (.int .i64 1))]),oD 5 (.build 37 #[(0,.const (.int .i64 7)),(3,.const (.int .i64 1)),(10,.const (.string ⟨#[116]⟩))]),oD 6 (.buildSlice 35 2 #[(0,.const (.int .i64 1)),(1,.const (.int .i64 2))]),oD 7 (.buildSlice 35 2 #[(0,.const (.int .i64 1)),(1,.const (.int .i64 2))]),oD 8 (.build 37 #[(0,.const (.int .i64 8)),(3,.const (.int .i64 1)),(14,.tmp 6),(15,.tmp 7),(5,.const (.int .i64 1))]),oD 9 (.buildSlice 22 6 #[(0,.tmp 1),(1,.tmp 2),(2,.tmp 3),(3,.tmp 4),(4,.tmp 5),(5,.tmp 8)]),oG 0 9] [0,9]) .ret))
theorem s14 : TextK Proofs.Tryz.prog 0 14 10 [ResultVar.tmp 0] c14 := .mk' Proofs.Tryz.f14 _ (by kernel_rfl) rfl rfl rfl (by kernel_rfl) rfl (by kernel_rfl)
theorem first_ok : ACall pg 14 [] (.sl (firstL.map encR)) := by
  refine s14.call mo (by simp) fun hxs => ?_
  clear hxs
  unfold c14; dsimp only [oD, oG]
  refine wk ?_
  (refine aEnR (aRes [true] fun K hK => ?_); simp (maxSteps := 10000000) (disch := first | omega | simp) [firstL, zR, bs]; refine hK _ ?_ (by simp); clear hK; first | done | (simp (maxSteps := 10000000) (disch := first | omega | simp) [firstL, zR, bs, *]; done) | (simp (maxSteps := 10000000) (disch := first | omega | simp) [firstL, zR, bs, *]; omega) | (simp_all [firstL, zR, bs]; done) | (simp_all [firstL, zR, bs]; omega))
end
end Go.Am
end
