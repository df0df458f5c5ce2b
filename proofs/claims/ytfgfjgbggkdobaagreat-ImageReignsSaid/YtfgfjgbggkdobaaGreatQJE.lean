/- Part of the proof of a law of the image. -/
import Derived.Test.YtfgfjgbggkdobaaGreatQAA
import Derived.Test.YtfgfjgbggkdobaaGreatQAR
import Derived.Test.YtfgfjgbggkdobaaGreatQJD
import Derived.Test.YtfgfjgbggkdobaaGreatQW0
set_option linter.all false
section
set_option maxRecDepth 100000
set_option maxHeartbeats 0
namespace Go.Am
open Go
noncomputable section
def c28 : SC := (.seq (.reg [oO 2 65 0,oO 3 65 1,oZ 4 false] [2,3]) (.seq (.reg [oF 6 65 2 0,oL 7 3 6,oF 8 65 3 0,oL 9 3 8,oB 10 .neq 3 7 9 3,oM 11 10,oW 11 false (oF 12 65 2 1),oW 11 false (oL 13 9 12),oW 11 false (oF 14 65 3 1),oW 11 false (oL 15 9 14),oW 11 false (oB 16 .neq 9 13 15 9),oR 17 11 true 16,oM 18 17,oW 18 false (oF 19 65 2 2),oW 18 false (oL 20 63 19),oW 18 false (oN 21 20 63),oW 18 false (oF 22 65 3 2),oW 18 false (oL 23 63 22),oW 18 false (oN 24 23 63),oW 18 false (oB 25 .neq 3 21 24 3),oR 26 18 true 25] [2,3,10,11,16,17,18,25,26]) (.seq (.cond (.tmp 26) (.seq (.reg [oZ 4 false] [4]) .ret) .skip) (.seq (.reg [oI 5 0] [2,3,5,33]) (.seq (.block 0 (.seq (.loop (.seq (.reg [oM 27 5,oF 28 65 2 2,oL 29 63 28,oN 30 29 63,oB 31 .lss 3 27 30 3] [2,3,5,31,33]) (.seq (.cond (.tmp 31) .skip (.exit 0)) (.seq (.block 1 (.seq (.reg [oU (oF 34 65 2 2) [36,39,40,41,42,43],oU (oL 35 63 34) [36,39,40,41,42,43],oU (oM 36 5) [34,35,39,40,41,42,43],oU (oJ 37 63 35 36) [39,40,41,42,43],oU (oL 38 47 37) [39,40,41,42,43],oU (oF 39 65 3 2) [34,35,36,37,38,41],oU (oL 40 63 39) [34,35,36,37,38,41],oU (oM 41 5) [34,35,36,37,38,39,40],oU (oJ 42 63 40 41) [34,35,36,37,38],oU (oL 43 47 42) [34,35,36,37,38],oC 44 70 #[.tmp 38,.tmp 43] #[47,47],oD 45 (.unOp .not 4 (.tmp 44))] [2,3,5,33,45]) (.seq (.cond (.tmp 45) (.seq (.reg [oZ 4 false] [4]) .ret) .skip) .skip))) (.seq (.reg [oM 32 5,oK 33 .add 3 32 1 3,oG 5 33] [2,3,5,33]) .skip))))) .skip)) (.seq (.reg [oZ 4 true] [4]) .ret))))))
theorem s28 : TextK Proofs.Tryz.prog 0 28 46 [ResultVar.tmp 4] c28 := .mk' Proofs.Tryz.f28 _ (by kernel_rfl) rfl rfl rfl (by kernel_rfl) rfl (by kernel_rfl)
def c8 : SC := (.seq (.reg [oO 2 30 0,oO 3 30 1,oZ 4 false] [2,3]) (.seq (.reg [oF 9 30 2 4,oL 10 3 9,oF 11 30 3 4,oL 12 3 11,oB 13 .neq 3 10 12 3,oM 14 13,oW 14 false (oF 15 30 2 0),oW 14 false (oL 16 25 15),oW 14 false (oN 17 16 25),oW 14 false (oF 18 30 3 0),oW 14 false (oL 19 25 18),oW 14 false (oN 20 19 25),oW 14 false (oB 21 .neq 3 17 20 3),oR 22 14 true 21,oM 23 22,oW 23 false (oF 24 30 2 1),oW 23 false (oL 25 26 24),oW 23 false (oN 26 25 26),oW 23 false (oF 27 30 3 1),oW 23 false (oL 28 26 27),oW 23 false (oN 29 28 26),oW 23 false (oB 30 .neq 3 26 29 3),oR 31 23 true 30,oM 32 31,oW 32 false (oF 33 30 2 2),oW 32 false (oL 34 27 33),oW 32 false (oN 35 34 27),oW 32 false (oF 36 30 3 2),oW 32 false (oL 37 27 36),oW 32 false (oN 38 37 27),oW 32 false (oB 39 .neq 3 35 38 3),oR 40 32 true 39,oM 41 40,oW 41 false (oF 42 30 2 3),oW 41 false (oL 43 28 42),oW 41 false (oN 44 43 28),oW 41 false (oF 45 30 3 3),oW 41 false (oL 46 28 45),oW 41 false (oN 47 46 28),oW 41 false (oB 48 .neq 3 44 47 3),oR 49 41 true 48] [2,3,13,14,21,22,23,30,31,32,39,40,41,48,49]) (.seq (.cond (.tmp 49) (.seq (.reg [oZ 4 false] [4]) .ret) .skip) (.seq (.reg [oI 5 0] [2,3,5,56]) (.seq (.block 0 (.seq (.loop (.seq (.reg [oM 50 5,oF 51 30 2 0,oL 52 25 51,oN 53 52 25,oB 54 .lss 3 50 53 3] [2,3,5,54,56]) (.seq (.cond (.tmp 54) .skip (.exit 0)) (.seq (.block 1 (.seq (.reg [oU (oF 57 30 2 0) [59,62,63,64,65,66],oU (oL 58 25 57) [59,62,63,64,65,66],oU (oM 59 5) [57,58,62,63,64,65,66],oU (oJ 60 25 58 59) [62,63,64,65,66],oU (oL 61 51 60) [62,63,64,65,66],oU (oF 62 30 3 0) [57,58,59,60,61,64],oU (oL 63 25 62) [57,58,59,60,61,64],oU (oM 64 5) [57,58,59,60,61,62,63],oU (oJ 65 25 63 64) [57,58,59,60,61],oU (oL 66 51 65) [57,58,59,60,61],oB 67 .neq 51 61 66 51] [2,3,5,56,67]) (.seq (.cond (.tmp 67) (.seq (.reg [oZ 4 false] [4]) .ret) .skip) .skip))) (.seq (.reg [oM 55 5,oK 56 .add 3 55 1 3,oG 5 56] [2,3,5,56]) .skip))))) .skip)) (.seq (.reg [oI 6 0] [2,3,6,74]) (.seq (.block 2 (.seq (.loop (.seq (.reg [oM 68 6,oF 69 30 2 1,oL 70 26 69,oN 71 70 26,oB 72 .lss 3 68 71 3] [2,3,6,72,74]) (.seq (.cond (.tmp 72) .skip (.exit 2)) (.seq (.block 3 (.seq (.reg [oU (oF 75 30 2 1) [77,80,81,82,83,84],oU (oL 76 26 75) [77,80,81,82,83,84],oU (oM 77 6) [75,76,80,81,82,83,84],oU (oJ 78 26 76 77) [80,81,82,83,84],oU (oL 79 65 78) [80,81,82,83,84],oU (oF 80 30 3 1) [75,76,77,78,79,82],oU (oL 81 26 80) [75,76,77,78,79,82],oU (oM 82 6) [75,76,77,78,79,80,81],oU (oJ 83 26 81 82) [75,76,77,78,79],oU (oL 84 65 83) [75,76,77,78,79],oC 85 28 #[.tmp 79,.tmp 84] #[65,65],oD 86 (.unOp .not 4 (.tmp 85))] [2,3,6,74,86]) (.seq (.cond (.tmp 86) (.seq (.reg [oZ 4 false] [4]) .ret) .skip) .skip))) (.seq (.reg [oM 73 6,oK 74 .add 3 73 1 3,oG 6 74] [2,3,6,74]) .skip))))) .skip)) (.seq (.reg [oI 7 0] [2,3,7,93]) (.seq (.block 4 (.seq (.loop (.seq (.reg [oM 87 7,oF 88 30 2 2,oL 89 27 88,oN 90 89 27,oB 91 .lss 3 87 90 3] [2,3,7,91,93]) (.seq (.cond (.tmp 91) .skip (.exit 4)) (.seq (.block 5 (.seq (.reg [oU (oF 94 30 2 2) [96,99,100,101,102,103],oU (oL 95 27 94) [96,99,100,101,102,103],oU (oM 96 7) [94,95,99,100,101,102,103],oU (oJ 97 27 95 96) [99,100,101,102,103],oU (oL 98 67 97) [99,100,101,102,103],oU (oF 99 30 3 2) [94,95,96,97,98,101],oU (oL 100 27 99) [94,95,96,97,98,101],oU (oM 101 7) [94,95,96,97,98,99,100],oU (oJ 102 27 100 101) [94,95,96,97,98],oU (oL 103 67 102) [94,95,96,97,98],oB 104 .neq 67 98 103 67] [2,3,7,93,104]) (.seq (.cond (.tmp 104) (.seq (.reg [oZ 4 false] [4]) .ret) .skip) .skip))) (.seq (.reg [oM 92 7,oK 93 .add 3 92 1 3,oG 7 93] [2,3,7,93]) .skip))))) .skip)) (.seq (.reg [oI 8 0] [2,3,8,111]) (.seq (.block 6 (.seq (.loop (.seq (.reg [oM 105 8,oF 106 30 2 3,oL 107 28 106,oN 108 107 28,oB 109 .lss 3 105 108 3] [2,3,8,109,111]) (.seq (.cond (.tmp 109) .skip (.exit 6)) (.seq (.block 7 (.seq (.reg [oU (oF 112 30 2 3) [114,117,118,119,120,121],oU (oL 113 28 112) [114,117,118,119,120,121],oU (oM 114 8) [112,113,117,118,119,120,121],oU (oJ 115 28 113 114) [117,118,119,120,121],oU (oL 116 69 115) [117,118,119,120,121],oU (oF 117 30 3 3) [112,113,114,115,116,119],oU (oL 118 28 117) [112,113,114,115,116,119],oU (oM 119 8) [112,113,114,115,116,117,118],oU (oJ 120 28 118 119) [112,113,114,115,116],oU (oL 121 69 120) [112,113,114,115,116],oB 122 .neq 69 116 121 69] [2,3,8,111,122]) (.seq (.cond (.tmp 122) (.seq (.reg [oZ 4 false] [4]) .ret) .skip) .skip))) (.seq (.reg [oM 110 8,oK 111 .add 3 110 1 3,oG 8 111] [2,3,8,111]) .skip))))) .skip)) (.seq (.reg [oZ 4 true] [4]) .ret))))))))))))
theorem s8 : TextK Proofs.Tryz.prog 0 8 123 [ResultVar.tmp 4] c8 := .mk' Proofs.Tryz.f8 _ (by kernel_rfl) rfl rfl rfl (by kernel_rfl) rfl (by kernel_rfl)
theorem samePartR (p : Part) : ACall pg 70 [encP p, encP p] (B true) := by
  have := samePart_ok p p
  simpa using this
theorem topSame_ok (t : Topic) (h : t.parts.length ≤ 1000000) : ACall pg 28 [encT t, encT t] (B true) := by
  refine s28.call mo (by simp) fun hxs => ?_
  clear hxs
  unfold c28; dsimp only [oB, oC, oD, oF, oG, oI, oJ, oK, oL, oM, oN, oO, oR, oU, oW, oZ]
  refine wk ?_
  refine awFor t.parts.length (fun i (_ : Unit) => True) (fun i _ => [(5, .p (I i)), (3, .p (.own (encT t).cells)), (2, .p (.own (encT t).cells))]) () (Wk.ofA (by simp)) trivial fun i _ hi _ => ?_
  by_cases hlt : i < t.parts.length
  · have hs := samePartR t.parts[i]
    have F := hlt
    refine wkF ?_
    (refine ⟨?_, (), ?_, Wk.ofA ?_⟩; assumption; rotate_left; focus (simp []; done))
    trivial
  · have F := hlt
    refine wkF ?_
    exact fn0
theorem imSame_ok (m : Image) (h1 : m.brokers.length ≤ 1000000) (h2 : m.topics.length ≤ 1000000) (h3 : m.configs.length ≤ 1000000) (h4 : m.done.length ≤ 1000000) (h5 : ∀ t ∈ m.topics, t.parts.length ≤ 1000000) : ACall pg 8 [encM m, encM m] (B true) := by
  refine s8.call mo (by simp) fun hxs => ?_
  clear hxs
  unfold c8; dsimp only [oB, oC, oD, oF, oG, oI, oJ, oK, oL, oM, oN, oO, oR, oU, oW, oZ]
  refine wk ?_
  refine awFor m.brokers.length (fun i (_ : Unit) => True) (fun i _ => [(5, .p (I i)), (3, .p (.own (encM m).cells)), (2, .p (.own (encM m).cells))]) () (Wk.ofA (by simp)) trivial fun i _ hi _ => ?_
  by_cases hlt : i < m.brokers.length
  · have F := hlt
    refine wkF ?_
    (refine ⟨?_, (), ?_, Wk.ofA ?_⟩; assumption; rotate_left; focus (simp []; done))
    trivial
  have F := hlt
  refine wkF ?_
  refine awFor m.topics.length (fun i (_ : Unit) => True) (fun i _ => [(6, .p (I i)), (3, .p (.own (encM m).cells)), (2, .p (.own (encM m).cells))]) () (Wk.ofA (by simp)) trivial fun i _ hi _ => ?_
  by_cases hlt : i < m.topics.length
  · have hs := topSame_ok m.topics[i] (h5 _ (List.getElem_mem hlt))
    have F := hlt
    refine wkF ?_
    (refine ⟨?_, (), ?_, Wk.ofA ?_⟩; assumption; rotate_left; focus (simp []; done))
    trivial
  have F := hlt
  refine wkF ?_
  refine awFor m.configs.length (fun i (_ : Unit) => True) (fun i _ => [(7, .p (I i)), (3, .p (.own (encM m).cells)), (2, .p (.own (encM m).cells))]) () (Wk.ofA (by simp)) trivial fun i _ hi _ => ?_
  by_cases hlt : i < m.configs.length
  · have F := hlt
    refine wkF ?_
    (refine ⟨?_, (), ?_, Wk.ofA ?_⟩; assumption; rotate_left; focus (simp []; done))
    trivial
  have F := hlt
  refine wkF ?_
  refine awFor m.done.length (fun i (_ : Unit) => True) (fun i _ => [(8, .p (I i)), (3, .p (.own (encM m).cells)), (2, .p (.own (encM m).cells))]) () (Wk.ofA (by simp)) trivial fun i _ hi _ => ?_
  by_cases hlt : i < m.done.length
  · have F := hlt
    refine wkF ?_
    (refine ⟨?_, (), ?_, Wk.ofA ?_⟩; assumption; rotate_left; focus (simp []; done))
    trivial
  have F := hlt
  refine wkF ?_
  exact fn0
end
end Go.Am
end
section
set_option maxRecDepth 100000
set_option maxHeartbeats 0
namespace Go.Am
open Go
noncomputable section
def c29 : SC := (.seq (.reg [oO 2 30 0,oO 3 47 1,oI 4 0] [2,3]) (.seq (.reg [oF 11 47 3 0,oL 12 35 11,oN 13 12 35,oK 14 .eql 3 13 0 3] [2,3,14]) (.seq (.cond (.tmp 14) (.seq (.reg [oI 4 18] [4]) .ret) .skip) (.seq (.reg [oI 5 0] [2,3,5,21]) (.seq (.block 0 (.seq (.loop (.seq (.reg [oM 15 5,oF 16 47 3 0,oL 17 35 16,oN 18 17 35,oB 19 .lss 3 15 18 3] [2,3,5,19,21]) (.seq (.cond (.tmp 19) .skip (.exit 0)) (.seq (.block 1 (.seq (.reg [oU (oL 23 30 2) [24,25,26,27,28,6],oU (oF 24 47 3 0) [23,26,6],oU (oL 25 35 24) [23,26,6],oU (oM 26 5) [23,24,25,6],oU (oJ 27 35 25 26) [23,6],oU (oL 28 3 27) [23,6],oU (oC 29 71 #[.tmp 23,.tmp 28] #[30,3]) [6],oU (oM 22 29) [6],oU (oX 30 22 0) [31,6],oU (oX 31 22 1) [30,6,6],oU (oA 6 51) [23,24,25,26,27,28,29,22,30,31],oU (oS 51 6 30) [31],oG 7 31] [2,3,5,7,21,22,29,31]) (.seq (.reg [oM 32 7,oD 33 (.unOp .not 4 (.tmp 32))] [2,3,5,21,33]) (.seq (.cond (.tmp 33) (.seq (.reg [oI 4 18] [4]) .ret) .skip) .skip)))) (.seq (.reg [oM 20 5,oK 21 .add 3 20 1 3,oG 5 21] [2,3,5,21]) .skip))))) .skip)) (.seq (.reg [oF 34 47 3 1,oL 35 35 34,oN 36 35 35,oK 37 .eql 3 36 0 3] [2,3,37]) (.seq (.cond (.tmp 37) (.seq (.reg [oI 4 18] [4]) .ret) .skip) (.seq (.reg [oI 8 0] [2,3,8,44]) (.seq (.block 2 (.seq (.loop (.seq (.reg [oM 38 8,oF 39 47 3 1,oL 40 35 39,oN 41 40 35,oB 42 .lss 3 38 41 3] [2,3,8,42,44]) (.seq (.cond (.tmp 42) .skip (.exit 2)) (.seq (.block 3 (.seq (.reg [oU (oF 45 47 3 0) [47,48,49,50,51],oU (oL 46 35 45) [47,48,49,50,51],oU (oF 47 47 3 1) [45,46,49],oU (oL 48 35 47) [45,46,49],oU (oM 49 8) [45,46,47,48],oU (oJ 50 35 48 49) [45,46],oU (oL 51 3 50) [45,46],oC 52 72 #[.tmp 46,.tmp 51] #[35,3],oD 53 (.unOp .not 4 (.tmp 52))] [2,3,8,44,53]) (.seq (.cond (.tmp 53) (.seq (.reg [oI 4 18] [4]) .ret) .skip) .skip))) (.seq (.reg [oM 43 8,oK 44 .add 3 43 1 3,oG 8 44] [2,3,8,44]) .skip))))) .skip)) (.seq (.reg [oF 54 47 3 2,oL 55 3 54,oK 56 .neq 3 55 0 3,oM 57 56,oW 57 true (oF 58 47 3 1),oW 57 true (oL 59 35 58),oW 57 true (oF 60 47 3 2),oW 57 true (oL 61 3 60),oW 57 true (oC 62 72 #[.tmp 59,.tmp 61] #[35,3]),oW 57 true (oD 63 (.unOp .not 4 (.tmp 62))),oW 57 true (oM 64 63),oW 64 false (oL 65 30 2),oW 64 false (oF 66 47 3 2),oW 64 false (oL 67 3 66),oW 64 false (oC 68 73 #[.tmp 65,.tmp 67] #[30,3]),oW 64 false (oD 69 (.unOp .not 4 (.tmp 68))),oW 57 true (oR 70 64 true 69),oQ 71 57 70 false] [3,56,57,63,64,69,70,71]) (.seq (.cond (.tmp 71) (.seq (.reg [oI 4 17] [4]) .ret) .skip) (.seq (.reg [oI 9 0] [3,9,78]) (.seq (.block 4 (.seq (.loop (.seq (.reg [oM 72 9,oF 73 47 3 4,oL 74 35 73,oN 75 74 35,oB 76 .lss 3 72 75 3] [3,9,76,78]) (.seq (.cond (.tmp 76) .skip (.exit 4)) (.seq (.block 5 (.seq (.reg [oU (oF 79 47 3 0) [81,82,83,84,85],oU (oL 80 35 79) [81,82,83,84,85],oU (oF 81 47 3 4) [79,80,83],oU (oL 82 35 81) [79,80,83],oU (oM 83 9) [79,80,81,82],oU (oJ 84 35 82 83) [79,80],oU (oL 85 3 84) [79,80],oC 86 72 #[.tmp 80,.tmp 85] #[35,3],oD 87 (.unOp .not 4 (.tmp 86)),oM 88 87,oU (oW 88 false (oF 89 47 3 5)) [91,92,93,94,95],oU (oW 88 false (oL 90 35 89)) [91,92,93,94,95],oU (oW 88 false (oF 91 47 3 4)) [89,90,93],oU (oW 88 false (oL 92 35 91)) [89,90,93],oU (oW 88 false (oM 93 9)) [89,90,91,92],oU (oW 88 false (oJ 94 35 92 93)) [89,90],oU (oW 88 false (oL 95 3 94)) [89,90],oW 88 false (oC 96 72 #[.tmp 90,.tmp 95] #[35,3]),oR 97 88 true 96] [3,9,78,87,88,96,97]) (.seq (.cond (.tmp 97) (.seq (.reg [oI 4 18] [4]) .ret) .skip) .skip))) (.seq (.reg [oM 77 9,oK 78 .add 3 77 1 3,oG 9 78] [3,9,78]) .skip))))) .skip)) (.seq (.reg [oI 10 0] [3,10,104]) (.seq (.block 6 (.seq (.loop (.seq (.reg [oM 98 10,oF 99 47 3 5,oL 100 35 99,oN 101 100 35,oB 102 .lss 3 98 101 3] [3,10,102,104]) (.seq (.cond (.tmp 102) .skip (.exit 6)) (.seq (.block 7 (.seq (.reg [oU (oF 105 47 3 0) [107,108,109,110,111],oU (oL 106 35 105) [107,108,109,110,111],oU (oF 107 47 3 5) [105,106,109],oU (oL 108 35 107) [105,106,109],oU (oM 109 10) [105,106,107,108],oU (oJ 110 35 108 109) [105,106],oU (oL 111 3 110) [105,106],oC 112 72 #[.tmp 106,.tmp 111] #[35,3],oD 113 (.unOp .not 4 (.tmp 112))] [3,10,104,113]) (.seq (.cond (.tmp 113) (.seq (.reg [oI 4 18] [4]) .ret) .skip) .skip))) (.seq (.reg [oM 103 10,oK 104 .add 3 103 1 3,oG 10 104] [3,10,104]) .skip))))) .skip)) (.seq (.reg [oI 4 0] [4]) .ret))))))))))))))))
theorem s29 : TextK Proofs.Tryz.prog 0 29 114 [ResultVar.tmp 4] c29 := .mk' Proofs.Tryz.f29 _ (by kernel_rfl) rfl rfl rfl (by kernel_rfl) rfl (by kernel_rfl)
theorem right_ok (m : Image) (p : Part) : ACall pg 29 [encM m, encP p] (I (m.right p)) := by
  refine s29.call mo (by simp) fun hxs => ?_
  have hp1 := okLenI (l := p.ids) (by simpa using hxs.2.1.1)
  have hp2 := okLenI (l := p.isr) (by simpa using hxs.2.1.2.1)
  have hp3 := okLenI (l := p.add) (by simpa using hxs.2.1.2.2.2.2.1)
  have hp4 := okLenI (l := p.drop) (by simpa using hxs.2.1.2.2.2.2.2.1)
  clear hxs
  unfold c29; dsimp only [oA, oB, oC, oD, oF, oG, oI, oJ, oK, oL, oM, oN, oO, oQ, oR, oS, oU, oW, oX]
  repeat' first | (with_reducible first | refine thN ?_ | refine thR ?_ | refine thE ?_ | refine inN ?_ | refine inR ?_ | refine inH ?_ | refine fS ?_ | refine fR ?_ | refine fQ ?_ | refine fE ?_ | refine fT ?_ | refine awBlock ?_ | refine awExit ?_ | refine awRet ?_ | refine awSkip ?_) | ((with_reducible refine awReg fun K hok hK => ?_); clear hok; (try simp (maxSteps := 10000000) (disch := first | omega | simp) []); (repeat' first | (with_reducible refine hK _ (by simp) ?_) | ((with_reducible refine gdT (fun h => ?_) (fun h => ?_)) <;> (simp (maxSteps := 10000000) (disch := first | omega | simp) [h]; (try simp at h); (try (exfalso; omega)))) | ((with_reducible refine gdF (fun h => ?_) (fun h => ?_)) <;> (simp (maxSteps := 10000000) (disch := first | omega | simp) [h]; (try simp at h); (try (exfalso; omega)))) | ((first | ((with_reducible refine sideSt' fun K2 hK2 => ?_); (try simp (maxSteps := 10000000) (disch := first | omega | simp) []); refine hK2 _ ?_; clear hK2 K2) | ((with_reducible refine gdU ?_)) | ((with_reducible refine sideQ' ?_ ?_ fun K2 hK2 => ?_); exact rfl; exact rfl; (try simp (maxSteps := 10000000) (disch := first | omega | simp) []); with_reducible refine hK2 _ _ ?_; clear hK2 K2) | ((with_reducible refine side' ?_ fun K2 hK2 => ?_); exact rfl; (try simp (maxSteps := 10000000) (disch := first | omega | simp) []); refine hK2 _ _ (by simp) ?_; clear hK2 K2)); (try simp (maxSteps := 10000000) (disch := first | omega | simp) []))) <;> clear hK K) | ((with_reducible refine awCond fun A B hA hB => ?_); simp (maxSteps := 10000000) (disch := first | omega | simp) []; (first | refine ⟨fun h => hA ?_, fun h => hB ?_⟩ | refine hA ?_ | refine hB ?_) <;> (clear hA hB A B; (try (exfalso; omega))))
  · (refine aEnR (aRes [] fun K hK => ?_); simp (maxSteps := 10000000) (disch := first | omega | simp) [Image.right]; refine hK _ ?_ (by simp); clear hK; first | done | (simp (maxSteps := 10000000) (disch := first | omega | simp) [Image.right, *]; done) | (simp (maxSteps := 10000000) (disch := first | omega | simp) [Image.right, *]; omega) | (simp_all [Image.right]; done) | (simp_all [Image.right]; omega))
  refine awFor p.ids.length (fun i (_ : Unit) => ∀ n ∈ p.ids.take i, ((m.broker n).isNone) = false) (fun i _ => [(5, .p (I i)), (2, .p (.own (encM m).cells)), (3, .p (.own (encP p).cells))]) () (Wk.ofA ?_) (by simp) fun i _ hi hni => ?_
  · simp
  repeat' first | (with_reducible first | refine thN ?_ | refine thR ?_ | refine thE ?_ | refine inN ?_ | refine inR ?_ | refine inH ?_ | refine fS ?_ | refine fR ?_ | refine fQ ?_ | refine fE ?_ | refine fT ?_ | refine awBlock ?_ | refine awExit ?_ | refine awRet ?_ | refine awSkip ?_) | ((with_reducible refine awReg fun K hok hK => ?_); clear hok; (try simp (maxSteps := 10000000) (disch := first | omega | simp) []); (repeat' first | (with_reducible refine hK _ (by simp) ?_) | ((with_reducible refine gdT (fun h => ?_) (fun h => ?_)) <;> (simp (maxSteps := 10000000) (disch := first | omega | simp) [h]; (try simp at h); (try (exfalso; omega)))) | ((with_reducible refine gdF (fun h => ?_) (fun h => ?_)) <;> (simp (maxSteps := 10000000) (disch := first | omega | simp) [h]; (try simp at h); (try (exfalso; omega)))) | ((first | ((with_reducible refine callS' fun K2 hK2 => ?_); (try simp (maxSteps := 10000000) (disch := first | omega | simp) []); (refine hK2 _ _ (broker_ok m _) rfl fun hk9 => ?_); clear hk9; clear hK2 K2) | ((with_reducible refine sideS' fun K2 hK2 => ?_); (try simp (maxSteps := 10000000) (disch := first | omega | simp) []); (refine hK2 _ _ (broker_ok m _) rfl ?_); clear hK2 K2) | ((with_reducible refine sideSt' fun K2 hK2 => ?_); (try simp (maxSteps := 10000000) (disch := first | omega | simp) []); refine hK2 _ ?_; clear hK2 K2) | ((with_reducible refine gdU ?_)) | ((with_reducible refine sideQ' ?_ ?_ fun K2 hK2 => ?_); exact rfl; exact rfl; (try simp (maxSteps := 10000000) (disch := first | omega | simp) []); with_reducible refine hK2 _ _ ?_; clear hK2 K2) | ((with_reducible refine side' ?_ fun K2 hK2 => ?_); exact rfl; (try simp (maxSteps := 10000000) (disch := first | omega | simp) []); refine hK2 _ _ (by simp) ?_; clear hK2 K2)); (try simp (maxSteps := 10000000) (disch := first | omega | simp) []))) <;> clear hK K) | ((with_reducible refine awCond fun A B hA hB => ?_); simp (maxSteps := 10000000) (disch := first | omega | simp) []; (first | refine ⟨fun h => hA ?_, fun h => hB ?_⟩ | refine hA ?_ | refine hB ?_) <;> (clear hA hB A B; (try (exfalso; omega))))
  · have e : p.ids.any (fun n => (m.broker n).isNone) = true := any_at (by assumption) (by simpa using h)
    (refine aEnR (aRes [] fun K hK => ?_); simp (maxSteps := 10000000) (disch := first | omega | simp) [Image.right, e]; refine hK _ ?_ (by simp); clear hK; first | done | (simp (maxSteps := 10000000) (disch := first | omega | simp) [Image.right, e, *]; done) | (simp (maxSteps := 10000000) (disch := first | omega | simp) [Image.right, e, *]; omega) | (simp_all [Image.right, e]; done) | (simp_all [Image.right, e]; omega))
  · exact ⟨by assumption, (), all_take (by assumption) hni (by simpa using h), Wk.ofA (by simp)⟩
  · have e1 : p.ids.any (fun n => (m.broker n).isNone) = false := any_no (by assumption) hni
    (refine aEnR (aRes [] fun K hK => ?_); simp (maxSteps := 10000000) (disch := first | omega | simp) [Image.right, e1]; refine hK _ ?_ (by simp); clear hK; first | done | (simp (maxSteps := 10000000) (disch := first | omega | simp) [Image.right, e1, *]; done) | (simp (maxSteps := 10000000) (disch := first | omega | simp) [Image.right, e1, *]; omega) | (simp_all [Image.right, e1]; done) | (simp_all [Image.right, e1]; omega))
  have e1 : p.ids.any (fun n => (m.broker n).isNone) = false := any_no (by assumption) hni
  clear hni hi
  refine awFor p.isr.length (fun i (_ : Unit) => ∀ n ∈ p.isr.take i, (!p.ids.contains n) = false) (fun i _ => [(8, .p (I i)), (2, .p (.own (encM m).cells)), (3, .p (.own (encP p).cells))]) () (Wk.ofA ?_) (by simp) fun i _ hi hni => ?_
  · simp
  repeat' first | (with_reducible first | refine thN ?_ | refine thR ?_ | refine thE ?_ | refine inN ?_ | refine inR ?_ | refine inH ?_ | refine fS ?_ | refine fR ?_ | refine fQ ?_ | refine fE ?_ | refine fT ?_ | refine awBlock ?_ | refine awExit ?_ | refine awRet ?_ | refine awSkip ?_) | ((with_reducible refine awReg fun K hok hK => ?_); clear hok; (try simp (maxSteps := 10000000) (disch := first | omega | simp) []); (repeat' first | (with_reducible refine hK _ (by simp) ?_) | ((with_reducible refine gdT (fun h => ?_) (fun h => ?_)) <;> (simp (maxSteps := 10000000) (disch := first | omega | simp) [h]; (try simp at h); (try (exfalso; omega)))) | ((with_reducible refine gdF (fun h => ?_) (fun h => ?_)) <;> (simp (maxSteps := 10000000) (disch := first | omega | simp) [h]; (try simp at h); (try (exfalso; omega)))) | ((first | ((with_reducible refine callS' fun K2 hK2 => ?_); (try simp (maxSteps := 10000000) (disch := first | omega | simp) []); (first | refine hK2 _ _ (has_ok _ _) rfl fun hk9 => ?_ | refine hK2 _ _ (alive_ok m p.leader) rfl fun hk9 => ?_); clear hk9; clear hK2 K2) | ((with_reducible refine sideS' fun K2 hK2 => ?_); (try simp (maxSteps := 10000000) (disch := first | omega | simp) []); (first | refine hK2 _ _ (has_ok _ _) rfl ?_ | refine hK2 _ _ (alive_ok m p.leader) rfl ?_); clear hK2 K2) | ((with_reducible refine sideSt' fun K2 hK2 => ?_); (try simp (maxSteps := 10000000) (disch := first | omega | simp) []); refine hK2 _ ?_; clear hK2 K2) | ((with_reducible refine gdU ?_)) | ((with_reducible refine sideQ' ?_ ?_ fun K2 hK2 => ?_); exact rfl; exact rfl; (try simp (maxSteps := 10000000) (disch := first | omega | simp) []); with_reducible refine hK2 _ _ ?_; clear hK2 K2) | ((with_reducible refine side' ?_ fun K2 hK2 => ?_); exact rfl; (try simp (maxSteps := 10000000) (disch := first | omega | simp) []); refine hK2 _ _ (by simp) ?_; clear hK2 K2)); (try simp (maxSteps := 10000000) (disch := first | omega | simp) []))) <;> clear hK K) | ((with_reducible refine awCond fun A B hA hB => ?_); simp (maxSteps := 10000000) (disch := first | omega | simp) []; (first | refine ⟨fun h => hA ?_, fun h => hB ?_⟩ | refine hA ?_ | refine hB ?_) <;> (clear hA hB A B; (try (exfalso; omega))))
  · have e : p.isr.any (fun n => !p.ids.contains n) = true := any_at (by assumption) (by simpa using h)
    (refine aEnR (aRes [] fun K hK => ?_); simp (maxSteps := 10000000) (disch := first | omega | simp) [Image.right, e1, e]; refine hK _ ?_ (by simp); clear hK; first | done | (simp (maxSteps := 10000000) (disch := first | omega | simp) [Image.right, e1, e, *]; done) | (simp (maxSteps := 10000000) (disch := first | omega | simp) [Image.right, e1, e, *]; omega) | (simp_all [Image.right, e1, e]; done) | (simp_all [Image.right, e1, e]; omega))
  · exact ⟨by assumption, (), all_take (by assumption) hni (by simpa using h), Wk.ofA (by simp)⟩
  all_goals
    have e2 : p.isr.any (fun n => !p.ids.contains n) = false := any_no (by assumption) hni
    clear hni hi
  all_goals first
    | (refine aEnR (aRes [] fun K hK => ?_); simp (maxSteps := 10000000) (disch := first | omega | simp) []; refine hK _ ?_ (by simp); clear hK; (try unfold Image.right); ((repeat' split) <;> first | rfl | (exfalso; omega) | (exfalso; simp only [*, Bool.false_eq_true, Bool.true_eq_false, not_true, not_false_iff] at *; done) | (simp_all; done) | (exfalso; simp_all; omega)))
    | (refine awFor p.add.length (fun i (_ : Unit) => ∀ n ∈ p.add.take i, (!p.ids.contains n || p.drop.contains n) = false) (fun i _ => [(9, .p (I i)), (3, .p (.own (encP p).cells))]) () (Wk.ofA ?_) (by simp) fun i _ hi hni => ?_
       · simp
       repeat' first | (with_reducible first | refine thN ?_ | refine thR ?_ | refine thE ?_ | refine inN ?_ | refine inR ?_ | refine inH ?_ | refine fS ?_ | refine fR ?_ | refine fQ ?_ | refine fE ?_ | refine fT ?_ | refine awBlock ?_ | refine awExit ?_ | refine awRet ?_ | refine awSkip ?_) | ((with_reducible refine awReg fun K hok hK => ?_); clear hok; (try simp (maxSteps := 10000000) (disch := first | omega | simp) []); (repeat' first | (with_reducible refine hK _ (by simp) ?_) | ((with_reducible refine gdT (fun h => ?_) (fun h => ?_)) <;> (simp (maxSteps := 10000000) (disch := first | omega | simp) [h]; (try simp at h); (try (exfalso; omega)))) | ((with_reducible refine gdF (fun h => ?_) (fun h => ?_)) <;> (simp (maxSteps := 10000000) (disch := first | omega | simp) [h]; (try simp at h); (try (exfalso; omega)))) | ((first | ((with_reducible refine callS' fun K2 hK2 => ?_); (try simp (maxSteps := 10000000) (disch := first | omega | simp) []); (refine hK2 _ _ (has_ok _ _) rfl fun hk9 => ?_); clear hk9; clear hK2 K2) | ((with_reducible refine sideS' fun K2 hK2 => ?_); (try simp (maxSteps := 10000000) (disch := first | omega | simp) []); (refine hK2 _ _ (has_ok _ _) rfl ?_); clear hK2 K2) | ((with_reducible refine sideSt' fun K2 hK2 => ?_); (try simp (maxSteps := 10000000) (disch := first | omega | simp) []); refine hK2 _ ?_; clear hK2 K2) | ((with_reducible refine gdU ?_)) | ((with_reducible refine sideQ' ?_ ?_ fun K2 hK2 => ?_); exact rfl; exact rfl; (try simp (maxSteps := 10000000) (disch := first | omega | simp) []); with_reducible refine hK2 _ _ ?_; clear hK2 K2) | ((with_reducible refine side' ?_ fun K2 hK2 => ?_); exact rfl; (try simp (maxSteps := 10000000) (disch := first | omega | simp) []); refine hK2 _ _ (by simp) ?_; clear hK2 K2)); (try simp (maxSteps := 10000000) (disch := first | omega | simp) []))) <;> clear hK K) | ((with_reducible refine awCond fun A B hA hB => ?_); simp (maxSteps := 10000000) (disch := first | omega | simp) []; (first | refine ⟨fun h => hA ?_, fun h => hB ?_⟩ | refine hA ?_ | refine hB ?_) <;> (clear hA hB A B; (try (exfalso; omega))))
       all_goals first
         | exact ⟨by assumption, (), all_take (by assumption) hni (by simp [*]), Wk.ofA (by simp)⟩
         | (have e : p.add.any (fun n => !p.ids.contains n || p.drop.contains n) = true := any_at (by assumption) (by simp [*])
            (refine aEnR (aRes [] fun K hK => ?_); simp (maxSteps := 10000000) (disch := first | omega | simp) []; refine hK _ ?_ (by simp); clear hK; (try unfold Image.right); ((repeat' split) <;> first | rfl | (exfalso; omega) | (exfalso; simp only [*, Bool.false_eq_true, Bool.true_eq_false, not_true, not_false_iff] at *; done) | (simp_all; done) | (exfalso; simp_all; omega))))
         | (have e3 : p.add.any (fun n => !p.ids.contains n || p.drop.contains n) = false := any_no (by assumption) hni
            clear hni hi
            refine awFor p.drop.length (fun i (_ : Unit) => ∀ n ∈ p.drop.take i, (!p.ids.contains n) = false) (fun i _ => [(10, .p (I i)), (3, .p (.own (encP p).cells))]) () (Wk.ofA (by simp)) (by simp) fun i _ hi hni => ?_
            repeat' first | (with_reducible first | refine thN ?_ | refine thR ?_ | refine thE ?_ | refine inN ?_ | refine inR ?_ | refine inH ?_ | refine fS ?_ | refine fR ?_ | refine fQ ?_ | refine fE ?_ | refine fT ?_ | refine awBlock ?_ | refine awExit ?_ | refine awRet ?_ | refine awSkip ?_) | ((with_reducible refine awReg fun K hok hK => ?_); clear hok; (try simp (maxSteps := 10000000) (disch := first | omega | simp) []); (repeat' first | (with_reducible refine hK _ (by simp) ?_) | ((with_reducible refine gdT (fun h => ?_) (fun h => ?_)) <;> (simp (maxSteps := 10000000) (disch := first | omega | simp) [h]; (try simp at h); (try (exfalso; omega)))) | ((with_reducible refine gdF (fun h => ?_) (fun h => ?_)) <;> (simp (maxSteps := 10000000) (disch := first | omega | simp) [h]; (try simp at h); (try (exfalso; omega)))) | ((first | ((with_reducible refine callS' fun K2 hK2 => ?_); (try simp (maxSteps := 10000000) (disch := first | omega | simp) []); (refine hK2 _ _ (has_ok _ _) rfl fun hk9 => ?_); clear hk9; clear hK2 K2) | ((with_reducible refine sideS' fun K2 hK2 => ?_); (try simp (maxSteps := 10000000) (disch := first | omega | simp) []); (refine hK2 _ _ (has_ok _ _) rfl ?_); clear hK2 K2) | ((with_reducible refine sideSt' fun K2 hK2 => ?_); (try simp (maxSteps := 10000000) (disch := first | omega | simp) []); refine hK2 _ ?_; clear hK2 K2) | ((with_reducible refine gdU ?_)) | ((with_reducible refine sideQ' ?_ ?_ fun K2 hK2 => ?_); exact rfl; exact rfl; (try simp (maxSteps := 10000000) (disch := first | omega | simp) []); with_reducible refine hK2 _ _ ?_; clear hK2 K2) | ((with_reducible refine side' ?_ fun K2 hK2 => ?_); exact rfl; (try simp (maxSteps := 10000000) (disch := first | omega | simp) []); refine hK2 _ _ (by simp) ?_; clear hK2 K2)); (try simp (maxSteps := 10000000) (disch := first | omega | simp) []))) <;> clear hK K) | ((with_reducible refine awCond fun A B hA hB => ?_); simp (maxSteps := 10000000) (disch := first | omega | simp) []; (first | refine ⟨fun h => hA ?_, fun h => hB ?_⟩ | refine hA ?_ | refine hB ?_) <;> (clear hA hB A B; (try (exfalso; omega))))
            all_goals first
              | exact ⟨by assumption, (), all_take (by assumption) hni (by simpa using h), Wk.ofA (by simp)⟩
              | (have e : p.drop.any (fun n => !p.ids.contains n) = true := any_at (by assumption) (by simpa using h)
                 (refine aEnR (aRes [] fun K hK => ?_); simp (maxSteps := 10000000) (disch := first | omega | simp) []; refine hK _ ?_ (by simp); clear hK; (try unfold Image.right); ((repeat' split) <;> first | rfl | (exfalso; omega) | (exfalso; simp only [*, Bool.false_eq_true, Bool.true_eq_false, not_true, not_false_iff] at *; done) | (simp_all; done) | (exfalso; simp_all; omega))))
              | (have e4 : p.drop.any (fun n => !p.ids.contains n) = false := any_no (by assumption) hni
                 (refine aEnR (aRes [] fun K hK => ?_); simp (maxSteps := 10000000) (disch := first | omega | simp) []; refine hK _ ?_ (by simp); clear hK; (try unfold Image.right); ((repeat' split) <;> first | rfl | (exfalso; omega) | (exfalso; simp only [*, Bool.false_eq_true, Bool.true_eq_false, not_true, not_false_iff] at *; done) | (simp_all; done) | (exfalso; simp_all; omega))))))
end
end Go.Am
end
section
set_option maxRecDepth 100000
set_option maxHeartbeats 0
namespace Go.Am
open Go
noncomputable section
end
end Go.Am
end
section
set_option maxRecDepth 100000
set_option maxHeartbeats 0
namespace Go.Am
open Go
noncomputable section
def c9 : SC := (.seq (.reg [oO 1 30 0,oI 2 0] [1]) (.seq (.reg [oI 3 0] [1,3,14]) (.seq (.block 0 (.seq (.loop (.seq (.reg [oM 8 3,oF 9 30 1 1,oL 10 26 9,oN 11 10 26,oB 12 .lss 3 8 11 3] [1,3,12,14]) (.seq (.cond (.tmp 12) .skip (.exit 0)) (.seq (.block 1 (.seq (.reg [oF 15 30 1 1,oL 16 26 15,oM 17 3,oJ 18 26 16 17,oL 19 65 18,oA 4 65,oS 65 4 19] [1,3,4,14]) (.seq (.reg [oM 20 3,oK 21 .gtr 3 20 0 3,oM 22 21,oU (oW 22 true (oF 23 30 1 1)) [25,26,30,31],oU (oW 22 true (oL 24 26 23)) [25,26,30,31],oU (oW 22 true (oM 25 3)) [23,24,30,31],oU (oW 22 true (oK 26 .sub 3 25 1 3)) [23,24,30,31],oU (oW 22 true (oJ 27 26 24 26)) [30,31],oU (oW 22 true (oF 28 65 27 0)) [30,31],oU (oW 22 true (oL 29 3 28)) [30,31],oU (oW 22 true (oF 30 65 4 0)) [23,24,25,26,27,28,29],oU (oW 22 true (oL 31 3 30)) [23,24,25,26,27,28,29],oW 22 true (oB 32 .geq 3 29 31 3),oQ 33 22 32 false,oM 34 33,oU (oW 34 false (oF 35 65 4 0)) [37,38],oU (oW 34 false (oL 36 3 35)) [37,38],oU (oW 34 false (oF 37 30 1 4)) [35,36],oU (oW 34 false (oL 38 3 37)) [35,36],oW 34 false (oB 39 .gtr 3 36 38 3),oR 40 34 true 39] [1,3,4,14,21,22,32,33,34,39,40]) (.seq (.cond (.tmp 40) (.seq (.reg [oI 2 1] [2]) .ret) .skip) (.seq (.reg [oI 5 0] [1,3,4,5,14,45]) (.seq (.block 2 (.seq (.loop (.seq (.reg [oM 41 5,oM 42 3,oB 43 .lss 3 41 42 3] [1,3,4,5,14,43,45]) (.seq (.cond (.tmp 43) .skip (.exit 2)) (.seq (.block 3 (.seq (.reg [oU (oF 46 30 1 1) [48,52,53],oU (oL 47 26 46) [48,52,53],oU (oM 48 5) [46,47,52,53],oU (oJ 49 26 47 48) [52,53],oU (oF 50 65 49 1) [52,53],oU (oL 51 9 50) [52,53],oU (oF 52 65 4 1) [46,47,48,49,50,51],oU (oL 53 9 52) [46,47,48,49,50,51],oB 54 .eql 9 51 53 9] [1,3,4,5,14,45,54]) (.seq (.cond (.tmp 54) (.seq (.reg [oI 2 1] [2]) .ret) .skip) .skip))) (.seq (.reg [oM 44 5,oK 45 .add 3 44 1 3,oG 5 45] [1,3,4,5,14,45]) .skip))))) .skip)) (.seq (.reg [oI 6 0] [1,3,4,6,14,61]) (.seq (.block 4 (.seq (.loop (.seq (.reg [oM 55 6,oF 56 65 4 2,oL 57 63 56,oN 58 57 63,oB 59 .lss 3 55 58 3] [1,3,4,6,14,59,61]) (.seq (.cond (.tmp 59) .skip (.exit 4)) (.seq (.block 5 (.seq (.reg [oU (oL 62 30 1) [63,64,65,66,67],oU (oF 63 65 4 2) [62,65],oU (oL 64 63 63) [62,65],oU (oM 65 6) [62,63,64],oU (oJ 66 63 64 65) [62],oU (oL 67 47 66) [62],oC 68 29 #[.tmp 62,.tmp 67] #[30,47],oK 69 .neq 55 68 0 55,oM 70 69,oU (oW 70 false (oF 71 65 4 2)) [73],oU (oW 70 false (oL 72 63 71)) [73],oU (oW 70 false (oM 73 6)) [71,72],oW 70 false (oJ 74 63 72 73),oW 70 false (oF 75 47 74 0),oW 70 false (oL 76 35 75),oW 70 false (oC 77 30 #[.tmp 76] #[35]),oW 70 false (oD 78 (.unOp .not 4 (.tmp 77))),oR 79 70 true 78] [1,3,4,6,14,61,69,70,78,79]) (.seq (.cond (.tmp 79) (.seq (.reg [oI 2 1] [2]) .ret) .skip) .skip))) (.seq (.reg [oM 60 6,oK 61 .add 3 60 1 3,oG 6 61] [1,3,4,6,14,61]) .skip))))) .skip)) .skip)))))))) (.seq (.reg [oM 13 3,oK 14 .add 3 13 1 3,oG 3 14] [1,3,14]) .skip))))) .skip)) (.seq (.reg [oI 7 1] [1,7,86]) (.seq (.block 6 (.seq (.loop (.seq (.reg [oM 80 7,oF 81 30 1 0,oL 82 25 81,oN 83 82 25,oB 84 .lss 3 80 83 3] [1,7,84,86]) (.seq (.cond (.tmp 84) .skip (.exit 6)) (.seq (.block 7 (.seq (.reg [oU (oF 87 30 1 0) [89,90,94,95,96,97,98,99],oU (oL 88 25 87) [89,90,94,95,96,97,98,99],oU (oM 89 7) [87,88,94,95,96,97,98,99],oU (oK 90 .sub 3 89 1 3) [87,88,94,95,96,97,98,99],oU (oJ 91 25 88 90) [94,95,96,97,98,99],oU (oF 92 51 91 0) [94,95,96,97,98,99],oU (oL 93 3 92) [94,95,96,97,98,99],oU (oF 94 30 1 0) [87,88,89,90,91,92,93,96],oU (oL 95 25 94) [87,88,89,90,91,92,93,96],oU (oM 96 7) [87,88,89,90,91,92,93,94,95],oU (oJ 97 25 95 96) [87,88,89,90,91,92,93],oU (oF 98 51 97 0) [87,88,89,90,91,92,93],oU (oL 99 3 98) [87,88,89,90,91,92,93],oB 100 .geq 3 93 99 3] [1,7,86,100]) (.seq (.cond (.tmp 100) (.seq (.reg [oI 2 1] [2]) .ret) .skip) .skip))) (.seq (.reg [oM 85 7,oK 86 .add 3 85 1 3,oG 7 86] [1,7,86]) .skip))))) .skip)) (.seq (.reg [oF 101 30 1 3,oL 102 28 101,oN 103 102 28,oK 104 .gtr 3 103 64 3,oM 105 104,oW 105 false (oF 106 30 1 1),oW 105 false (oL 107 26 106),oW 105 false (oN 108 107 26),oW 105 false (oK 109 .gtr 3 108 256 3),oR 110 105 true 109] [104,105,109,110]) (.seq (.cond (.tmp 110) (.seq (.reg [oI 2 1] [2]) .ret) .skip) (.seq (.reg [oI 2 0] [2]) .ret))))))))
theorem s9 : TextK Proofs.Tryz.prog 0 9 111 [ResultVar.tmp 2] c9 := .mk' Proofs.Tryz.f9 _ (by kernel_rfl) rfl rfl rfl (by kernel_rfl) rfl (by kernel_rfl)
theorem whole_ok (m : Image) (n : Nat) (h : m.Inv n) (hn : n ≤ 200) (hd : m.done.length ≤ 64) : ACall pg 9 [encM m] (I 0) := by
  refine s9.call mo (by simp) fun hxs => ?_
  clear hxs
  have hbl := h.bl
  have htl := h.tl
  have hla := h.la
  unfold c9; dsimp only [oA, oB, oC, oD, oF, oG, oI, oJ, oK, oL, oM, oN, oO, oQ, oR, oS, oU, oW]
  refine wk ?_
  refine awFor m.topics.length (fun i (_ : Unit) => True) (fun i _ => [(3, .p (I i)), (1, .p (.own (encM m).cells))]) () (Wk.ofA (by simp)) trivial fun i _ hi _ => ?_
  by_cases hlt : i < m.topics.length
  · have htm := List.getElem_mem hlt
    have hpl := h.pl _ htm
    have hid : ¬ m.last < m.topics[i].id := by have := h.tr _ htm; omega
    have hnm : ∀ k (hk : k < i), (m.topics[k].name.toList == m.topics[i].name.toList) = false := fun k hk => by
      have := List.pairwise_iff_getElem.1 h.tn k i (by omega) hlt hk
      simpa using this
    have inner : True := trivial
    rcases Nat.eq_zero_or_pos i with h0 | h0
    · subst h0
      have F := And.intro hlt hid
      refine wkF ?_
      refine awFor 0 (fun k (_ : Unit) => True) (fun k _ => [(5, .p (I k)), (4, .p (.own (encT m.topics[0]).cells)), (3, .p (I 0)), (1, .p (.own (encM m).cells))]) () (Wk.ofA (by simp)) trivial fun k _ hk _ => ?_
      have hk0 : k = 0 := by omega
      subst hk0
      have F := hlt
      refine wkF ?_
      refine awFor m.topics[0].parts.length (fun k (_ : Unit) => True) (fun k _ => [(6, .p (I k)), (4, .p (.own (encT m.topics[0]).cells)), (3, .p (I 0)), (1, .p (.own (encM m).cells))]) () (Wk.ofA (by simp)) trivial fun k _ hk _ => ?_
      by_cases hkt : k < m.topics[0].parts.length
      · have hpr := h.pr _ htm _ (List.getElem_mem hkt)
        have hr := right_ok m m.topics[0].parts[k]
        rw [right_iff.2 hpr.1] at hr
        have hbk := ref05_Brokers_ok m.topics[0].parts[k].ids
        rw [hpr.2.ids] at hbk
        have F := And.intro hlt hkt
        refine wkF ?_
        (refine ⟨?_, (), ?_, Wk.ofA ?_⟩; assumption; rotate_left; focus (simp []; done))
        trivial
      · have F := And.intro hlt hkt
        refine wkF ?_
        (refine ⟨?_, (), ?_, Wk.ofA ?_⟩; assumption; rotate_left; focus (simp []; done))
        trivial
    · have hlt2 : i - 1 < m.topics.length := by omega
      have hle : ¬ m.topics[i].id ≤ m.topics[i - 1].id := by
        have := List.pairwise_iff_getElem.1 h.ti (i - 1) i hlt2 hlt (by omega)
        omega
      have hsub : (i : Int) - 1 = ((i - 1 : Nat) : Int) := by omega
      have F := And.intro hlt (And.intro hid (And.intro h0 (And.intro hsub (And.intro hlt2 hle))))
      refine wkF ?_
      refine awFor i (fun k (_ : Unit) => True) (fun k _ => [(5, .p (I k)), (4, .p (.own (encT m.topics[i]).cells)), (3, .p (I i)), (1, .p (.own (encM m).cells))]) () (Wk.ofA (by simp)) trivial fun k _ hk _ => ?_
      by_cases hki : k < i
      · have hn2 := hnm k hki
        have hkl : k < m.topics.length := by omega
        have F := And.intro hlt (And.intro hki (And.intro hkl hn2))
        refine wkF ?_
        (refine ⟨?_, (), ?_, Wk.ofA ?_⟩; assumption; rotate_left; focus (simp []; done))
        trivial
      have F := And.intro hlt hki
      refine wkF ?_
      refine awFor m.topics[i].parts.length (fun k (_ : Unit) => True) (fun k _ => [(6, .p (I k)), (4, .p (.own (encT m.topics[i]).cells)), (3, .p (I i)), (1, .p (.own (encM m).cells))]) () (Wk.ofA (by simp)) trivial fun k _ hk _ => ?_
      by_cases hkt : k < m.topics[i].parts.length
      · have hpr := h.pr _ htm _ (List.getElem_mem hkt)
        have hr := right_ok m m.topics[i].parts[k]
        rw [right_iff.2 hpr.1] at hr
        have hbk := ref05_Brokers_ok m.topics[i].parts[k].ids
        rw [hpr.2.ids] at hbk
        have F := And.intro hlt hkt
        refine wkF ?_
        (refine ⟨?_, (), ?_, Wk.ofA ?_⟩; assumption; rotate_left; focus (simp []; done))
        trivial
      · have F := And.intro hlt hkt
        refine wkF ?_
        (refine ⟨?_, (), ?_, Wk.ofA ?_⟩; assumption; rotate_left; focus (simp []; done))
        trivial
  have d1 : ¬ (64 : Int) < m.done.length := by omega
  have d2 : ¬ (256 : Int) < m.topics.length := by omega
  have F := hlt
  refine wkF ?_
  refine awFor (m.brokers.length - 1) (fun i (_ : Unit) => True) (fun i _ => [(7, .p (I ((i : Int) + 1))), (1, .p (.own (encM m).cells))]) () (Wk.ofA (by simp)) trivial fun i _ hi _ => ?_
  by_cases hlb : i + 1 < m.brokers.length
  · have hlb0 : i < m.brokers.length := by omega
    have hlbi : (i : Int) + 1 < m.brokers.length := by omega
    have htn : ((i : Int) + 1).toNat = i + 1 := by omega
    have hle : ¬ m.brokers[i + 1].id ≤ m.brokers[i].id := by
      have := List.pairwise_iff_getElem.1 h.bs i (i + 1) hlb0 hlb (by omega)
      omega
    have hN : i < m.brokers.length - 1 := by omega
    have F := And.intro hlbi (And.intro hlb (And.intro hlb0 (And.intro htn hle)))
    refine wkF ?_
    (refine ⟨?_, (), ?_, Wk.ofA ?_⟩; assumption; rotate_left; focus (simp []; done))
    trivial
  · have hlbi : ¬ (i : Int) + 1 < m.brokers.length := by omega
    have F := And.intro hlbi (And.intro d1 d2)
    refine wkF ?_
    exact fn0
end
end Go.Am
end
section
set_option maxRecDepth 100000
set_option maxHeartbeats 0
namespace Go.Am
open Go
noncomputable section
def c31 : SC := (.seq (.reg [oO 1 37 0,oZ 2 false] [1]) (.seq (.reg [oF 4 37 1 10,oL 5 9 4,oN 6 5 9,oK 7 .leq 3 6 400 3,oM 8 7,oW 8 true (oF 9 37 1 11),oW 8 true (oL 10 9 9),oW 8 true (oN 11 10 9),oW 8 true (oK 12 .leq 3 11 400 3),oQ 13 8 12 false,oM 14 13,oW 14 true (oF 15 37 1 12),oW 14 true (oL 16 9 15),oW 14 true (oN 17 16 9),oW 14 true (oK 18 .leq 3 17 400 3),oQ 19 14 18 false,oM 20 19,oW 20 true (oF 21 37 1 13),oW 20 true (oL 22 9 21),oW 20 true (oN 23 22 9),oW 20 true (oK 24 .leq 3 23 400 3),oQ 25 20 24 false,oG 3 25] [1,3,7,8,12,13,14,18,19,20,24,25]) (.seq (.reg [oM 26 3,oM 27 26,oW 27 true (oF 28 37 1 14),oW 27 true (oL 29 35 28),oW 27 true (oN 30 29 35),oW 27 true (oK 31 .leq 3 30 60 3),oQ 32 27 31 false,oM 33 32,oW 33 true (oF 34 37 1 15),oW 33 true (oL 35 35 34),oW 33 true (oN 36 35 35),oW 33 true (oK 37 .leq 3 36 60 3),oQ 38 33 37 false,oM 39 38,oW 39 true (oF 40 37 1 16),oW 39 true (oL 41 35 40),oW 39 true (oN 42 41 35),oW 39 true (oK 43 .leq 3 42 60 3),oQ 44 39 43 false,oM 45 44,oW 45 true (oF 46 37 1 17),oW 45 true (oL 47 35 46),oW 45 true (oN 48 47 35),oW 45 true (oK 49 .leq 3 48 60 3),oQ 50 45 49 false,oG 2 50] [2,3,7,8,12,13,14,18,19,20,24,25,26,27,31,32,33,37,38,39,43,44,45,49,50]) .ret)))
theorem s31 : TextK Proofs.Tryz.prog 0 31 51 [ResultVar.tmp 2] c31 := .mk' Proofs.Tryz.f31 _ (by kernel_rfl) rfl rfl rfl (by kernel_rfl) rfl (by kernel_rfl)
def c11 : SC := (.seq (.reg [oZ 2 false] [0]) (.seq (.reg [oM 4 0,oN 5 4 22,oK 6 .gtr 3 5 80 3] [0,6]) (.seq (.cond (.tmp 6) (.seq (.reg [oZ 2 false] [2]) .ret) .skip) (.seq (.reg [oI 3 0] [0,3,12]) (.seq (.block 0 (.seq (.loop (.seq (.reg [oM 7 3,oM 8 0,oN 9 8 22,oB 10 .lss 3 7 9 3] [0,3,10,12]) (.seq (.cond (.tmp 10) .skip (.exit 0)) (.seq (.block 1 (.seq (.reg [oM 13 0,oM 14 3,oJ 15 22 13 14,oL 16 37 15,oC 17 31 #[.tmp 16] #[37],oD 18 (.unOp .not 4 (.tmp 17))] [0,3,12,18]) (.seq (.cond (.tmp 18) (.seq (.reg [oZ 2 false] [2]) .ret) .skip) .skip))) (.seq (.reg [oM 11 3,oK 12 .add 3 11 1 3,oG 3 12] [0,3,12]) .skip))))) .skip)) (.seq (.reg [oZ 2 true] [2]) .ret))))))
theorem s11 : TextK Proofs.Tryz.prog 0 11 19 [ResultVar.tmp 2] c11 := .mk' Proofs.Tryz.f11 _ (by kernel_rfl) rfl rfl rfl (by kernel_rfl) rfl (by kernel_rfl)
def c12 : SC := (.seq (.reg [oI 2 0] [0]) (.seq (.reg [oM 3 0,oN 4 3 22,oK 5 .quo 3 4 2 3,oG 2 5] [2,5]) .ret))
theorem s12 : TextK Proofs.Tryz.prog 0 12 6 [ResultVar.tmp 2] c12 := .mk' Proofs.Tryz.f12 _ (by kernel_rfl) rfl rfl rfl (by kernel_rfl) rfl (by kernel_rfl)
def c5 : SC := (.seq (.reg [oZ 2 false] [0]) (.seq (.reg [oM 3 0,oN 4 3 22,oK 5 .leq 3 4 120 3,oM 6 5,oW 6 true (oM 7 0),oW 6 true (oM 8 0),oW 6 true (oC 9 12 #[.tmp 8] #[22]),oW 6 true (oD 10 (.slice 22 (.tmp 7) none (some (.tmp 9)) none)),oW 6 true (oC 11 11 #[.tmp 10] #[22]),oQ 12 6 11 false,oM 13 12,oW 13 true (oM 14 0),oW 13 true (oM 15 0),oW 13 true (oC 16 12 #[.tmp 15] #[22]),oW 13 true (oD 17 (.slice 22 (.tmp 14) (some (.tmp 16)) none none)),oW 13 true (oC 18 11 #[.tmp 17] #[22]),oQ 19 13 18 false,oG 2 19] [2,5,6,11,12,13,18,19]) .ret))
theorem s5 : TextK Proofs.Tryz.prog 0 5 20 [ResultVar.tmp 2] c5 := .mk' Proofs.Tryz.f5 _ (by kernel_rfl) rfl rfl rfl (by kernel_rfl) rfl (by kernel_rfl)
theorem short05_ok (r : Record) : ∃ b, ACall pg 31 [encR r] (B b) := by
  by_cases h0 : (r.name.size : Int) ≤ 400
  rotate_left
  · refine ⟨false, ?_⟩
    refine s31.call mo (by simp) fun hxs => ?_
    clear hxs
    unfold c31; dsimp only [oF, oG, oK, oL, oM, oN, oO, oQ, oW, oZ]
    have F := h0
    refine wkF ?_
    all_goals exact fn0
  by_cases h1 : (r.key.size : Int) ≤ 400
  rotate_left
  · refine ⟨false, ?_⟩
    refine s31.call mo (by simp) fun hxs => ?_
    clear hxs
    unfold c31; dsimp only [oF, oG, oK, oL, oM, oN, oO, oQ, oW, oZ]
    have F := And.intro h0 h1
    refine wkF ?_
    all_goals exact fn0
  by_cases h2 : (r.value.size : Int) ≤ 400
  rotate_left
  · refine ⟨false, ?_⟩
    refine s31.call mo (by simp) fun hxs => ?_
    clear hxs
    unfold c31; dsimp only [oF, oG, oK, oL, oM, oN, oO, oQ, oW, oZ]
    have F := And.intro h0 (And.intro h1 h2)
    refine wkF ?_
    all_goals exact fn0
  by_cases h3 : (r.rack.size : Int) ≤ 400
  rotate_left
  · refine ⟨false, ?_⟩
    refine s31.call mo (by simp) fun hxs => ?_
    clear hxs
    unfold c31; dsimp only [oF, oG, oK, oL, oM, oN, oO, oQ, oW, oZ]
    have F := And.intro h0 (And.intro h1 (And.intro h2 h3))
    refine wkF ?_
    all_goals exact fn0
  by_cases h4 : (r.ids.length : Int) ≤ 60
  rotate_left
  · refine ⟨false, ?_⟩
    refine s31.call mo (by simp) fun hxs => ?_
    clear hxs
    unfold c31; dsimp only [oF, oG, oK, oL, oM, oN, oO, oQ, oW, oZ]
    have F := And.intro h0 (And.intro h1 (And.intro h2 (And.intro h3 h4)))
    refine wkF ?_
    all_goals exact fn0
  by_cases h5 : (r.isr.length : Int) ≤ 60
  rotate_left
  · refine ⟨false, ?_⟩
    refine s31.call mo (by simp) fun hxs => ?_
    clear hxs
    unfold c31; dsimp only [oF, oG, oK, oL, oM, oN, oO, oQ, oW, oZ]
    have F := And.intro h0 (And.intro h1 (And.intro h2 (And.intro h3 (And.intro h4 h5))))
    refine wkF ?_
    all_goals exact fn0
  by_cases h6 : (r.add.length : Int) ≤ 60
  rotate_left
  · refine ⟨false, ?_⟩
    refine s31.call mo (by simp) fun hxs => ?_
    clear hxs
    unfold c31; dsimp only [oF, oG, oK, oL, oM, oN, oO, oQ, oW, oZ]
    have F := And.intro h0 (And.intro h1 (And.intro h2 (And.intro h3 (And.intro h4 (And.intro h5 h6)))))
    refine wkF ?_
    all_goals exact fn0
  refine ⟨decide ((r.drop.length : Int) ≤ 60), ?_⟩
  refine s31.call mo (by simp) fun hxs => ?_
  clear hxs
  unfold c31; dsimp only [oF, oG, oK, oL, oM, oN, oO, oQ, oW, oZ]
  have F := And.intro h0 (And.intro h1 (And.intro h2 (And.intro h3 (And.intro h4 (And.intro h5 h6)))))
  refine wkF ?_
  all_goals exact fn0
theorem short06_ok (l : List Record) (hl : l.length ≤ 1000000) : ∃ b, ACall pg 11 [.sl (l.map encR)] (B b) := by
  by_cases h80 : (80 : Int) < l.length
  · refine ⟨false, ?_⟩
    refine s11.call mo (by simp) fun hxs => ?_
    clear hxs
    unfold c11; dsimp only [oB, oC, oD, oG, oI, oJ, oK, oL, oM, oN, oZ]
    have F := h80
    refine wkF ?_
    all_goals exact fn0
  by_cases hall : ∀ r ∈ l, ACall pg 31 [encR r] (B true)
  · refine ⟨true, ?_⟩
    refine s11.call mo (by simp) fun hxs => ?_
    clear hxs
    unfold c11; dsimp only [oB, oC, oD, oG, oI, oJ, oK, oL, oM, oN, oZ]
    have F := h80
    refine wkF ?_
    refine awFor l.length (fun i (_ : Unit) => True) (fun i _ => [(3, .p (I i)), (0, .p (.sl (l.map encR)))]) () (Wk.ofA (by simp)) trivial fun i _ hi _ => ?_
    by_cases hlt : i < l.length
    · have hs := hall _ (List.getElem_mem hlt)
      have F := hlt
      refine wkF ?_
      (refine ⟨?_, (), ?_, Wk.ofA ?_⟩; assumption; rotate_left; focus (simp []; done))
      trivial
    · have F := hlt
      refine wkF ?_
      exact fn0
  · refine ⟨false, ?_⟩
    refine s11.call mo (by simp) fun hxs => ?_
    clear hxs
    unfold c11; dsimp only [oB, oC, oD, oG, oI, oJ, oK, oL, oM, oN, oZ]
    have F := h80
    refine wkF ?_
    refine awFor l.length (fun i (_ : Unit) => ∀ r ∈ l.take i, ACall pg 31 [encR r] (B true)) (fun i _ => [(3, .p (I i)), (0, .p (.sl (l.map encR)))]) () (Wk.ofA (by simp)) (by simp) fun i _ hi hs0 => ?_
    by_cases hlt : i < l.length
    · obtain ⟨b, hs⟩ := short05_ok l[i]
      cases b with
      | false =>
        clear hs0 hall
        have F := hlt
        refine wkF ?_
        exact fn0
      | true =>
        have hnext := take_all hlt hs0 hs
        clear hs0 hall
        have F := hlt
        refine wkF ?_
        (refine ⟨?_, (), ?_, Wk.ofA ?_⟩; assumption; rotate_left; focus (simp []; done))
        exact hnext
    · exact absurd (fun r hr => hs0 r (by rw [List.take_of_length_le (by omega)]; exact hr)) hall
theorem light_ok (l : List Record) : ∃ b, ACall pg 5 [.sl (l.map encR)] (B b) ∧ (b = true → l.length ≤ 120) := by
  by_cases hl : l.length ≤ 120
  · have hh : ACall pg 12 [.sl (l.map encR)] (I ((l.length / 2 : Nat) : Int)) := by
      refine s12.call mo (by simp) fun hxs => ?_
      clear hxs
      unfold c12; dsimp only [oG, oI, oK, oM, oN]
      have e : (l.length : Int).tdiv 2 = ((l.length / 2 : Nat) : Int) := rfl
      have hb : l.length / 2 ≤ 60 := by omega
      generalize l.length / 2 = k at *
      have F := e
      refine wkF ?_
      all_goals (refine aEnR (aRes [] fun K hK => ?_); simp (maxSteps := 10000000) (disch := first | omega | simp) [e]; refine hK _ ?_ (by simp); clear hK; first | done | (simp (maxSteps := 10000000) (disch := first | omega | simp) [e, *]; done) | (simp (maxSteps := 10000000) (disch := first | omega | simp) [e, *]; omega) | (simp_all [e]; done) | (simp_all [e]; omega))
    have hk : l.length / 2 ≤ l.length := Nat.div_le_self _ _
    generalize l.length / 2 = k at *
    obtain ⟨b1, h1⟩ := short06_ok (l.take k) (by simp; omega)
    obtain ⟨b2, h2⟩ := short06_ok (l.drop k) (by simp; omega)
    rw [List.map_take] at h1
    rw [List.map_drop] at h2
    have q : ¬ (120 : Int) < l.length := by omega
    have q2 : ((l.length : Int) ≤ 120) := by omega
    refine ⟨b1 && b2, ?_, fun _ => hl⟩
    refine s5.call mo (by simp) fun hxs => ?_
    clear hxs
    unfold c5; dsimp only [oC, oD, oG, oK, oM, oN, oQ, oW, oZ]
    cases b1 <;> cases b2
    all_goals
      have F := And.intro q q2
      refine wkF ?_
      all_goals exact fn0
  · refine ⟨false, ?_, fun h => by cases h⟩
    refine s5.call mo (by simp) fun hxs => ?_
    clear hxs
    unfold c5; dsimp only [oC, oD, oG, oK, oM, oN, oQ, oW, oZ]
    have q2 : ¬ ((l.length : Int) ≤ 120) := by omega
    have F := q2
    refine wkF ?_
    all_goals exact fn0
end
end Go.Am
end
