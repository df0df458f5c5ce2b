/- Part of the proof of a law of moving. -/
import Derived.Test.YtmnheledelnbfaaGreatDoorQPE
import Derived.Test.YtmnheledelnbfaaGreatDoorProg
set_option linter.all false
set_option maxRecDepth 100000
namespace Go.Am
open Go
@[simp] theorem t3_ok : (ti Proofs.Tryz.prog 3).ok = true := by kernel_rfl
@[simp] theorem t3_k : (ti Proofs.Tryz.prog 3).k = K.int IntKind.i64 := by kernel_rfl
@[simp] theorem t3_size : (ti Proofs.Tryz.prog 3).size = 1 := by kernel_rfl
@[simp] theorem t3_bytes : (ti Proofs.Tryz.prog 3).bytes = 8 := by kernel_rfl
@[simp] theorem t3_agg : (ti Proofs.Tryz.prog 3).agg = false := by kernel_rfl
@[simp] theorem t3_zero : (ti Proofs.Tryz.prog 3).zero = [Value.int IntKind.i64 0] := by kernel_rfl
@[simp] theorem t4_ok : (ti Proofs.Tryz.prog 4).ok = true := by kernel_rfl
@[simp] theorem t4_k : (ti Proofs.Tryz.prog 4).k = K.bool := by kernel_rfl
@[simp] theorem t4_size : (ti Proofs.Tryz.prog 4).size = 1 := by kernel_rfl
@[simp] theorem t4_agg : (ti Proofs.Tryz.prog 4).agg = false := by kernel_rfl
@[simp] theorem t4_zero : (ti Proofs.Tryz.prog 4).zero = [Value.bool false] := by kernel_rfl
@[simp] theorem t9_ok : (ti Proofs.Tryz.prog 9).ok = true := by kernel_rfl
@[simp] theorem t9_k : (ti Proofs.Tryz.prog 9).k = K.string := by kernel_rfl
@[simp] theorem t9_agg : (ti Proofs.Tryz.prog 9).agg = false := by kernel_rfl
@[simp] theorem t22_ok : (ti Proofs.Tryz.prog 22).ok = true := by kernel_rfl
@[simp] theorem t22_k : (ti Proofs.Tryz.prog 22).k = K.slice 76 := by kernel_rfl
@[simp] theorem t23_ok : (ti Proofs.Tryz.prog 23).ok = true := by kernel_rfl
@[simp] theorem t23_k : (ti Proofs.Tryz.prog 23).k = K.slice 3 := by kernel_rfl
@[simp] theorem t23_size : (ti Proofs.Tryz.prog 23).size = 1 := by kernel_rfl
@[simp] theorem t23_agg : (ti Proofs.Tryz.prog 23).agg = false := by kernel_rfl
@[simp] theorem t27_ok : (ti Proofs.Tryz.prog 27).ok = true := by kernel_rfl
@[simp] theorem t27_k : (ti Proofs.Tryz.prog 27).k = K.struct := by kernel_rfl
@[simp] theorem t27_size : (ti Proofs.Tryz.prog 27).size = 19 := by kernel_rfl
@[simp] theorem t27_agg : (ti Proofs.Tryz.prog 27).agg = true := by kernel_rfl
@[simp] theorem t27_zero : (ti Proofs.Tryz.prog 27).zero = [Value.int IntKind.i64 0, Value.int IntKind.i64 0, Value.int IntKind.i64 0, Value.string ⟨#[]⟩, Value.string ⟨#[]⟩, Value.string ⟨#[]⟩, Value.bool false, Value.int IntKind.i64 0, Value.int IntKind.i64 0, Value.int IntKind.i64 0, Value.slice none 0 0, Value.int IntKind.i64 0, Value.int IntKind.i64 0, Value.string ⟨#[]⟩, Value.int IntKind.i64 0, Value.int IntKind.i64 0, Value.int IntKind.i64 0, Value.bool false, Value.bool false] := by kernel_rfl
@[simp] theorem t27_flds : (ti Proofs.Tryz.prog 27).flds = [(0, 1), (1, 1), (2, 1), (3, 1), (4, 1), (5, 1), (6, 1), (7, 1), (8, 1), (9, 1), (10, 1), (11, 1), (12, 1), (13, 1),   (14, 5)] := by kernel_rfl
@[simp] theorem t31_ok : (ti Proofs.Tryz.prog 31).ok = true := by kernel_rfl
@[simp] theorem t31_k : (ti Proofs.Tryz.prog 31).k = K.slice 123 := by kernel_rfl
@[simp] theorem t31_size : (ti Proofs.Tryz.prog 31).size = 1 := by kernel_rfl
@[simp] theorem t31_agg : (ti Proofs.Tryz.prog 31).agg = false := by kernel_rfl
@[simp] theorem t32_ok : (ti Proofs.Tryz.prog 32).ok = true := by kernel_rfl
@[simp] theorem t32_k : (ti Proofs.Tryz.prog 32).k = K.slice 51 := by kernel_rfl
@[simp] theorem t32_size : (ti Proofs.Tryz.prog 32).size = 1 := by kernel_rfl
@[simp] theorem t32_agg : (ti Proofs.Tryz.prog 32).agg = false := by kernel_rfl
@[simp] theorem t33_ok : (ti Proofs.Tryz.prog 33).ok = true := by kernel_rfl
@[simp] theorem t33_k : (ti Proofs.Tryz.prog 33).k = K.slice 138 := by kernel_rfl
@[simp] theorem t33_size : (ti Proofs.Tryz.prog 33).size = 1 := by kernel_rfl
@[simp] theorem t33_agg : (ti Proofs.Tryz.prog 33).agg = false := by kernel_rfl
@[simp] theorem t34_ok : (ti Proofs.Tryz.prog 34).ok = true := by kernel_rfl
@[simp] theorem t34_k : (ti Proofs.Tryz.prog 34).k = K.slice 144 := by kernel_rfl
@[simp] theorem t34_size : (ti Proofs.Tryz.prog 34).size = 1 := by kernel_rfl
@[simp] theorem t34_agg : (ti Proofs.Tryz.prog 34).agg = false := by kernel_rfl
@[simp] theorem t36_ok : (ti Proofs.Tryz.prog 36).ok = true := by kernel_rfl
@[simp] theorem t36_k : (ti Proofs.Tryz.prog 36).k = K.struct := by kernel_rfl
@[simp] theorem t36_size : (ti Proofs.Tryz.prog 36).size = 5 := by kernel_rfl
@[simp] theorem t36_agg : (ti Proofs.Tryz.prog 36).agg = true := by kernel_rfl
@[simp] theorem t36_zero : (ti Proofs.Tryz.prog 36).zero = [Value.slice none 0 0, Value.slice none 0 0, Value.slice none 0 0, Value.slice none 0 0, Value.int IntKind.i64 0] := by kernel_rfl
@[simp] theorem t36_flds : (ti Proofs.Tryz.prog 36).flds = [(0, 1), (1, 1), (2, 1), (3, 1), (4, 1)] := by kernel_rfl
@[simp] theorem t39_ok : (ti Proofs.Tryz.prog 39).ok = true := by kernel_rfl
@[simp] theorem t39_k : (ti Proofs.Tryz.prog 39).k = K.iface := by kernel_rfl
@[simp] theorem t42_ok : (ti Proofs.Tryz.prog 42).ok = true := by kernel_rfl
@[simp] theorem t42_k : (ti Proofs.Tryz.prog 42).k = K.int IntKind.i64 := by kernel_rfl
@[simp] theorem t42_agg : (ti Proofs.Tryz.prog 42).agg = false := by kernel_rfl
@[simp] theorem t49_ok : (ti Proofs.Tryz.prog 49).ok = true := by kernel_rfl
@[simp] theorem t49_k : (ti Proofs.Tryz.prog 49).k = K.slice 53 := by kernel_rfl
@[simp] theorem t49_size : (ti Proofs.Tryz.prog 49).size = 1 := by kernel_rfl
@[simp] theorem t49_agg : (ti Proofs.Tryz.prog 49).agg = false := by kernel_rfl
@[simp] theorem t51_ok : (ti Proofs.Tryz.prog 51).ok = true := by kernel_rfl
@[simp] theorem t51_k : (ti Proofs.Tryz.prog 51).k = K.struct := by kernel_rfl
@[simp] theorem t51_size : (ti Proofs.Tryz.prog 51).size = 3 := by kernel_rfl
@[simp] theorem t51_bytes : (ti Proofs.Tryz.prog 51).bytes = 48 := by kernel_rfl
@[simp] theorem t51_agg : (ti Proofs.Tryz.prog 51).agg = true := by kernel_rfl
@[simp] theorem t51_zero : (ti Proofs.Tryz.prog 51).zero = [Value.int IntKind.i64 0, Value.string ⟨#[]⟩, Value.slice none 0 0] := by kernel_rfl
@[simp] theorem t51_flds : (ti Proofs.Tryz.prog 51).flds = [(0, 1), (1, 1), (2, 1)] := by kernel_rfl
@[simp] theorem t53_ok : (ti Proofs.Tryz.prog 53).ok = true := by kernel_rfl
@[simp] theorem t53_k : (ti Proofs.Tryz.prog 53).k = K.struct := by kernel_rfl
@[simp] theorem t53_size : (ti Proofs.Tryz.prog 53).size = 6 := by kernel_rfl
@[simp] theorem t53_bytes : (ti Proofs.Tryz.prog 53).bytes = 112 := by kernel_rfl
@[simp] theorem t53_agg : (ti Proofs.Tryz.prog 53).agg = true := by kernel_rfl
@[simp] theorem t53_zero : (ti Proofs.Tryz.prog 53).zero = [Value.slice none 0 0, Value.slice none 0 0, Value.int IntKind.i64 0, Value.int IntKind.i64 0, Value.slice none 0 0, Value.slice none 0 0] := by kernel_rfl
@[simp] theorem t53_flds : (ti Proofs.Tryz.prog 53).flds = [(0, 1), (1, 1), (2, 1), (3, 1), (4, 1), (5, 1)] := by kernel_rfl
@[simp] theorem t76_ok : (ti Proofs.Tryz.prog 76).ok = true := by kernel_rfl
@[simp] theorem t76_k : (ti Proofs.Tryz.prog 76).k = K.struct := by kernel_rfl
@[simp] theorem t76_size : (ti Proofs.Tryz.prog 76).size = 18 := by kernel_rfl
@[simp] theorem t76_bytes : (ti Proofs.Tryz.prog 76).bytes = 240 := by kernel_rfl
@[simp] theorem t76_agg : (ti Proofs.Tryz.prog 76).agg = true := by kernel_rfl
@[simp] theorem t76_zero : (ti Proofs.Tryz.prog 76).zero = [Value.int IntKind.i64 0, Value.int IntKind.i64 0, Value.int IntKind.i64 0, Value.int IntKind.i64 0, Value.int IntKind.i64 0, Value.int IntKind.i64 0, Value.int IntKind.i64 0, Value.int IntKind.i64 0, Value.int IntKind.i64 0, Value.bool false, Value.string ⟨#[]⟩, Value.string ⟨#[]⟩, Value.string ⟨#[]⟩, Value.string ⟨#[]⟩, Value.slice none 0 0, Value.slice none 0 0, Value.slice none 0 0, Value.slice none 0 0] := by kernel_rfl
@[simp] theorem t76_flds : (ti Proofs.Tryz.prog 76).flds = [(0, 1), (1, 1), (2, 1), (3, 1), (4, 1), (5, 1), (6, 1), (7, 1), (8, 1), (9, 1), (10, 1), (11, 1), (12, 1), (13, 1),   (14, 1), (15, 1), (16, 1), (17, 1)] := by kernel_rfl
@[simp] theorem t88_ok : (ti Proofs.Tryz.prog 88).ok = true := by kernel_rfl
@[simp] theorem t88_k : (ti Proofs.Tryz.prog 88).k = K.int IntKind.u64 := by kernel_rfl
@[simp] theorem t100_ok : (ti Proofs.Tryz.prog 100).ok = true := by kernel_rfl
@[simp] theorem t100_k : (ti Proofs.Tryz.prog 100).k = K.struct := by kernel_rfl
@[simp] theorem t100_size : (ti Proofs.Tryz.prog 100).size = 3 := by kernel_rfl
@[simp] theorem t100_agg : (ti Proofs.Tryz.prog 100).agg = true := by kernel_rfl
@[simp] theorem t100_zero : (ti Proofs.Tryz.prog 100).zero = [Value.string ⟨#[]⟩, Value.int IntKind.i64 0, Value.int IntKind.i64 0] := by kernel_rfl
@[simp] theorem t100_flds : (ti Proofs.Tryz.prog 100).flds = [(0, 1), (1, 1), (2, 1)] := by kernel_rfl
@[simp] theorem t104_ok : (ti Proofs.Tryz.prog 104).ok = true := by kernel_rfl
@[simp] theorem t104_k : (ti Proofs.Tryz.prog 104).k = K.struct := by kernel_rfl
@[simp] theorem t104_zero : (ti Proofs.Tryz.prog 104).zero = [Value.string ⟨#[]⟩, Value.int IntKind.i64 0, Value.nilIface] := by kernel_rfl
@[simp] theorem t104_flds : (ti Proofs.Tryz.prog 104).flds = [(0, 1), (1, 1), (2, 1)] := by kernel_rfl
@[simp] theorem t123_ok : (ti Proofs.Tryz.prog 123).ok = true := by kernel_rfl
@[simp] theorem t123_k : (ti Proofs.Tryz.prog 123).k = K.struct := by kernel_rfl
@[simp] theorem t123_size : (ti Proofs.Tryz.prog 123).size = 5 := by kernel_rfl
@[simp] theorem t123_bytes : (ti Proofs.Tryz.prog 123).bytes = 40 := by kernel_rfl
@[simp] theorem t123_agg : (ti Proofs.Tryz.prog 123).agg = true := by kernel_rfl
@[simp] theorem t123_zero : (ti Proofs.Tryz.prog 123).zero = [Value.int IntKind.i64 0, Value.int IntKind.i64 0, Value.string ⟨#[]⟩, Value.bool false, Value.bool false] := by kernel_rfl
@[simp] theorem t123_flds : (ti Proofs.Tryz.prog 123).flds = [(0, 1), (1, 1), (2, 1), (3, 1), (4, 1)] := by kernel_rfl
@[simp] theorem t138_ok : (ti Proofs.Tryz.prog 138).ok = true := by kernel_rfl
@[simp] theorem t138_k : (ti Proofs.Tryz.prog 138).k = K.struct := by kernel_rfl
@[simp] theorem t138_size : (ti Proofs.Tryz.prog 138).size = 3 := by kernel_rfl
@[simp] theorem t138_bytes : (ti Proofs.Tryz.prog 138).bytes = 40 := by kernel_rfl
@[simp] theorem t138_agg : (ti Proofs.Tryz.prog 138).agg = true := by kernel_rfl
@[simp] theorem t138_zero : (ti Proofs.Tryz.prog 138).zero = [Value.int IntKind.i64 0, Value.string ⟨#[]⟩, Value.string ⟨#[]⟩] := by kernel_rfl
@[simp] theorem t138_flds : (ti Proofs.Tryz.prog 138).flds = [(0, 1), (1, 1), (2, 1)] := by kernel_rfl
@[simp] theorem t144_ok : (ti Proofs.Tryz.prog 144).ok = true := by kernel_rfl
@[simp] theorem t144_k : (ti Proofs.Tryz.prog 144).k = K.struct := by kernel_rfl
@[simp] theorem t144_size : (ti Proofs.Tryz.prog 144).size = 3 := by kernel_rfl
@[simp] theorem t144_bytes : (ti Proofs.Tryz.prog 144).bytes = 24 := by kernel_rfl
@[simp] theorem t144_zero : (ti Proofs.Tryz.prog 144).zero = [Value.int IntKind.i64 0, Value.int IntKind.i64 0, Value.int IntKind.i64 0] := by kernel_rfl
@[simp] theorem t144_flds : (ti Proofs.Tryz.prog 144).flds = [(0, 1), (1, 1), (2, 1)] := by kernel_rfl
@[simp] theorem t158_ok : (ti Proofs.Tryz.prog 158).ok = true := by kernel_rfl
@[simp] theorem t158_k : (ti Proofs.Tryz.prog 158).k = K.slice 161 := by kernel_rfl
@[simp] theorem t161_ok : (ti Proofs.Tryz.prog 161).ok = true := by kernel_rfl
@[simp] theorem t161_k : (ti Proofs.Tryz.prog 161).k = K.struct := by kernel_rfl
@[simp] theorem t161_size : (ti Proofs.Tryz.prog 161).size = 2 := by kernel_rfl
@[simp] theorem t161_agg : (ti Proofs.Tryz.prog 161).agg = true := by kernel_rfl
@[simp] theorem t161_zero : (ti Proofs.Tryz.prog 161).zero = [Value.string ⟨#[]⟩, Value.slice none 0 0] := by kernel_rfl
@[simp] theorem t161_flds : (ti Proofs.Tryz.prog 161).flds = [(0, 1), (1, 1)] := by kernel_rfl
@[simp] theorem t163_ok : (ti Proofs.Tryz.prog 163).ok = true := by kernel_rfl
@[simp] theorem t163_k : (ti Proofs.Tryz.prog 163).k = K.slice 4 := by kernel_rfl
@[simp] theorem t176_ok : (ti Proofs.Tryz.prog 176).ok = true := by kernel_rfl
@[simp] theorem t176_k : (ti Proofs.Tryz.prog 176).k = K.int IntKind.u64 := by kernel_rfl
@[simp] theorem t181_ok : (ti Proofs.Tryz.prog 181).ok = true := by kernel_rfl
@[simp] theorem t181_agg : (ti Proofs.Tryz.prog 181).agg = false := by kernel_rfl
end Go.Am
