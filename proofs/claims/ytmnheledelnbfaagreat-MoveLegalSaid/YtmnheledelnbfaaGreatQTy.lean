/- Part of the proof of a law of moving. -/
import Derived.Test.YtmnheledelnbfaaGreatQPE
import Derived.Test.YtmnheledelnbfaaGreatProg
set_option linter.all false
set_option maxRecDepth 100000
namespace Go.Am
open Go
@[simp] theorem t3_ok : (ti Proofs.Tryz.prog 3).ok = true := by kernel_rfl
@[simp] theorem t3_k : (ti Proofs.Tryz.prog 3).k = K.int IntKind.i64 := by kernel_rfl
@[simp] theorem t3_size : (ti Proofs.Tryz.prog 3).size = 1 := by kernel_rfl
@[simp] theorem t3_bytes : (ti Proofs.Tryz.prog 3).bytes = 8 := by kernel_rfl
@[simp] theorem t3_agg : (ti Proofs.Tryz.prog 3).agg = false := by kernel_rfl
@[simp] theorem t3_zero : (ti Proofs.Tryz.prog 3).zero = [Value.int IntKind.i64 0] := by kernel_rfl
@[simp] theorem t4_ok : (ti Proofs.Tryz.prog 4).ok = true := by kernel_rfl
@[simp] theorem t4_size : (ti Proofs.Tryz.prog 4).size = 1 := by kernel_rfl
@[simp] theorem t4_agg : (ti Proofs.Tryz.prog 4).agg = false := by kernel_rfl
@[simp] theorem t4_zero : (ti Proofs.Tryz.prog 4).zero = [Value.bool false] := by kernel_rfl
@[simp] theorem t9_ok : (ti Proofs.Tryz.prog 9).ok = true := by kernel_rfl
@[simp] theorem t9_k : (ti Proofs.Tryz.prog 9).k = K.string := by kernel_rfl
@[simp] theorem t9_agg : (ti Proofs.Tryz.prog 9).agg = false := by kernel_rfl
@[simp] theorem t22_ok : (ti Proofs.Tryz.prog 22).ok = true := by kernel_rfl
@[simp] theorem t22_k : (ti Proofs.Tryz.prog 22).k = K.slice 73 := by kernel_rfl
@[simp] theorem t23_ok : (ti Proofs.Tryz.prog 23).ok = true := by kernel_rfl
@[simp] theorem t23_k : (ti Proofs.Tryz.prog 23).k = K.slice 3 := by kernel_rfl
@[simp] theorem t23_size : (ti Proofs.Tryz.prog 23).size = 1 := by kernel_rfl
@[simp] theorem t23_agg : (ti Proofs.Tryz.prog 23).agg = false := by kernel_rfl
@[simp] theorem t27_ok : (ti Proofs.Tryz.prog 27).ok = true := by kernel_rfl
@[simp] theorem t27_k : (ti Proofs.Tryz.prog 27).k = K.struct := by kernel_rfl
@[simp] theorem t27_size : (ti Proofs.Tryz.prog 27).size = 19 := by kernel_rfl
@[simp] theorem t27_agg : (ti Proofs.Tryz.prog 27).agg = true := by kernel_rfl
@[simp] theorem t27_zero : (ti Proofs.Tryz.prog 27).zero = [Value.int IntKind.i64 0, Value.int IntKind.i64 0, Value.int IntKind.i64 0, Value.string ⟨#[]⟩, Value.string ⟨#[]⟩, Value.string ⟨#[]⟩, Value.bool false, Value.int IntKind.i64 0, Value.int IntKind.i64 0, Value.int IntKind.i64 0, Value.slice none 0 0, Value.int IntKind.i64 0, Value.int IntKind.i64 0, Value.string ⟨#[]⟩, Value.int IntKind.i64 0, Value.int IntKind.i64 0, Value.int IntKind.i64 0, Value.bool false, Value.bool false] := by kernel_rfl
@[simp] theorem t27_flds : (ti Proofs.Tryz.prog 27).flds = [(0, 1), (1, 1), (2, 1), (3, 1), (4, 1), (5, 1), (6, 1), (7, 1), (8, 1), (9, 1), (10, 1), (11, 1), (12, 1), (13, 1),   (14, 5)] := by kernel_rfl
@[simp] theorem t31_ok : (ti Proofs.Tryz.prog 31).ok = true := by kernel_rfl
@[simp] theorem t31_k : (ti Proofs.Tryz.prog 31).k = K.slice 84 := by kernel_rfl
@[simp] theorem t31_size : (ti Proofs.Tryz.prog 31).size = 1 := by kernel_rfl
@[simp] theorem t31_agg : (ti Proofs.Tryz.prog 31).agg = false := by kernel_rfl
@[simp] theorem t32_ok : (ti Proofs.Tryz.prog 32).ok = true := by kernel_rfl
@[simp] theorem t32_k : (ti Proofs.Tryz.prog 32).k = K.slice 50 := by kernel_rfl
@[simp] theorem t32_size : (ti Proofs.Tryz.prog 32).size = 1 := by kernel_rfl
@[simp] theorem t32_agg : (ti Proofs.Tryz.prog 32).agg = false := by kernel_rfl
@[simp] theorem t33_ok : (ti Proofs.Tryz.prog 33).ok = true := by kernel_rfl
@[simp] theorem t33_k : (ti Proofs.Tryz.prog 33).k = K.slice 115 := by kernel_rfl
@[simp] theorem t33_size : (ti Proofs.Tryz.prog 33).size = 1 := by kernel_rfl
@[simp] theorem t33_agg : (ti Proofs.Tryz.prog 33).agg = false := by kernel_rfl
@[simp] theorem t34_ok : (ti Proofs.Tryz.prog 34).ok = true := by kernel_rfl
@[simp] theorem t34_k : (ti Proofs.Tryz.prog 34).k = K.slice 121 := by kernel_rfl
@[simp] theorem t34_size : (ti Proofs.Tryz.prog 34).size = 1 := by kernel_rfl
@[simp] theorem t34_agg : (ti Proofs.Tryz.prog 34).agg = false := by kernel_rfl
@[simp] theorem t36_ok : (ti Proofs.Tryz.prog 36).ok = true := by kernel_rfl
@[simp] theorem t36_k : (ti Proofs.Tryz.prog 36).k = K.struct := by kernel_rfl
@[simp] theorem t36_size : (ti Proofs.Tryz.prog 36).size = 5 := by kernel_rfl
@[simp] theorem t36_agg : (ti Proofs.Tryz.prog 36).agg = true := by kernel_rfl
@[simp] theorem t36_zero : (ti Proofs.Tryz.prog 36).zero = [Value.slice none 0 0, Value.slice none 0 0, Value.slice none 0 0, Value.slice none 0 0, Value.int IntKind.i64 0] := by kernel_rfl
@[simp] theorem t36_flds : (ti Proofs.Tryz.prog 36).flds = [(0, 1), (1, 1), (2, 1), (3, 1), (4, 1)] := by kernel_rfl
@[simp] theorem t39_ok : (ti Proofs.Tryz.prog 39).ok = true := by kernel_rfl
@[simp] theorem t39_k : (ti Proofs.Tryz.prog 39).k = K.iface := by kernel_rfl
@[simp] theorem t42_ok : (ti Proofs.Tryz.prog 42).ok = true := by kernel_rfl
@[simp] theorem t42_k : (ti Proofs.Tryz.prog 42).k = K.int IntKind.i64 := by kernel_rfl
@[simp] theorem t42_agg : (ti Proofs.Tryz.prog 42).agg = false := by kernel_rfl
@[simp] theorem t48_ok : (ti Proofs.Tryz.prog 48).ok = true := by kernel_rfl
@[simp] theorem t48_k : (ti Proofs.Tryz.prog 48).k = K.slice 52 := by kernel_rfl
@[simp] theorem t48_size : (ti Proofs.Tryz.prog 48).size = 1 := by kernel_rfl
@[simp] theorem t48_agg : (ti Proofs.Tryz.prog 48).agg = false := by kernel_rfl
@[simp] theorem t50_ok : (ti Proofs.Tryz.prog 50).ok = true := by kernel_rfl
@[simp] theorem t50_k : (ti Proofs.Tryz.prog 50).k = K.struct := by kernel_rfl
@[simp] theorem t50_size : (ti Proofs.Tryz.prog 50).size = 3 := by kernel_rfl
@[simp] theorem t50_bytes : (ti Proofs.Tryz.prog 50).bytes = 48 := by kernel_rfl
@[simp] theorem t50_agg : (ti Proofs.Tryz.prog 50).agg = true := by kernel_rfl
@[simp] theorem t50_zero : (ti Proofs.Tryz.prog 50).zero = [Value.int IntKind.i64 0, Value.string ⟨#[]⟩, Value.slice none 0 0] := by kernel_rfl
@[simp] theorem t50_flds : (ti Proofs.Tryz.prog 50).flds = [(0, 1), (1, 1), (2, 1)] := by kernel_rfl
@[simp] theorem t52_ok : (ti Proofs.Tryz.prog 52).ok = true := by kernel_rfl
@[simp] theorem t52_k : (ti Proofs.Tryz.prog 52).k = K.struct := by kernel_rfl
@[simp] theorem t52_size : (ti Proofs.Tryz.prog 52).size = 6 := by kernel_rfl
@[simp] theorem t52_bytes : (ti Proofs.Tryz.prog 52).bytes = 112 := by kernel_rfl
@[simp] theorem t52_agg : (ti Proofs.Tryz.prog 52).agg = true := by kernel_rfl
@[simp] theorem t52_zero : (ti Proofs.Tryz.prog 52).zero = [Value.slice none 0 0, Value.slice none 0 0, Value.int IntKind.i64 0, Value.int IntKind.i64 0, Value.slice none 0 0, Value.slice none 0 0] := by kernel_rfl
@[simp] theorem t52_flds : (ti Proofs.Tryz.prog 52).flds = [(0, 1), (1, 1), (2, 1), (3, 1), (4, 1), (5, 1)] := by kernel_rfl
@[simp] theorem t73_ok : (ti Proofs.Tryz.prog 73).ok = true := by kernel_rfl
@[simp] theorem t73_k : (ti Proofs.Tryz.prog 73).k = K.struct := by kernel_rfl
@[simp] theorem t73_size : (ti Proofs.Tryz.prog 73).size = 18 := by kernel_rfl
@[simp] theorem t73_bytes : (ti Proofs.Tryz.prog 73).bytes = 240 := by kernel_rfl
@[simp] theorem t73_agg : (ti Proofs.Tryz.prog 73).agg = true := by kernel_rfl
@[simp] theorem t73_zero : (ti Proofs.Tryz.prog 73).zero = [Value.int IntKind.i64 0, Value.int IntKind.i64 0, Value.int IntKind.i64 0, Value.int IntKind.i64 0, Value.int IntKind.i64 0, Value.int IntKind.i64 0, Value.int IntKind.i64 0, Value.int IntKind.i64 0, Value.int IntKind.i64 0, Value.bool false, Value.string ⟨#[]⟩, Value.string ⟨#[]⟩, Value.string ⟨#[]⟩, Value.string ⟨#[]⟩, Value.slice none 0 0, Value.slice none 0 0, Value.slice none 0 0, Value.slice none 0 0] := by kernel_rfl
@[simp] theorem t73_flds : (ti Proofs.Tryz.prog 73).flds = [(0, 1), (1, 1), (2, 1), (3, 1), (4, 1), (5, 1), (6, 1), (7, 1), (8, 1), (9, 1), (10, 1), (11, 1), (12, 1), (13, 1),   (14, 1), (15, 1), (16, 1), (17, 1)] := by kernel_rfl
@[simp] theorem t80_ok : (ti Proofs.Tryz.prog 80).ok = true := by kernel_rfl
@[simp] theorem t80_k : (ti Proofs.Tryz.prog 80).k = K.int IntKind.u64 := by kernel_rfl
@[simp] theorem t84_ok : (ti Proofs.Tryz.prog 84).ok = true := by kernel_rfl
@[simp] theorem t84_k : (ti Proofs.Tryz.prog 84).k = K.struct := by kernel_rfl
@[simp] theorem t84_size : (ti Proofs.Tryz.prog 84).size = 5 := by kernel_rfl
@[simp] theorem t84_bytes : (ti Proofs.Tryz.prog 84).bytes = 40 := by kernel_rfl
@[simp] theorem t84_agg : (ti Proofs.Tryz.prog 84).agg = true := by kernel_rfl
@[simp] theorem t84_zero : (ti Proofs.Tryz.prog 84).zero = [Value.int IntKind.i64 0, Value.int IntKind.i64 0, Value.string ⟨#[]⟩, Value.bool false, Value.bool false] := by kernel_rfl
@[simp] theorem t84_flds : (ti Proofs.Tryz.prog 84).flds = [(0, 1), (1, 1), (2, 1), (3, 1), (4, 1)] := by kernel_rfl
@[simp] theorem t93_ok : (ti Proofs.Tryz.prog 93).ok = true := by kernel_rfl
@[simp] theorem t93_k : (ti Proofs.Tryz.prog 93).k = K.struct := by kernel_rfl
@[simp] theorem t93_size : (ti Proofs.Tryz.prog 93).size = 3 := by kernel_rfl
@[simp] theorem t93_agg : (ti Proofs.Tryz.prog 93).agg = true := by kernel_rfl
@[simp] theorem t93_zero : (ti Proofs.Tryz.prog 93).zero = [Value.string ⟨#[]⟩, Value.int IntKind.i64 0, Value.int IntKind.i64 0] := by kernel_rfl
@[simp] theorem t93_flds : (ti Proofs.Tryz.prog 93).flds = [(0, 1), (1, 1), (2, 1)] := by kernel_rfl
@[simp] theorem t97_ok : (ti Proofs.Tryz.prog 97).ok = true := by kernel_rfl
@[simp] theorem t97_k : (ti Proofs.Tryz.prog 97).k = K.struct := by kernel_rfl
@[simp] theorem t97_zero : (ti Proofs.Tryz.prog 97).zero = [Value.string ⟨#[]⟩, Value.int IntKind.i64 0, Value.nilIface] := by kernel_rfl
@[simp] theorem t97_flds : (ti Proofs.Tryz.prog 97).flds = [(0, 1), (1, 1), (2, 1)] := by kernel_rfl
@[simp] theorem t115_ok : (ti Proofs.Tryz.prog 115).ok = true := by kernel_rfl
@[simp] theorem t115_k : (ti Proofs.Tryz.prog 115).k = K.struct := by kernel_rfl
@[simp] theorem t115_size : (ti Proofs.Tryz.prog 115).size = 3 := by kernel_rfl
@[simp] theorem t115_bytes : (ti Proofs.Tryz.prog 115).bytes = 40 := by kernel_rfl
@[simp] theorem t115_agg : (ti Proofs.Tryz.prog 115).agg = true := by kernel_rfl
@[simp] theorem t115_zero : (ti Proofs.Tryz.prog 115).zero = [Value.int IntKind.i64 0, Value.string ⟨#[]⟩, Value.string ⟨#[]⟩] := by kernel_rfl
@[simp] theorem t115_flds : (ti Proofs.Tryz.prog 115).flds = [(0, 1), (1, 1), (2, 1)] := by kernel_rfl
@[simp] theorem t121_ok : (ti Proofs.Tryz.prog 121).ok = true := by kernel_rfl
@[simp] theorem t121_k : (ti Proofs.Tryz.prog 121).k = K.struct := by kernel_rfl
@[simp] theorem t121_size : (ti Proofs.Tryz.prog 121).size = 3 := by kernel_rfl
@[simp] theorem t121_bytes : (ti Proofs.Tryz.prog 121).bytes = 24 := by kernel_rfl
@[simp] theorem t121_zero : (ti Proofs.Tryz.prog 121).zero = [Value.int IntKind.i64 0, Value.int IntKind.i64 0, Value.int IntKind.i64 0] := by kernel_rfl
@[simp] theorem t121_flds : (ti Proofs.Tryz.prog 121).flds = [(0, 1), (1, 1), (2, 1)] := by kernel_rfl
@[simp] theorem t123_ok : (ti Proofs.Tryz.prog 123).ok = true := by kernel_rfl
@[simp] theorem t123_k : (ti Proofs.Tryz.prog 123).k = K.slice 4 := by kernel_rfl
@[simp] theorem t125_ok : (ti Proofs.Tryz.prog 125).ok = true := by kernel_rfl
@[simp] theorem t125_k : (ti Proofs.Tryz.prog 125).k = K.slice 128 := by kernel_rfl
@[simp] theorem t128_ok : (ti Proofs.Tryz.prog 128).ok = true := by kernel_rfl
@[simp] theorem t128_k : (ti Proofs.Tryz.prog 128).k = K.struct := by kernel_rfl
@[simp] theorem t128_size : (ti Proofs.Tryz.prog 128).size = 2 := by kernel_rfl
@[simp] theorem t128_agg : (ti Proofs.Tryz.prog 128).agg = true := by kernel_rfl
@[simp] theorem t128_zero : (ti Proofs.Tryz.prog 128).zero = [Value.string ⟨#[]⟩, Value.slice none 0 0] := by kernel_rfl
@[simp] theorem t128_flds : (ti Proofs.Tryz.prog 128).flds = [(0, 1), (1, 1)] := by kernel_rfl
@[simp] theorem t151_ok : (ti Proofs.Tryz.prog 151).ok = true := by kernel_rfl
@[simp] theorem t151_k : (ti Proofs.Tryz.prog 151).k = K.int IntKind.u64 := by kernel_rfl
@[simp] theorem t155_ok : (ti Proofs.Tryz.prog 155).ok = true := by kernel_rfl
@[simp] theorem t155_agg : (ti Proofs.Tryz.prog 155).agg = false := by kernel_rfl
end Go.Am
