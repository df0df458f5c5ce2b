/- Part of the proof of a law of the image. -/
import Derived.Test.YtfgfjgbggkdobaaGreatQPE
import Derived.Test.YtfgfjgbggkdobaaGreatProg
set_option linter.all false
set_option maxRecDepth 100000
namespace Go.Am
open Go
@[simp] theorem t3_ok : (ti Proofs.Tryz.prog 3).ok = true := by kernel_rfl
@[simp] theorem t3_k : (ti Proofs.Tryz.prog 3).k = K.int IntKind.i64 := by kernel_rfl
@[simp] theorem t3_size : (ti Proofs.Tryz.prog 3).size = 1 := by kernel_rfl
@[simp] theorem t3_bytes : (ti Proofs.Tryz.prog 3).bytes = 8 := by kernel_rfl
@[simp] theorem t3_agg : (ti Proofs.Tryz.prog 3).agg = false := by kernel_rfl
@[simp] theorem t3_zero : (ti Proofs.Tryz.prog 3).zero = [Value.int IntKind.i64 0] := by kernel_rfl
@[simp] theorem t4_ok : (ti Proofs.Tryz.prog 4).ok = true := by kernel_rfl
@[simp] theorem t4_size : (ti Proofs.Tryz.prog 4).size = 1 := by kernel_rfl
@[simp] theorem t4_agg : (ti Proofs.Tryz.prog 4).agg = false := by kernel_rfl
@[simp] theorem t9_ok : (ti Proofs.Tryz.prog 9).ok = true := by kernel_rfl
@[simp] theorem t9_k : (ti Proofs.Tryz.prog 9).k = K.string := by kernel_rfl
@[simp] theorem t9_size : (ti Proofs.Tryz.prog 9).size = 1 := by kernel_rfl
@[simp] theorem t9_agg : (ti Proofs.Tryz.prog 9).agg = false := by kernel_rfl
@[simp] theorem t22_ok : (ti Proofs.Tryz.prog 22).ok = true := by kernel_rfl
@[simp] theorem t22_k : (ti Proofs.Tryz.prog 22).k = K.slice 37 := by kernel_rfl
@[simp] theorem t25_ok : (ti Proofs.Tryz.prog 25).ok = true := by kernel_rfl
@[simp] theorem t25_k : (ti Proofs.Tryz.prog 25).k = K.slice 51 := by kernel_rfl
@[simp] theorem t25_size : (ti Proofs.Tryz.prog 25).size = 1 := by kernel_rfl
@[simp] theorem t25_agg : (ti Proofs.Tryz.prog 25).agg = false := by kernel_rfl
@[simp] theorem t26_ok : (ti Proofs.Tryz.prog 26).ok = true := by kernel_rfl
@[simp] theorem t26_k : (ti Proofs.Tryz.prog 26).k = K.slice 65 := by kernel_rfl
@[simp] theorem t26_size : (ti Proofs.Tryz.prog 26).size = 1 := by kernel_rfl
@[simp] theorem t26_agg : (ti Proofs.Tryz.prog 26).agg = false := by kernel_rfl
@[simp] theorem t27_ok : (ti Proofs.Tryz.prog 27).ok = true := by kernel_rfl
@[simp] theorem t27_k : (ti Proofs.Tryz.prog 27).k = K.slice 67 := by kernel_rfl
@[simp] theorem t27_size : (ti Proofs.Tryz.prog 27).size = 1 := by kernel_rfl
@[simp] theorem t27_agg : (ti Proofs.Tryz.prog 27).agg = false := by kernel_rfl
@[simp] theorem t28_ok : (ti Proofs.Tryz.prog 28).ok = true := by kernel_rfl
@[simp] theorem t28_k : (ti Proofs.Tryz.prog 28).k = K.slice 69 := by kernel_rfl
@[simp] theorem t28_size : (ti Proofs.Tryz.prog 28).size = 1 := by kernel_rfl
@[simp] theorem t28_agg : (ti Proofs.Tryz.prog 28).agg = false := by kernel_rfl
@[simp] theorem t30_ok : (ti Proofs.Tryz.prog 30).ok = true := by kernel_rfl
@[simp] theorem t30_k : (ti Proofs.Tryz.prog 30).k = K.struct := by kernel_rfl
@[simp] theorem t30_size : (ti Proofs.Tryz.prog 30).size = 5 := by kernel_rfl
@[simp] theorem t30_agg : (ti Proofs.Tryz.prog 30).agg = true := by kernel_rfl
@[simp] theorem t30_zero : (ti Proofs.Tryz.prog 30).zero = [Value.slice none 0 0, Value.slice none 0 0, Value.slice none 0 0, Value.slice none 0 0, Value.int IntKind.i64 0] := by kernel_rfl
@[simp] theorem t30_flds : (ti Proofs.Tryz.prog 30).flds = [(0, 1), (1, 1), (2, 1), (3, 1), (4, 1)] := by kernel_rfl
@[simp] theorem t32_ok : (ti Proofs.Tryz.prog 32).ok = true := by kernel_rfl
@[simp] theorem t32_k : (ti Proofs.Tryz.prog 32).k = K.iface := by kernel_rfl
@[simp] theorem t35_ok : (ti Proofs.Tryz.prog 35).ok = true := by kernel_rfl
@[simp] theorem t35_k : (ti Proofs.Tryz.prog 35).k = K.slice 3 := by kernel_rfl
@[simp] theorem t35_size : (ti Proofs.Tryz.prog 35).size = 1 := by kernel_rfl
@[simp] theorem t35_agg : (ti Proofs.Tryz.prog 35).agg = false := by kernel_rfl
@[simp] theorem t37_ok : (ti Proofs.Tryz.prog 37).ok = true := by kernel_rfl
@[simp] theorem t37_k : (ti Proofs.Tryz.prog 37).k = K.struct := by kernel_rfl
@[simp] theorem t37_size : (ti Proofs.Tryz.prog 37).size = 18 := by kernel_rfl
@[simp] theorem t37_agg : (ti Proofs.Tryz.prog 37).agg = true := by kernel_rfl
@[simp] theorem t37_zero : (ti Proofs.Tryz.prog 37).zero = [Value.int IntKind.i64 0, Value.int IntKind.i64 0, Value.int IntKind.i64 0, Value.int IntKind.i64 0, Value.int IntKind.i64 0, Value.int IntKind.i64 0, Value.int IntKind.i64 0, Value.int IntKind.i64 0, Value.int IntKind.i64 0, Value.bool false, Value.string ⟨#[]⟩, Value.string ⟨#[]⟩, Value.string ⟨#[]⟩, Value.string ⟨#[]⟩, Value.slice none 0 0, Value.slice none 0 0, Value.slice none 0 0, Value.slice none 0 0] := by kernel_rfl
@[simp] theorem t37_flds : (ti Proofs.Tryz.prog 37).flds = [(0, 1), (1, 1), (2, 1), (3, 1), (4, 1), (5, 1), (6, 1), (7, 1), (8, 1), (9, 1), (10, 1), (11, 1), (12, 1), (13, 1),   (14, 1), (15, 1), (16, 1), (17, 1)] := by kernel_rfl
@[simp] theorem t40_ok : (ti Proofs.Tryz.prog 40).ok = true := by kernel_rfl
@[simp] theorem t40_k : (ti Proofs.Tryz.prog 40).k = K.slice 73 := by kernel_rfl
@[simp] theorem t47_ok : (ti Proofs.Tryz.prog 47).ok = true := by kernel_rfl
@[simp] theorem t47_k : (ti Proofs.Tryz.prog 47).k = K.struct := by kernel_rfl
@[simp] theorem t47_size : (ti Proofs.Tryz.prog 47).size = 6 := by kernel_rfl
@[simp] theorem t47_bytes : (ti Proofs.Tryz.prog 47).bytes = 112 := by kernel_rfl
@[simp] theorem t47_agg : (ti Proofs.Tryz.prog 47).agg = true := by kernel_rfl
@[simp] theorem t47_zero : (ti Proofs.Tryz.prog 47).zero = [Value.slice none 0 0, Value.slice none 0 0, Value.int IntKind.i64 0, Value.int IntKind.i64 0, Value.slice none 0 0, Value.slice none 0 0] := by kernel_rfl
@[simp] theorem t47_flds : (ti Proofs.Tryz.prog 47).flds = [(0, 1), (1, 1), (2, 1), (3, 1), (4, 1), (5, 1)] := by kernel_rfl
@[simp] theorem t51_ok : (ti Proofs.Tryz.prog 51).ok = true := by kernel_rfl
@[simp] theorem t51_k : (ti Proofs.Tryz.prog 51).k = K.struct := by kernel_rfl
@[simp] theorem t51_size : (ti Proofs.Tryz.prog 51).size = 5 := by kernel_rfl
@[simp] theorem t51_bytes : (ti Proofs.Tryz.prog 51).bytes = 40 := by kernel_rfl
@[simp] theorem t51_agg : (ti Proofs.Tryz.prog 51).agg = true := by kernel_rfl
@[simp] theorem t51_zero : (ti Proofs.Tryz.prog 51).zero = [Value.int IntKind.i64 0, Value.int IntKind.i64 0, Value.string ⟨#[]⟩, Value.bool false, Value.bool false] := by kernel_rfl
@[simp] theorem t51_flds : (ti Proofs.Tryz.prog 51).flds = [(0, 1), (1, 1), (2, 1), (3, 1), (4, 1)] := by kernel_rfl
@[simp] theorem t51_eq : eqT Proofs.Tryz.prog 51 = some [K.int IntKind.i64, K.int IntKind.i64, K.string, K.bool, K.bool] := by kernel_rfl
@[simp] theorem t55_ok : (ti Proofs.Tryz.prog 55).ok = true := by kernel_rfl
@[simp] theorem t55_k : (ti Proofs.Tryz.prog 55).k = K.int IntKind.i64 := by kernel_rfl
@[simp] theorem t63_ok : (ti Proofs.Tryz.prog 63).ok = true := by kernel_rfl
@[simp] theorem t63_k : (ti Proofs.Tryz.prog 63).k = K.slice 47 := by kernel_rfl
@[simp] theorem t63_size : (ti Proofs.Tryz.prog 63).size = 1 := by kernel_rfl
@[simp] theorem t63_agg : (ti Proofs.Tryz.prog 63).agg = false := by kernel_rfl
@[simp] theorem t65_ok : (ti Proofs.Tryz.prog 65).ok = true := by kernel_rfl
@[simp] theorem t65_k : (ti Proofs.Tryz.prog 65).k = K.struct := by kernel_rfl
@[simp] theorem t65_size : (ti Proofs.Tryz.prog 65).size = 3 := by kernel_rfl
@[simp] theorem t65_bytes : (ti Proofs.Tryz.prog 65).bytes = 48 := by kernel_rfl
@[simp] theorem t65_agg : (ti Proofs.Tryz.prog 65).agg = true := by kernel_rfl
@[simp] theorem t65_zero : (ti Proofs.Tryz.prog 65).zero = [Value.int IntKind.i64 0, Value.string ⟨#[]⟩, Value.slice none 0 0] := by kernel_rfl
@[simp] theorem t65_flds : (ti Proofs.Tryz.prog 65).flds = [(0, 1), (1, 1), (2, 1)] := by kernel_rfl
@[simp] theorem t67_ok : (ti Proofs.Tryz.prog 67).ok = true := by kernel_rfl
@[simp] theorem t67_k : (ti Proofs.Tryz.prog 67).k = K.struct := by kernel_rfl
@[simp] theorem t67_size : (ti Proofs.Tryz.prog 67).size = 3 := by kernel_rfl
@[simp] theorem t67_bytes : (ti Proofs.Tryz.prog 67).bytes = 40 := by kernel_rfl
@[simp] theorem t67_agg : (ti Proofs.Tryz.prog 67).agg = true := by kernel_rfl
@[simp] theorem t67_zero : (ti Proofs.Tryz.prog 67).zero = [Value.int IntKind.i64 0, Value.string ⟨#[]⟩, Value.string ⟨#[]⟩] := by kernel_rfl
@[simp] theorem t67_flds : (ti Proofs.Tryz.prog 67).flds = [(0, 1), (1, 1), (2, 1)] := by kernel_rfl
@[simp] theorem t67_eq : eqT Proofs.Tryz.prog 67 = some [K.int IntKind.i64, K.string, K.string] := by kernel_rfl
@[simp] theorem t69_ok : (ti Proofs.Tryz.prog 69).ok = true := by kernel_rfl
@[simp] theorem t69_k : (ti Proofs.Tryz.prog 69).k = K.struct := by kernel_rfl
@[simp] theorem t69_size : (ti Proofs.Tryz.prog 69).size = 3 := by kernel_rfl
@[simp] theorem t69_bytes : (ti Proofs.Tryz.prog 69).bytes = 24 := by kernel_rfl
@[simp] theorem t69_agg : (ti Proofs.Tryz.prog 69).agg = true := by kernel_rfl
@[simp] theorem t69_zero : (ti Proofs.Tryz.prog 69).zero = [Value.int IntKind.i64 0, Value.int IntKind.i64 0, Value.int IntKind.i64 0] := by kernel_rfl
@[simp] theorem t69_flds : (ti Proofs.Tryz.prog 69).flds = [(0, 1), (1, 1), (2, 1)] := by kernel_rfl
@[simp] theorem t69_eq : eqT Proofs.Tryz.prog 69 = some [K.int IntKind.i64, K.int IntKind.i64, K.int IntKind.i64] := by kernel_rfl
@[simp] theorem t73_ok : (ti Proofs.Tryz.prog 73).ok = true := by kernel_rfl
@[simp] theorem t73_k : (ti Proofs.Tryz.prog 73).k = K.struct := by kernel_rfl
@[simp] theorem t73_size : (ti Proofs.Tryz.prog 73).size = 4 := by kernel_rfl
@[simp] theorem t73_bytes : (ti Proofs.Tryz.prog 73).bytes = 32 := by kernel_rfl
@[simp] theorem t73_agg : (ti Proofs.Tryz.prog 73).agg = true := by kernel_rfl
@[simp] theorem t73_zero : (ti Proofs.Tryz.prog 73).zero = [Value.int IntKind.i64 0, Value.int IntKind.i64 0, Value.int IntKind.i64 0, Value.int IntKind.i64 0] := by kernel_rfl
@[simp] theorem t73_flds : (ti Proofs.Tryz.prog 73).flds = [(0, 1), (1, 1), (2, 1), (3, 1)] := by kernel_rfl
@[simp] theorem t73_eq : eqT Proofs.Tryz.prog 73 = some [K.int IntKind.i64, K.int IntKind.i64, K.int IntKind.i64, K.int IntKind.i64] := by kernel_rfl
@[simp] theorem t82_ok : (ti Proofs.Tryz.prog 82).ok = true := by kernel_rfl
@[simp] theorem t82_size : (ti Proofs.Tryz.prog 82).size = 1 := by kernel_rfl
@[simp] theorem t82_agg : (ti Proofs.Tryz.prog 82).agg = false := by kernel_rfl
@[simp] theorem t82_zero : (ti Proofs.Tryz.prog 82).zero = [Value.nilFunc] := by kernel_rfl
@[simp] theorem t86_ok : (ti Proofs.Tryz.prog 86).ok = true := by kernel_rfl
@[simp] theorem t86_size : (ti Proofs.Tryz.prog 86).size = 1 := by kernel_rfl
@[simp] theorem t86_agg : (ti Proofs.Tryz.prog 86).agg = false := by kernel_rfl
@[simp] theorem t86_zero : (ti Proofs.Tryz.prog 86).zero = [Value.nilFunc] := by kernel_rfl
@[simp] theorem t92_ok : (ti Proofs.Tryz.prog 92).ok = true := by kernel_rfl
@[simp] theorem t92_k : (ti Proofs.Tryz.prog 92).k = K.struct := by kernel_rfl
@[simp] theorem t92_zero : (ti Proofs.Tryz.prog 92).zero = [Value.string ⟨#[]⟩, Value.int IntKind.i64 0, Value.nilIface] := by kernel_rfl
@[simp] theorem t92_flds : (ti Proofs.Tryz.prog 92).flds = [(0, 1), (1, 1), (2, 1)] := by kernel_rfl
@[simp] theorem t103_ok : (ti Proofs.Tryz.prog 103).ok = true := by kernel_rfl
@[simp] theorem t103_size : (ti Proofs.Tryz.prog 103).size = 1 := by kernel_rfl
@[simp] theorem t103_agg : (ti Proofs.Tryz.prog 103).agg = false := by kernel_rfl
@[simp] theorem t103_zero : (ti Proofs.Tryz.prog 103).zero = [Value.pointer none] := by kernel_rfl
@[simp] theorem t117_ok : (ti Proofs.Tryz.prog 117).ok = true := by kernel_rfl
@[simp] theorem t117_agg : (ti Proofs.Tryz.prog 117).agg = false := by kernel_rfl
@[simp] theorem t130_ok : (ti Proofs.Tryz.prog 130).ok = true := by kernel_rfl
@[simp] theorem t130_agg : (ti Proofs.Tryz.prog 130).agg = false := by kernel_rfl
@[simp] theorem t154_ok : (ti Proofs.Tryz.prog 154).ok = true := by kernel_rfl
@[simp] theorem t154_k : (ti Proofs.Tryz.prog 154).k = K.int IntKind.u64 := by kernel_rfl
end Go.Am
