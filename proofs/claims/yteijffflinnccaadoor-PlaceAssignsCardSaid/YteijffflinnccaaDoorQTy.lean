/- Part of the proof of a law of placing. -/
import Derived.Test.YteijffflinnccaaDoorQPE
import Derived.Test.YteijffflinnccaaDoorProg
set_option linter.all false
set_option maxRecDepth 100000
namespace Go.Am
open Go
@[simp] theorem t1_ok : (ti Proofs.Tryd.prog 1).ok = true := by kernel_rfl
@[simp] theorem t1_k : (ti Proofs.Tryd.prog 1).k = K.other := by kernel_rfl
@[simp] theorem t1_size : (ti Proofs.Tryd.prog 1).size = 1 := by kernel_rfl
@[simp] theorem t1_bytes : (ti Proofs.Tryd.prog 1).bytes = 8 := by kernel_rfl
@[simp] theorem t1_agg : (ti Proofs.Tryd.prog 1).agg = false := by kernel_rfl
@[simp] theorem t1_zero : (ti Proofs.Tryd.prog 1).zero = [Value.nilFunc] := by kernel_rfl
@[simp] theorem t2_ok : (ti Proofs.Tryd.prog 2).ok = true := by kernel_rfl
@[simp] theorem t2_k : (ti Proofs.Tryd.prog 2).k = K.int IntKind.i64 := by kernel_rfl
@[simp] theorem t2_size : (ti Proofs.Tryd.prog 2).size = 1 := by kernel_rfl
@[simp] theorem t2_bytes : (ti Proofs.Tryd.prog 2).bytes = 8 := by kernel_rfl
@[simp] theorem t2_agg : (ti Proofs.Tryd.prog 2).agg = false := by kernel_rfl
@[simp] theorem t2_zero : (ti Proofs.Tryd.prog 2).zero = [Value.int IntKind.i64 0] := by kernel_rfl
@[simp] theorem t3_ok : (ti Proofs.Tryd.prog 3).ok = true := by kernel_rfl
@[simp] theorem t3_k : (ti Proofs.Tryd.prog 3).k = K.int IntKind.i64 := by kernel_rfl
@[simp] theorem t3_size : (ti Proofs.Tryd.prog 3).size = 1 := by kernel_rfl
@[simp] theorem t3_bytes : (ti Proofs.Tryd.prog 3).bytes = 8 := by kernel_rfl
@[simp] theorem t3_agg : (ti Proofs.Tryd.prog 3).agg = false := by kernel_rfl
@[simp] theorem t3_zero : (ti Proofs.Tryd.prog 3).zero = [Value.int IntKind.i64 0] := by kernel_rfl
@[simp] theorem t4_ok : (ti Proofs.Tryd.prog 4).ok = true := by kernel_rfl
@[simp] theorem t4_k : (ti Proofs.Tryd.prog 4).k = K.bool := by kernel_rfl
@[simp] theorem t4_size : (ti Proofs.Tryd.prog 4).size = 1 := by kernel_rfl
@[simp] theorem t4_bytes : (ti Proofs.Tryd.prog 4).bytes = 1 := by kernel_rfl
@[simp] theorem t4_agg : (ti Proofs.Tryd.prog 4).agg = false := by kernel_rfl
@[simp] theorem t4_zero : (ti Proofs.Tryd.prog 4).zero = [Value.bool false] := by kernel_rfl
@[simp] theorem t5_ok : (ti Proofs.Tryd.prog 5).ok = true := by kernel_rfl
@[simp] theorem t5_k : (ti Proofs.Tryd.prog 5).k = K.int IntKind.u8 := by kernel_rfl
@[simp] theorem t5_size : (ti Proofs.Tryd.prog 5).size = 1 := by kernel_rfl
@[simp] theorem t5_bytes : (ti Proofs.Tryd.prog 5).bytes = 1 := by kernel_rfl
@[simp] theorem t5_agg : (ti Proofs.Tryd.prog 5).agg = false := by kernel_rfl
@[simp] theorem t5_zero : (ti Proofs.Tryd.prog 5).zero = [Value.int IntKind.u8 0] := by kernel_rfl
@[simp] theorem t6_ok : (ti Proofs.Tryd.prog 6).ok = true := by kernel_rfl
@[simp] theorem t6_k : (ti Proofs.Tryd.prog 6).k = K.int IntKind.u8 := by kernel_rfl
@[simp] theorem t6_size : (ti Proofs.Tryd.prog 6).size = 1 := by kernel_rfl
@[simp] theorem t6_bytes : (ti Proofs.Tryd.prog 6).bytes = 1 := by kernel_rfl
@[simp] theorem t6_agg : (ti Proofs.Tryd.prog 6).agg = false := by kernel_rfl
@[simp] theorem t6_zero : (ti Proofs.Tryd.prog 6).zero = [Value.int IntKind.u8 0] := by kernel_rfl
@[simp] theorem t7_ok : (ti Proofs.Tryd.prog 7).ok = true := by kernel_rfl
@[simp] theorem t7_k : (ti Proofs.Tryd.prog 7).k = K.struct := by kernel_rfl
@[simp] theorem t7_size : (ti Proofs.Tryd.prog 7).size = 4 := by kernel_rfl
@[simp] theorem t7_bytes : (ti Proofs.Tryd.prog 7).bytes = 24 := by kernel_rfl
@[simp] theorem t7_agg : (ti Proofs.Tryd.prog 7).agg = true := by kernel_rfl
@[simp] theorem t7_zero : (ti Proofs.Tryd.prog 7).zero = [Value.int IntKind.i64 0, Value.int IntKind.i64 0, Value.bool false, Value.int IntKind.u8 0] := by kernel_rfl
@[simp] theorem t7_flds : (ti Proofs.Tryd.prog 7).flds = [(0, 1), (1, 1), (2, 1), (3, 1)] := by kernel_rfl
@[simp] theorem t7_eq : eqT Proofs.Tryd.prog 7 = some [K.int IntKind.i64, K.int IntKind.i64, K.bool, K.int IntKind.u8] := by kernel_rfl
@[simp] theorem t8_ok : (ti Proofs.Tryd.prog 8).ok = true := by kernel_rfl
@[simp] theorem t8_k : (ti Proofs.Tryd.prog 8).k = K.struct := by kernel_rfl
@[simp] theorem t8_size : (ti Proofs.Tryd.prog 8).size = 4 := by kernel_rfl
@[simp] theorem t8_bytes : (ti Proofs.Tryd.prog 8).bytes = 24 := by kernel_rfl
@[simp] theorem t8_agg : (ti Proofs.Tryd.prog 8).agg = true := by kernel_rfl
@[simp] theorem t8_zero : (ti Proofs.Tryd.prog 8).zero = [Value.int IntKind.i64 0, Value.int IntKind.i64 0, Value.bool false, Value.int IntKind.u8 0] := by kernel_rfl
@[simp] theorem t8_flds : (ti Proofs.Tryd.prog 8).flds = [(0, 1), (1, 1), (2, 1), (3, 1)] := by kernel_rfl
@[simp] theorem t8_eq : eqT Proofs.Tryd.prog 8 = some [K.int IntKind.i64, K.int IntKind.i64, K.bool, K.int IntKind.u8] := by kernel_rfl
@[simp] theorem t9_ok : (ti Proofs.Tryd.prog 9).ok = true := by kernel_rfl
@[simp] theorem t9_k : (ti Proofs.Tryd.prog 9).k = K.string := by kernel_rfl
@[simp] theorem t9_size : (ti Proofs.Tryd.prog 9).size = 1 := by kernel_rfl
@[simp] theorem t9_bytes : (ti Proofs.Tryd.prog 9).bytes = 16 := by kernel_rfl
@[simp] theorem t9_agg : (ti Proofs.Tryd.prog 9).agg = false := by kernel_rfl
@[simp] theorem t9_zero : (ti Proofs.Tryd.prog 9).zero = [Value.string ⟨#[]⟩] := by kernel_rfl
@[simp] theorem t10_ok : (ti Proofs.Tryd.prog 10).ok = true := by kernel_rfl
@[simp] theorem t10_k : (ti Proofs.Tryd.prog 10).k = K.string := by kernel_rfl
@[simp] theorem t10_size : (ti Proofs.Tryd.prog 10).size = 1 := by kernel_rfl
@[simp] theorem t10_bytes : (ti Proofs.Tryd.prog 10).bytes = 16 := by kernel_rfl
@[simp] theorem t10_agg : (ti Proofs.Tryd.prog 10).agg = false := by kernel_rfl
@[simp] theorem t10_zero : (ti Proofs.Tryd.prog 10).zero = [Value.string ⟨#[]⟩] := by kernel_rfl
@[simp] theorem t11_ok : (ti Proofs.Tryd.prog 11).ok = true := by kernel_rfl
@[simp] theorem t11_k : (ti Proofs.Tryd.prog 11).k = K.string := by kernel_rfl
@[simp] theorem t11_size : (ti Proofs.Tryd.prog 11).size = 1 := by kernel_rfl
@[simp] theorem t11_bytes : (ti Proofs.Tryd.prog 11).bytes = 16 := by kernel_rfl
@[simp] theorem t11_agg : (ti Proofs.Tryd.prog 11).agg = false := by kernel_rfl
@[simp] theorem t11_zero : (ti Proofs.Tryd.prog 11).zero = [Value.string ⟨#[]⟩] := by kernel_rfl
@[simp] theorem t14_ok : (ti Proofs.Tryd.prog 14).ok = true := by kernel_rfl
@[simp] theorem t14_k : (ti Proofs.Tryd.prog 14).k = K.struct := by kernel_rfl
@[simp] theorem t14_size : (ti Proofs.Tryd.prog 14).size = 2 := by kernel_rfl
@[simp] theorem t14_bytes : (ti Proofs.Tryd.prog 14).bytes = 24 := by kernel_rfl
@[simp] theorem t14_agg : (ti Proofs.Tryd.prog 14).agg = true := by kernel_rfl
@[simp] theorem t14_zero : (ti Proofs.Tryd.prog 14).zero = [Value.string ⟨#[]⟩, Value.int IntKind.u64 0] := by kernel_rfl
@[simp] theorem t14_flds : (ti Proofs.Tryd.prog 14).flds = [(0, 1), (1, 1)] := by kernel_rfl
@[simp] theorem t15_ok : (ti Proofs.Tryd.prog 15).ok = true := by kernel_rfl
@[simp] theorem t15_k : (ti Proofs.Tryd.prog 15).k = K.pointer := by kernel_rfl
@[simp] theorem t15_size : (ti Proofs.Tryd.prog 15).size = 1 := by kernel_rfl
@[simp] theorem t15_bytes : (ti Proofs.Tryd.prog 15).bytes = 8 := by kernel_rfl
@[simp] theorem t15_agg : (ti Proofs.Tryd.prog 15).agg = false := by kernel_rfl
@[simp] theorem t15_zero : (ti Proofs.Tryd.prog 15).zero = [Value.pointer none] := by kernel_rfl
@[simp] theorem t16_ok : (ti Proofs.Tryd.prog 16).ok = true := by kernel_rfl
@[simp] theorem t16_k : (ti Proofs.Tryd.prog 16).k = K.pointer := by kernel_rfl
@[simp] theorem t16_size : (ti Proofs.Tryd.prog 16).size = 1 := by kernel_rfl
@[simp] theorem t16_bytes : (ti Proofs.Tryd.prog 16).bytes = 8 := by kernel_rfl
@[simp] theorem t16_agg : (ti Proofs.Tryd.prog 16).agg = false := by kernel_rfl
@[simp] theorem t16_zero : (ti Proofs.Tryd.prog 16).zero = [Value.pointer none] := by kernel_rfl
@[simp] theorem t17_ok : (ti Proofs.Tryd.prog 17).ok = true := by kernel_rfl
@[simp] theorem t17_k : (ti Proofs.Tryd.prog 17).k = K.pointer := by kernel_rfl
@[simp] theorem t17_size : (ti Proofs.Tryd.prog 17).size = 1 := by kernel_rfl
@[simp] theorem t17_bytes : (ti Proofs.Tryd.prog 17).bytes = 8 := by kernel_rfl
@[simp] theorem t17_agg : (ti Proofs.Tryd.prog 17).agg = false := by kernel_rfl
@[simp] theorem t17_zero : (ti Proofs.Tryd.prog 17).zero = [Value.pointer none] := by kernel_rfl
@[simp] theorem t18_ok : (ti Proofs.Tryd.prog 18).ok = true := by kernel_rfl
@[simp] theorem t18_k : (ti Proofs.Tryd.prog 18).k = K.struct := by kernel_rfl
@[simp] theorem t18_size : (ti Proofs.Tryd.prog 18).size = 1 := by kernel_rfl
@[simp] theorem t18_bytes : (ti Proofs.Tryd.prog 18).bytes = 8 := by kernel_rfl
@[simp] theorem t18_agg : (ti Proofs.Tryd.prog 18).agg = true := by kernel_rfl
@[simp] theorem t18_zero : (ti Proofs.Tryd.prog 18).zero = [Value.pointer none] := by kernel_rfl
@[simp] theorem t18_flds : (ti Proofs.Tryd.prog 18).flds = [(0, 1)] := by kernel_rfl
@[simp] theorem t19_ok : (ti Proofs.Tryd.prog 19).ok = true := by kernel_rfl
@[simp] theorem t19_k : (ti Proofs.Tryd.prog 19).k = K.struct := by kernel_rfl
@[simp] theorem t19_size : (ti Proofs.Tryd.prog 19).size = 1 := by kernel_rfl
@[simp] theorem t19_bytes : (ti Proofs.Tryd.prog 19).bytes = 8 := by kernel_rfl
@[simp] theorem t19_agg : (ti Proofs.Tryd.prog 19).agg = true := by kernel_rfl
@[simp] theorem t19_zero : (ti Proofs.Tryd.prog 19).zero = [Value.pointer none] := by kernel_rfl
@[simp] theorem t19_flds : (ti Proofs.Tryd.prog 19).flds = [(0, 1)] := by kernel_rfl
@[simp] theorem t20_ok : (ti Proofs.Tryd.prog 20).ok = true := by kernel_rfl
@[simp] theorem t20_k : (ti Proofs.Tryd.prog 20).k = K.iface := by kernel_rfl
@[simp] theorem t20_size : (ti Proofs.Tryd.prog 20).size = 1 := by kernel_rfl
@[simp] theorem t20_bytes : (ti Proofs.Tryd.prog 20).bytes = 16 := by kernel_rfl
@[simp] theorem t20_agg : (ti Proofs.Tryd.prog 20).agg = false := by kernel_rfl
@[simp] theorem t20_zero : (ti Proofs.Tryd.prog 20).zero = [Value.nilIface] := by kernel_rfl
@[simp] theorem t21_ok : (ti Proofs.Tryd.prog 21).ok = true := by kernel_rfl
@[simp] theorem t21_k : (ti Proofs.Tryd.prog 21).k = K.int IntKind.i32 := by kernel_rfl
@[simp] theorem t21_size : (ti Proofs.Tryd.prog 21).size = 1 := by kernel_rfl
@[simp] theorem t21_bytes : (ti Proofs.Tryd.prog 21).bytes = 4 := by kernel_rfl
@[simp] theorem t21_agg : (ti Proofs.Tryd.prog 21).agg = false := by kernel_rfl
@[simp] theorem t21_zero : (ti Proofs.Tryd.prog 21).zero = [Value.int IntKind.i32 0] := by kernel_rfl
@[simp] theorem t22_ok : (ti Proofs.Tryd.prog 22).ok = true := by kernel_rfl
@[simp] theorem t22_k : (ti Proofs.Tryd.prog 22).k = K.slice 5 := by kernel_rfl
@[simp] theorem t22_size : (ti Proofs.Tryd.prog 22).size = 1 := by kernel_rfl
@[simp] theorem t22_bytes : (ti Proofs.Tryd.prog 22).bytes = 24 := by kernel_rfl
@[simp] theorem t22_agg : (ti Proofs.Tryd.prog 22).agg = false := by kernel_rfl
@[simp] theorem t22_zero : (ti Proofs.Tryd.prog 22).zero = [Value.slice none 0 0] := by kernel_rfl
@[simp] theorem t23_ok : (ti Proofs.Tryd.prog 23).ok = true := by kernel_rfl
@[simp] theorem t23_k : (ti Proofs.Tryd.prog 23).k = K.slice 3 := by kernel_rfl
@[simp] theorem t23_size : (ti Proofs.Tryd.prog 23).size = 1 := by kernel_rfl
@[simp] theorem t23_bytes : (ti Proofs.Tryd.prog 23).bytes = 24 := by kernel_rfl
@[simp] theorem t23_agg : (ti Proofs.Tryd.prog 23).agg = false := by kernel_rfl
@[simp] theorem t23_zero : (ti Proofs.Tryd.prog 23).zero = [Value.slice none 0 0] := by kernel_rfl
@[simp] theorem t24_ok : (ti Proofs.Tryd.prog 24).ok = true := by kernel_rfl
@[simp] theorem t24_k : (ti Proofs.Tryd.prog 24).k = K.other := by kernel_rfl
@[simp] theorem t24_size : (ti Proofs.Tryd.prog 24).size = 1 := by kernel_rfl
@[simp] theorem t24_bytes : (ti Proofs.Tryd.prog 24).bytes = 8 := by kernel_rfl
@[simp] theorem t24_agg : (ti Proofs.Tryd.prog 24).agg = false := by kernel_rfl
@[simp] theorem t24_zero : (ti Proofs.Tryd.prog 24).zero = [Value.nilFunc] := by kernel_rfl
@[simp] theorem t25_ok : (ti Proofs.Tryd.prog 25).ok = true := by kernel_rfl
@[simp] theorem t25_k : (ti Proofs.Tryd.prog 25).k = K.slice 34 := by kernel_rfl
@[simp] theorem t25_size : (ti Proofs.Tryd.prog 25).size = 1 := by kernel_rfl
@[simp] theorem t25_bytes : (ti Proofs.Tryd.prog 25).bytes = 24 := by kernel_rfl
@[simp] theorem t25_agg : (ti Proofs.Tryd.prog 25).agg = false := by kernel_rfl
@[simp] theorem t25_zero : (ti Proofs.Tryd.prog 25).zero = [Value.slice none 0 0] := by kernel_rfl
@[simp] theorem t26_ok : (ti Proofs.Tryd.prog 26).ok = true := by kernel_rfl
@[simp] theorem t26_k : (ti Proofs.Tryd.prog 26).k = K.slice 136 := by kernel_rfl
@[simp] theorem t26_size : (ti Proofs.Tryd.prog 26).size = 1 := by kernel_rfl
@[simp] theorem t26_bytes : (ti Proofs.Tryd.prog 26).bytes = 24 := by kernel_rfl
@[simp] theorem t26_agg : (ti Proofs.Tryd.prog 26).agg = false := by kernel_rfl
@[simp] theorem t26_zero : (ti Proofs.Tryd.prog 26).zero = [Value.slice none 0 0] := by kernel_rfl
@[simp] theorem t27_ok : (ti Proofs.Tryd.prog 27).ok = true := by kernel_rfl
@[simp] theorem t27_k : (ti Proofs.Tryd.prog 27).k = K.slice 138 := by kernel_rfl
@[simp] theorem t27_size : (ti Proofs.Tryd.prog 27).size = 1 := by kernel_rfl
@[simp] theorem t27_bytes : (ti Proofs.Tryd.prog 27).bytes = 24 := by kernel_rfl
@[simp] theorem t27_agg : (ti Proofs.Tryd.prog 27).agg = false := by kernel_rfl
@[simp] theorem t27_zero : (ti Proofs.Tryd.prog 27).zero = [Value.slice none 0 0] := by kernel_rfl
@[simp] theorem t28_ok : (ti Proofs.Tryd.prog 28).ok = true := by kernel_rfl
@[simp] theorem t28_k : (ti Proofs.Tryd.prog 28).k = K.slice 140 := by kernel_rfl
@[simp] theorem t28_size : (ti Proofs.Tryd.prog 28).size = 1 := by kernel_rfl
@[simp] theorem t28_bytes : (ti Proofs.Tryd.prog 28).bytes = 24 := by kernel_rfl
@[simp] theorem t28_agg : (ti Proofs.Tryd.prog 28).agg = false := by kernel_rfl
@[simp] theorem t28_zero : (ti Proofs.Tryd.prog 28).zero = [Value.slice none 0 0] := by kernel_rfl
@[simp] theorem t29_ok : (ti Proofs.Tryd.prog 29).ok = true := by kernel_rfl
@[simp] theorem t29_k : (ti Proofs.Tryd.prog 29).k = K.struct := by kernel_rfl
@[simp] theorem t29_size : (ti Proofs.Tryd.prog 29).size = 5 := by kernel_rfl
@[simp] theorem t29_bytes : (ti Proofs.Tryd.prog 29).bytes = 104 := by kernel_rfl
@[simp] theorem t29_agg : (ti Proofs.Tryd.prog 29).agg = true := by kernel_rfl
@[simp] theorem t29_zero : (ti Proofs.Tryd.prog 29).zero = [Value.slice none 0 0, Value.slice none 0 0, Value.slice none 0 0, Value.slice none 0 0, Value.int IntKind.i64 0] := by kernel_rfl
@[simp] theorem t29_flds : (ti Proofs.Tryd.prog 29).flds = [(0, 1), (1, 1), (2, 1), (3, 1), (4, 1)] := by kernel_rfl
@[simp] theorem t30_ok : (ti Proofs.Tryd.prog 30).ok = true := by kernel_rfl
@[simp] theorem t30_k : (ti Proofs.Tryd.prog 30).k = K.struct := by kernel_rfl
@[simp] theorem t30_size : (ti Proofs.Tryd.prog 30).size = 5 := by kernel_rfl
@[simp] theorem t30_bytes : (ti Proofs.Tryd.prog 30).bytes = 104 := by kernel_rfl
@[simp] theorem t30_agg : (ti Proofs.Tryd.prog 30).agg = true := by kernel_rfl
@[simp] theorem t30_zero : (ti Proofs.Tryd.prog 30).zero = [Value.slice none 0 0, Value.slice none 0 0, Value.slice none 0 0, Value.slice none 0 0, Value.int IntKind.i64 0] := by kernel_rfl
@[simp] theorem t30_flds : (ti Proofs.Tryd.prog 30).flds = [(0, 1), (1, 1), (2, 1), (3, 1), (4, 1)] := by kernel_rfl
@[simp] theorem t31_ok : (ti Proofs.Tryd.prog 31).ok = true := by kernel_rfl
@[simp] theorem t31_k : (ti Proofs.Tryd.prog 31).k = K.other := by kernel_rfl
@[simp] theorem t31_size : (ti Proofs.Tryd.prog 31).size = 1 := by kernel_rfl
@[simp] theorem t31_bytes : (ti Proofs.Tryd.prog 31).bytes = 8 := by kernel_rfl
@[simp] theorem t31_agg : (ti Proofs.Tryd.prog 31).agg = false := by kernel_rfl
@[simp] theorem t31_zero : (ti Proofs.Tryd.prog 31).zero = [Value.nilFunc] := by kernel_rfl
@[simp] theorem t32_ok : (ti Proofs.Tryd.prog 32).ok = true := by kernel_rfl
@[simp] theorem t32_k : (ti Proofs.Tryd.prog 32).k = K.other := by kernel_rfl
@[simp] theorem t32_size : (ti Proofs.Tryd.prog 32).size = 1 := by kernel_rfl
@[simp] theorem t32_bytes : (ti Proofs.Tryd.prog 32).bytes = 8 := by kernel_rfl
@[simp] theorem t32_agg : (ti Proofs.Tryd.prog 32).agg = false := by kernel_rfl
@[simp] theorem t32_zero : (ti Proofs.Tryd.prog 32).zero = [Value.nilFunc] := by kernel_rfl
@[simp] theorem t33_ok : (ti Proofs.Tryd.prog 33).ok = true := by kernel_rfl
@[simp] theorem t33_k : (ti Proofs.Tryd.prog 33).k = K.struct := by kernel_rfl
@[simp] theorem t33_size : (ti Proofs.Tryd.prog 33).size = 5 := by kernel_rfl
@[simp] theorem t33_bytes : (ti Proofs.Tryd.prog 33).bytes = 40 := by kernel_rfl
@[simp] theorem t33_agg : (ti Proofs.Tryd.prog 33).agg = true := by kernel_rfl
@[simp] theorem t33_zero : (ti Proofs.Tryd.prog 33).zero = [Value.int IntKind.i64 0, Value.int IntKind.i64 0, Value.string ⟨#[]⟩, Value.bool false, Value.bool false] := by kernel_rfl
@[simp] theorem t33_flds : (ti Proofs.Tryd.prog 33).flds = [(0, 1), (1, 1), (2, 1), (3, 1), (4, 1)] := by kernel_rfl
@[simp] theorem t33_eq : eqT Proofs.Tryd.prog 33 = some [K.int IntKind.i64, K.int IntKind.i64, K.string, K.bool, K.bool] := by kernel_rfl
@[simp] theorem t34_ok : (ti Proofs.Tryd.prog 34).ok = true := by kernel_rfl
@[simp] theorem t34_k : (ti Proofs.Tryd.prog 34).k = K.struct := by kernel_rfl
@[simp] theorem t34_size : (ti Proofs.Tryd.prog 34).size = 5 := by kernel_rfl
@[simp] theorem t34_bytes : (ti Proofs.Tryd.prog 34).bytes = 40 := by kernel_rfl
@[simp] theorem t34_agg : (ti Proofs.Tryd.prog 34).agg = true := by kernel_rfl
@[simp] theorem t34_zero : (ti Proofs.Tryd.prog 34).zero = [Value.int IntKind.i64 0, Value.int IntKind.i64 0, Value.string ⟨#[]⟩, Value.bool false, Value.bool false] := by kernel_rfl
@[simp] theorem t34_flds : (ti Proofs.Tryd.prog 34).flds = [(0, 1), (1, 1), (2, 1), (3, 1), (4, 1)] := by kernel_rfl
@[simp] theorem t34_eq : eqT Proofs.Tryd.prog 34 = some [K.int IntKind.i64, K.int IntKind.i64, K.string, K.bool, K.bool] := by kernel_rfl
@[simp] theorem t35_ok : (ti Proofs.Tryd.prog 35).ok = true := by kernel_rfl
@[simp] theorem t35_k : (ti Proofs.Tryd.prog 35).k = K.other := by kernel_rfl
@[simp] theorem t35_size : (ti Proofs.Tryd.prog 35).size = 1 := by kernel_rfl
@[simp] theorem t35_bytes : (ti Proofs.Tryd.prog 35).bytes = 8 := by kernel_rfl
@[simp] theorem t35_agg : (ti Proofs.Tryd.prog 35).agg = false := by kernel_rfl
@[simp] theorem t35_zero : (ti Proofs.Tryd.prog 35).zero = [Value.nilFunc] := by kernel_rfl
@[simp] theorem t36_ok : (ti Proofs.Tryd.prog 36).ok = true := by kernel_rfl
@[simp] theorem t36_k : (ti Proofs.Tryd.prog 36).k = K.other := by kernel_rfl
@[simp] theorem t36_size : (ti Proofs.Tryd.prog 36).size = 1 := by kernel_rfl
@[simp] theorem t36_bytes : (ti Proofs.Tryd.prog 36).bytes = 8 := by kernel_rfl
@[simp] theorem t36_agg : (ti Proofs.Tryd.prog 36).agg = false := by kernel_rfl
@[simp] theorem t36_zero : (ti Proofs.Tryd.prog 36).zero = [Value.nilFunc] := by kernel_rfl
@[simp] theorem t37_ok : (ti Proofs.Tryd.prog 37).ok = true := by kernel_rfl
@[simp] theorem t37_k : (ti Proofs.Tryd.prog 37).k = K.int IntKind.i64 := by kernel_rfl
@[simp] theorem t37_size : (ti Proofs.Tryd.prog 37).size = 1 := by kernel_rfl
@[simp] theorem t37_bytes : (ti Proofs.Tryd.prog 37).bytes = 8 := by kernel_rfl
@[simp] theorem t37_agg : (ti Proofs.Tryd.prog 37).agg = false := by kernel_rfl
@[simp] theorem t37_zero : (ti Proofs.Tryd.prog 37).zero = [Value.int IntKind.i64 0] := by kernel_rfl
@[simp] theorem t38_ok : (ti Proofs.Tryd.prog 38).ok = true := by kernel_rfl
@[simp] theorem t38_k : (ti Proofs.Tryd.prog 38).k = K.other := by kernel_rfl
@[simp] theorem t38_size : (ti Proofs.Tryd.prog 38).size = 1 := by kernel_rfl
@[simp] theorem t38_bytes : (ti Proofs.Tryd.prog 38).bytes = 8 := by kernel_rfl
@[simp] theorem t38_agg : (ti Proofs.Tryd.prog 38).agg = false := by kernel_rfl
@[simp] theorem t38_zero : (ti Proofs.Tryd.prog 38).zero = [Value.nilFunc] := by kernel_rfl
@[simp] theorem t39_ok : (ti Proofs.Tryd.prog 39).ok = true := by kernel_rfl
@[simp] theorem t39_k : (ti Proofs.Tryd.prog 39).k = K.iface := by kernel_rfl
@[simp] theorem t39_size : (ti Proofs.Tryd.prog 39).size = 1 := by kernel_rfl
@[simp] theorem t39_bytes : (ti Proofs.Tryd.prog 39).bytes = 16 := by kernel_rfl
@[simp] theorem t39_agg : (ti Proofs.Tryd.prog 39).agg = false := by kernel_rfl
@[simp] theorem t39_zero : (ti Proofs.Tryd.prog 39).zero = [Value.nilIface] := by kernel_rfl
@[simp] theorem t40_ok : (ti Proofs.Tryd.prog 40).ok = true := by kernel_rfl
@[simp] theorem t40_k : (ti Proofs.Tryd.prog 40).k = K.iface := by kernel_rfl
@[simp] theorem t40_size : (ti Proofs.Tryd.prog 40).size = 1 := by kernel_rfl
@[simp] theorem t40_bytes : (ti Proofs.Tryd.prog 40).bytes = 16 := by kernel_rfl
@[simp] theorem t40_agg : (ti Proofs.Tryd.prog 40).agg = false := by kernel_rfl
@[simp] theorem t40_zero : (ti Proofs.Tryd.prog 40).zero = [Value.nilIface] := by kernel_rfl
@[simp] theorem t41_ok : (ti Proofs.Tryd.prog 41).ok = true := by kernel_rfl
@[simp] theorem t41_k : (ti Proofs.Tryd.prog 41).k = K.other := by kernel_rfl
@[simp] theorem t41_size : (ti Proofs.Tryd.prog 41).size = 1 := by kernel_rfl
@[simp] theorem t41_bytes : (ti Proofs.Tryd.prog 41).bytes = 8 := by kernel_rfl
@[simp] theorem t41_agg : (ti Proofs.Tryd.prog 41).agg = false := by kernel_rfl
@[simp] theorem t41_zero : (ti Proofs.Tryd.prog 41).zero = [Value.nilFunc] := by kernel_rfl
@[simp] theorem t42_ok : (ti Proofs.Tryd.prog 42).ok = true := by kernel_rfl
@[simp] theorem t42_k : (ti Proofs.Tryd.prog 42).k = K.other := by kernel_rfl
@[simp] theorem t42_size : (ti Proofs.Tryd.prog 42).size = 1 := by kernel_rfl
@[simp] theorem t42_bytes : (ti Proofs.Tryd.prog 42).bytes = 8 := by kernel_rfl
@[simp] theorem t42_agg : (ti Proofs.Tryd.prog 42).agg = false := by kernel_rfl
@[simp] theorem t42_zero : (ti Proofs.Tryd.prog 42).zero = [Value.nilFunc] := by kernel_rfl
@[simp] theorem t43_ok : (ti Proofs.Tryd.prog 43).ok = true := by kernel_rfl
@[simp] theorem t43_k : (ti Proofs.Tryd.prog 43).k = K.other := by kernel_rfl
@[simp] theorem t43_size : (ti Proofs.Tryd.prog 43).size = 1 := by kernel_rfl
@[simp] theorem t43_bytes : (ti Proofs.Tryd.prog 43).bytes = 8 := by kernel_rfl
@[simp] theorem t43_agg : (ti Proofs.Tryd.prog 43).agg = false := by kernel_rfl
@[simp] theorem t43_zero : (ti Proofs.Tryd.prog 43).zero = [Value.nilFunc] := by kernel_rfl
@[simp] theorem t44_ok : (ti Proofs.Tryd.prog 44).ok = true := by kernel_rfl
@[simp] theorem t44_k : (ti Proofs.Tryd.prog 44).k = K.slice 23 := by kernel_rfl
@[simp] theorem t44_size : (ti Proofs.Tryd.prog 44).size = 1 := by kernel_rfl
@[simp] theorem t44_bytes : (ti Proofs.Tryd.prog 44).bytes = 24 := by kernel_rfl
@[simp] theorem t44_agg : (ti Proofs.Tryd.prog 44).agg = false := by kernel_rfl
@[simp] theorem t44_zero : (ti Proofs.Tryd.prog 44).zero = [Value.slice none 0 0] := by kernel_rfl
@[simp] theorem t46_ok : (ti Proofs.Tryd.prog 46).ok = true := by kernel_rfl
@[simp] theorem t46_k : (ti Proofs.Tryd.prog 46).k = K.other := by kernel_rfl
@[simp] theorem t46_size : (ti Proofs.Tryd.prog 46).size = 1 := by kernel_rfl
@[simp] theorem t46_bytes : (ti Proofs.Tryd.prog 46).bytes = 8 := by kernel_rfl
@[simp] theorem t46_agg : (ti Proofs.Tryd.prog 46).agg = false := by kernel_rfl
@[simp] theorem t46_zero : (ti Proofs.Tryd.prog 46).zero = [Value.nilFunc] := by kernel_rfl
@[simp] theorem t48_ok : (ti Proofs.Tryd.prog 48).ok = true := by kernel_rfl
@[simp] theorem t48_k : (ti Proofs.Tryd.prog 48).k = K.other := by kernel_rfl
@[simp] theorem t48_size : (ti Proofs.Tryd.prog 48).size = 1 := by kernel_rfl
@[simp] theorem t48_bytes : (ti Proofs.Tryd.prog 48).bytes = 8 := by kernel_rfl
@[simp] theorem t48_agg : (ti Proofs.Tryd.prog 48).agg = false := by kernel_rfl
@[simp] theorem t48_zero : (ti Proofs.Tryd.prog 48).zero = [Value.nilFunc] := by kernel_rfl
@[simp] theorem t49_ok : (ti Proofs.Tryd.prog 49).ok = true := by kernel_rfl
@[simp] theorem t49_k : (ti Proofs.Tryd.prog 49).k = K.other := by kernel_rfl
@[simp] theorem t49_size : (ti Proofs.Tryd.prog 49).size = 1 := by kernel_rfl
@[simp] theorem t49_bytes : (ti Proofs.Tryd.prog 49).bytes = 8 := by kernel_rfl
@[simp] theorem t49_agg : (ti Proofs.Tryd.prog 49).agg = false := by kernel_rfl
@[simp] theorem t49_zero : (ti Proofs.Tryd.prog 49).zero = [Value.nilFunc] := by kernel_rfl
@[simp] theorem t50_ok : (ti Proofs.Tryd.prog 50).ok = true := by kernel_rfl
@[simp] theorem t50_k : (ti Proofs.Tryd.prog 50).k = K.other := by kernel_rfl
@[simp] theorem t50_size : (ti Proofs.Tryd.prog 50).size = 1 := by kernel_rfl
@[simp] theorem t50_bytes : (ti Proofs.Tryd.prog 50).bytes = 8 := by kernel_rfl
@[simp] theorem t50_agg : (ti Proofs.Tryd.prog 50).agg = false := by kernel_rfl
@[simp] theorem t50_zero : (ti Proofs.Tryd.prog 50).zero = [Value.nilFunc] := by kernel_rfl
@[simp] theorem t51_ok : (ti Proofs.Tryd.prog 51).ok = true := by kernel_rfl
@[simp] theorem t51_k : (ti Proofs.Tryd.prog 51).k = K.other := by kernel_rfl
@[simp] theorem t51_size : (ti Proofs.Tryd.prog 51).size = 1 := by kernel_rfl
@[simp] theorem t51_bytes : (ti Proofs.Tryd.prog 51).bytes = 8 := by kernel_rfl
@[simp] theorem t51_agg : (ti Proofs.Tryd.prog 51).agg = false := by kernel_rfl
@[simp] theorem t51_zero : (ti Proofs.Tryd.prog 51).zero = [Value.nilFunc] := by kernel_rfl
@[simp] theorem t52_ok : (ti Proofs.Tryd.prog 52).ok = true := by kernel_rfl
@[simp] theorem t52_k : (ti Proofs.Tryd.prog 52).k = K.slice 55 := by kernel_rfl
@[simp] theorem t52_size : (ti Proofs.Tryd.prog 52).size = 1 := by kernel_rfl
@[simp] theorem t52_bytes : (ti Proofs.Tryd.prog 52).bytes = 24 := by kernel_rfl
@[simp] theorem t52_agg : (ti Proofs.Tryd.prog 52).agg = false := by kernel_rfl
@[simp] theorem t52_zero : (ti Proofs.Tryd.prog 52).zero = [Value.slice none 0 0] := by kernel_rfl
@[simp] theorem t53_ok : (ti Proofs.Tryd.prog 53).ok = true := by kernel_rfl
@[simp] theorem t53_k : (ti Proofs.Tryd.prog 53).k = K.other := by kernel_rfl
@[simp] theorem t53_size : (ti Proofs.Tryd.prog 53).size = 1 := by kernel_rfl
@[simp] theorem t53_bytes : (ti Proofs.Tryd.prog 53).bytes = 8 := by kernel_rfl
@[simp] theorem t53_agg : (ti Proofs.Tryd.prog 53).agg = false := by kernel_rfl
@[simp] theorem t53_zero : (ti Proofs.Tryd.prog 53).zero = [Value.nilFunc] := by kernel_rfl
@[simp] theorem t54_ok : (ti Proofs.Tryd.prog 54).ok = true := by kernel_rfl
@[simp] theorem t54_k : (ti Proofs.Tryd.prog 54).k = K.struct := by kernel_rfl
@[simp] theorem t54_size : (ti Proofs.Tryd.prog 54).size = 2 := by kernel_rfl
@[simp] theorem t54_bytes : (ti Proofs.Tryd.prog 54).bytes = 40 := by kernel_rfl
@[simp] theorem t54_agg : (ti Proofs.Tryd.prog 54).agg = true := by kernel_rfl
@[simp] theorem t54_zero : (ti Proofs.Tryd.prog 54).zero = [Value.string ⟨#[]⟩, Value.slice none 0 0] := by kernel_rfl
@[simp] theorem t54_flds : (ti Proofs.Tryd.prog 54).flds = [(0, 1), (1, 1)] := by kernel_rfl
@[simp] theorem t55_ok : (ti Proofs.Tryd.prog 55).ok = true := by kernel_rfl
@[simp] theorem t55_k : (ti Proofs.Tryd.prog 55).k = K.struct := by kernel_rfl
@[simp] theorem t55_size : (ti Proofs.Tryd.prog 55).size = 2 := by kernel_rfl
@[simp] theorem t55_bytes : (ti Proofs.Tryd.prog 55).bytes = 40 := by kernel_rfl
@[simp] theorem t55_agg : (ti Proofs.Tryd.prog 55).agg = true := by kernel_rfl
@[simp] theorem t55_zero : (ti Proofs.Tryd.prog 55).zero = [Value.string ⟨#[]⟩, Value.slice none 0 0] := by kernel_rfl
@[simp] theorem t55_flds : (ti Proofs.Tryd.prog 55).flds = [(0, 1), (1, 1)] := by kernel_rfl
@[simp] theorem t56_ok : (ti Proofs.Tryd.prog 56).ok = true := by kernel_rfl
@[simp] theorem t56_k : (ti Proofs.Tryd.prog 56).k = K.slice 9 := by kernel_rfl
@[simp] theorem t56_size : (ti Proofs.Tryd.prog 56).size = 1 := by kernel_rfl
@[simp] theorem t56_bytes : (ti Proofs.Tryd.prog 56).bytes = 24 := by kernel_rfl
@[simp] theorem t56_agg : (ti Proofs.Tryd.prog 56).agg = false := by kernel_rfl
@[simp] theorem t56_zero : (ti Proofs.Tryd.prog 56).zero = [Value.slice none 0 0] := by kernel_rfl
@[simp] theorem t57_ok : (ti Proofs.Tryd.prog 57).ok = true := by kernel_rfl
@[simp] theorem t57_k : (ti Proofs.Tryd.prog 57).k = K.other := by kernel_rfl
@[simp] theorem t57_size : (ti Proofs.Tryd.prog 57).size = 1 := by kernel_rfl
@[simp] theorem t57_bytes : (ti Proofs.Tryd.prog 57).bytes = 8 := by kernel_rfl
@[simp] theorem t57_agg : (ti Proofs.Tryd.prog 57).agg = false := by kernel_rfl
@[simp] theorem t57_zero : (ti Proofs.Tryd.prog 57).zero = [Value.nilFunc] := by kernel_rfl
@[simp] theorem t58_ok : (ti Proofs.Tryd.prog 58).ok = true := by kernel_rfl
@[simp] theorem t58_k : (ti Proofs.Tryd.prog 58).k = K.other := by kernel_rfl
@[simp] theorem t58_size : (ti Proofs.Tryd.prog 58).size = 1 := by kernel_rfl
@[simp] theorem t58_bytes : (ti Proofs.Tryd.prog 58).bytes = 8 := by kernel_rfl
@[simp] theorem t58_agg : (ti Proofs.Tryd.prog 58).agg = false := by kernel_rfl
@[simp] theorem t58_zero : (ti Proofs.Tryd.prog 58).zero = [Value.nilFunc] := by kernel_rfl
@[simp] theorem t59_ok : (ti Proofs.Tryd.prog 59).ok = true := by kernel_rfl
@[simp] theorem t59_k : (ti Proofs.Tryd.prog 59).k = K.other := by kernel_rfl
@[simp] theorem t59_size : (ti Proofs.Tryd.prog 59).size = 1 := by kernel_rfl
@[simp] theorem t59_bytes : (ti Proofs.Tryd.prog 59).bytes = 8 := by kernel_rfl
@[simp] theorem t59_agg : (ti Proofs.Tryd.prog 59).agg = false := by kernel_rfl
@[simp] theorem t59_zero : (ti Proofs.Tryd.prog 59).zero = [Value.nilFunc] := by kernel_rfl
@[simp] theorem t60_ok : (ti Proofs.Tryd.prog 60).ok = true := by kernel_rfl
@[simp] theorem t60_k : (ti Proofs.Tryd.prog 60).k = K.pointer := by kernel_rfl
@[simp] theorem t60_size : (ti Proofs.Tryd.prog 60).size = 1 := by kernel_rfl
@[simp] theorem t60_bytes : (ti Proofs.Tryd.prog 60).bytes = 8 := by kernel_rfl
@[simp] theorem t60_agg : (ti Proofs.Tryd.prog 60).agg = false := by kernel_rfl
@[simp] theorem t60_zero : (ti Proofs.Tryd.prog 60).zero = [Value.pointer none] := by kernel_rfl
@[simp] theorem t61_ok : (ti Proofs.Tryd.prog 61).ok = true := by kernel_rfl
@[simp] theorem t61_k : (ti Proofs.Tryd.prog 61).k = K.other := by kernel_rfl
@[simp] theorem t61_size : (ti Proofs.Tryd.prog 61).size = 1 := by kernel_rfl
@[simp] theorem t61_bytes : (ti Proofs.Tryd.prog 61).bytes = 8 := by kernel_rfl
@[simp] theorem t61_agg : (ti Proofs.Tryd.prog 61).agg = false := by kernel_rfl
@[simp] theorem t61_zero : (ti Proofs.Tryd.prog 61).zero = [Value.nilFunc] := by kernel_rfl
@[simp] theorem t62_ok : (ti Proofs.Tryd.prog 62).ok = true := by kernel_rfl
@[simp] theorem t62_k : (ti Proofs.Tryd.prog 62).k = K.other := by kernel_rfl
@[simp] theorem t62_size : (ti Proofs.Tryd.prog 62).size = 1 := by kernel_rfl
@[simp] theorem t62_bytes : (ti Proofs.Tryd.prog 62).bytes = 8 := by kernel_rfl
@[simp] theorem t62_agg : (ti Proofs.Tryd.prog 62).agg = false := by kernel_rfl
@[simp] theorem t62_zero : (ti Proofs.Tryd.prog 62).zero = [Value.nilFunc] := by kernel_rfl
@[simp] theorem t64_ok : (ti Proofs.Tryd.prog 64).ok = true := by kernel_rfl
@[simp] theorem t64_k : (ti Proofs.Tryd.prog 64).k = K.other := by kernel_rfl
@[simp] theorem t64_size : (ti Proofs.Tryd.prog 64).size = 1 := by kernel_rfl
@[simp] theorem t64_bytes : (ti Proofs.Tryd.prog 64).bytes = 8 := by kernel_rfl
@[simp] theorem t64_agg : (ti Proofs.Tryd.prog 64).agg = false := by kernel_rfl
@[simp] theorem t64_zero : (ti Proofs.Tryd.prog 64).zero = [Value.nilFunc] := by kernel_rfl
@[simp] theorem t66_ok : (ti Proofs.Tryd.prog 66).ok = true := by kernel_rfl
@[simp] theorem t66_k : (ti Proofs.Tryd.prog 66).k = K.other := by kernel_rfl
@[simp] theorem t66_size : (ti Proofs.Tryd.prog 66).size = 1 := by kernel_rfl
@[simp] theorem t66_bytes : (ti Proofs.Tryd.prog 66).bytes = 8 := by kernel_rfl
@[simp] theorem t66_agg : (ti Proofs.Tryd.prog 66).agg = false := by kernel_rfl
@[simp] theorem t66_zero : (ti Proofs.Tryd.prog 66).zero = [Value.nilFunc] := by kernel_rfl
@[simp] theorem t67_ok : (ti Proofs.Tryd.prog 67).ok = true := by kernel_rfl
@[simp] theorem t67_k : (ti Proofs.Tryd.prog 67).k = K.pointer := by kernel_rfl
@[simp] theorem t67_size : (ti Proofs.Tryd.prog 67).size = 1 := by kernel_rfl
@[simp] theorem t67_bytes : (ti Proofs.Tryd.prog 67).bytes = 8 := by kernel_rfl
@[simp] theorem t67_agg : (ti Proofs.Tryd.prog 67).agg = false := by kernel_rfl
@[simp] theorem t67_zero : (ti Proofs.Tryd.prog 67).zero = [Value.pointer none] := by kernel_rfl
@[simp] theorem t68_ok : (ti Proofs.Tryd.prog 68).ok = true := by kernel_rfl
@[simp] theorem t68_k : (ti Proofs.Tryd.prog 68).k = K.other := by kernel_rfl
@[simp] theorem t68_size : (ti Proofs.Tryd.prog 68).size = 1 := by kernel_rfl
@[simp] theorem t68_bytes : (ti Proofs.Tryd.prog 68).bytes = 8 := by kernel_rfl
@[simp] theorem t68_agg : (ti Proofs.Tryd.prog 68).agg = false := by kernel_rfl
@[simp] theorem t68_zero : (ti Proofs.Tryd.prog 68).zero = [Value.map none] := by kernel_rfl
@[simp] theorem t70_ok : (ti Proofs.Tryd.prog 70).ok = true := by kernel_rfl
@[simp] theorem t70_k : (ti Proofs.Tryd.prog 70).k = K.struct := by kernel_rfl
@[simp] theorem t70_size : (ti Proofs.Tryd.prog 70).size = 5 := by kernel_rfl
@[simp] theorem t70_bytes : (ti Proofs.Tryd.prog 70).bytes = 72 := by kernel_rfl
@[simp] theorem t70_agg : (ti Proofs.Tryd.prog 70).agg = true := by kernel_rfl
@[simp] theorem t70_zero : (ti Proofs.Tryd.prog 70).zero = [Value.slice none 0 0, Value.int IntKind.i64 0, Value.nilFunc, Value.slice none 0 0, Value.map none] := by kernel_rfl
@[simp] theorem t70_flds : (ti Proofs.Tryd.prog 70).flds = [(0, 1), (1, 1), (2, 1), (3, 1), (4, 1)] := by kernel_rfl
@[simp] theorem t77_ok : (ti Proofs.Tryd.prog 77).ok = true := by kernel_rfl
@[simp] theorem t77_k : (ti Proofs.Tryd.prog 77).k = K.other := by kernel_rfl
@[simp] theorem t77_size : (ti Proofs.Tryd.prog 77).size = 1 := by kernel_rfl
@[simp] theorem t77_bytes : (ti Proofs.Tryd.prog 77).bytes = 8 := by kernel_rfl
@[simp] theorem t77_agg : (ti Proofs.Tryd.prog 77).agg = false := by kernel_rfl
@[simp] theorem t77_zero : (ti Proofs.Tryd.prog 77).zero = [Value.nilFunc] := by kernel_rfl
@[simp] theorem t78_ok : (ti Proofs.Tryd.prog 78).ok = true := by kernel_rfl
@[simp] theorem t78_k : (ti Proofs.Tryd.prog 78).k = K.other := by kernel_rfl
@[simp] theorem t78_size : (ti Proofs.Tryd.prog 78).size = 1 := by kernel_rfl
@[simp] theorem t78_bytes : (ti Proofs.Tryd.prog 78).bytes = 8 := by kernel_rfl
@[simp] theorem t78_agg : (ti Proofs.Tryd.prog 78).agg = false := by kernel_rfl
@[simp] theorem t78_zero : (ti Proofs.Tryd.prog 78).zero = [Value.nilFunc] := by kernel_rfl
@[simp] theorem t79_ok : (ti Proofs.Tryd.prog 79).ok = true := by kernel_rfl
@[simp] theorem t79_k : (ti Proofs.Tryd.prog 79).k = K.other := by kernel_rfl
@[simp] theorem t79_size : (ti Proofs.Tryd.prog 79).size = 1 := by kernel_rfl
@[simp] theorem t79_bytes : (ti Proofs.Tryd.prog 79).bytes = 8 := by kernel_rfl
@[simp] theorem t79_agg : (ti Proofs.Tryd.prog 79).agg = false := by kernel_rfl
@[simp] theorem t79_zero : (ti Proofs.Tryd.prog 79).zero = [Value.pointer none] := by kernel_rfl
@[simp] theorem t80_ok : (ti Proofs.Tryd.prog 80).ok = true := by kernel_rfl
@[simp] theorem t80_k : (ti Proofs.Tryd.prog 80).k = K.int IntKind.u64 := by kernel_rfl
@[simp] theorem t80_size : (ti Proofs.Tryd.prog 80).size = 1 := by kernel_rfl
@[simp] theorem t80_bytes : (ti Proofs.Tryd.prog 80).bytes = 8 := by kernel_rfl
@[simp] theorem t80_agg : (ti Proofs.Tryd.prog 80).agg = false := by kernel_rfl
@[simp] theorem t80_zero : (ti Proofs.Tryd.prog 80).zero = [Value.int IntKind.u64 0] := by kernel_rfl
@[simp] theorem t81_ok : (ti Proofs.Tryd.prog 81).ok = true := by kernel_rfl
@[simp] theorem t81_k : (ti Proofs.Tryd.prog 81).k = K.struct := by kernel_rfl
@[simp] theorem t81_size : (ti Proofs.Tryd.prog 81).size = 3 := by kernel_rfl
@[simp] theorem t81_bytes : (ti Proofs.Tryd.prog 81).bytes = 24 := by kernel_rfl
@[simp] theorem t81_agg : (ti Proofs.Tryd.prog 81).agg = true := by kernel_rfl
@[simp] theorem t81_zero : (ti Proofs.Tryd.prog 81).zero = [Value.pointer none, Value.pointer none, Value.int IntKind.u64 0] := by kernel_rfl
@[simp] theorem t81_flds : (ti Proofs.Tryd.prog 81).flds = [(0, 1), (1, 1), (2, 1)] := by kernel_rfl
@[simp] theorem t82_ok : (ti Proofs.Tryd.prog 82).ok = true := by kernel_rfl
@[simp] theorem t82_k : (ti Proofs.Tryd.prog 82).k = K.struct := by kernel_rfl
@[simp] theorem t82_size : (ti Proofs.Tryd.prog 82).size = 3 := by kernel_rfl
@[simp] theorem t82_bytes : (ti Proofs.Tryd.prog 82).bytes = 24 := by kernel_rfl
@[simp] theorem t82_agg : (ti Proofs.Tryd.prog 82).agg = true := by kernel_rfl
@[simp] theorem t82_zero : (ti Proofs.Tryd.prog 82).zero = [Value.pointer none, Value.pointer none, Value.int IntKind.u64 0] := by kernel_rfl
@[simp] theorem t82_flds : (ti Proofs.Tryd.prog 82).flds = [(0, 1), (1, 1), (2, 1)] := by kernel_rfl
@[simp] theorem t83_ok : (ti Proofs.Tryd.prog 83).ok = true := by kernel_rfl
@[simp] theorem t83_k : (ti Proofs.Tryd.prog 83).k = K.other := by kernel_rfl
@[simp] theorem t83_size : (ti Proofs.Tryd.prog 83).size = 1 := by kernel_rfl
@[simp] theorem t83_bytes : (ti Proofs.Tryd.prog 83).bytes = 8 := by kernel_rfl
@[simp] theorem t83_agg : (ti Proofs.Tryd.prog 83).agg = false := by kernel_rfl
@[simp] theorem t83_zero : (ti Proofs.Tryd.prog 83).zero = [Value.nilFunc] := by kernel_rfl
@[simp] theorem t84_ok : (ti Proofs.Tryd.prog 84).ok = true := by kernel_rfl
@[simp] theorem t84_k : (ti Proofs.Tryd.prog 84).k = K.iface := by kernel_rfl
@[simp] theorem t84_size : (ti Proofs.Tryd.prog 84).size = 1 := by kernel_rfl
@[simp] theorem t84_bytes : (ti Proofs.Tryd.prog 84).bytes = 16 := by kernel_rfl
@[simp] theorem t84_agg : (ti Proofs.Tryd.prog 84).agg = false := by kernel_rfl
@[simp] theorem t84_zero : (ti Proofs.Tryd.prog 84).zero = [Value.nilIface] := by kernel_rfl
@[simp] theorem t85_ok : (ti Proofs.Tryd.prog 85).ok = true := by kernel_rfl
@[simp] theorem t85_k : (ti Proofs.Tryd.prog 85).k = K.iface := by kernel_rfl
@[simp] theorem t85_size : (ti Proofs.Tryd.prog 85).size = 1 := by kernel_rfl
@[simp] theorem t85_bytes : (ti Proofs.Tryd.prog 85).bytes = 16 := by kernel_rfl
@[simp] theorem t85_agg : (ti Proofs.Tryd.prog 85).agg = false := by kernel_rfl
@[simp] theorem t85_zero : (ti Proofs.Tryd.prog 85).zero = [Value.nilIface] := by kernel_rfl
@[simp] theorem t86_ok : (ti Proofs.Tryd.prog 86).ok = true := by kernel_rfl
@[simp] theorem t86_k : (ti Proofs.Tryd.prog 86).k = K.other := by kernel_rfl
@[simp] theorem t86_size : (ti Proofs.Tryd.prog 86).size = 1 := by kernel_rfl
@[simp] theorem t86_bytes : (ti Proofs.Tryd.prog 86).bytes = 8 := by kernel_rfl
@[simp] theorem t86_agg : (ti Proofs.Tryd.prog 86).agg = false := by kernel_rfl
@[simp] theorem t86_zero : (ti Proofs.Tryd.prog 86).zero = [Value.nilFunc] := by kernel_rfl
@[simp] theorem t92_ok : (ti Proofs.Tryd.prog 92).ok = true := by kernel_rfl
@[simp] theorem t92_k : (ti Proofs.Tryd.prog 92).k = K.struct := by kernel_rfl
@[simp] theorem t92_size : (ti Proofs.Tryd.prog 92).size = 3 := by kernel_rfl
@[simp] theorem t92_bytes : (ti Proofs.Tryd.prog 92).bytes = 40 := by kernel_rfl
@[simp] theorem t92_agg : (ti Proofs.Tryd.prog 92).agg = true := by kernel_rfl
@[simp] theorem t92_zero : (ti Proofs.Tryd.prog 92).zero = [Value.string ⟨#[]⟩, Value.int IntKind.i64 0, Value.nilIface] := by kernel_rfl
@[simp] theorem t92_flds : (ti Proofs.Tryd.prog 92).flds = [(0, 1), (1, 1), (2, 1)] := by kernel_rfl
@[simp] theorem t97_ok : (ti Proofs.Tryd.prog 97).ok = true := by kernel_rfl
@[simp] theorem t97_k : (ti Proofs.Tryd.prog 97).k = K.int IntKind.u64 := by kernel_rfl
@[simp] theorem t97_size : (ti Proofs.Tryd.prog 97).size = 1 := by kernel_rfl
@[simp] theorem t97_bytes : (ti Proofs.Tryd.prog 97).bytes = 8 := by kernel_rfl
@[simp] theorem t97_agg : (ti Proofs.Tryd.prog 97).agg = false := by kernel_rfl
@[simp] theorem t97_zero : (ti Proofs.Tryd.prog 97).zero = [Value.int IntKind.u64 0] := by kernel_rfl
@[simp] theorem t136_ok : (ti Proofs.Tryd.prog 136).ok = true := by kernel_rfl
@[simp] theorem t136_k : (ti Proofs.Tryd.prog 136).k = K.struct := by kernel_rfl
@[simp] theorem t136_size : (ti Proofs.Tryd.prog 136).size = 3 := by kernel_rfl
@[simp] theorem t136_bytes : (ti Proofs.Tryd.prog 136).bytes = 48 := by kernel_rfl
@[simp] theorem t136_agg : (ti Proofs.Tryd.prog 136).agg = true := by kernel_rfl
@[simp] theorem t136_zero : (ti Proofs.Tryd.prog 136).zero = [Value.int IntKind.i64 0, Value.string ⟨#[]⟩, Value.slice none 0 0] := by kernel_rfl
@[simp] theorem t136_flds : (ti Proofs.Tryd.prog 136).flds = [(0, 1), (1, 1), (2, 1)] := by kernel_rfl
@[simp] theorem t138_ok : (ti Proofs.Tryd.prog 138).ok = true := by kernel_rfl
@[simp] theorem t138_k : (ti Proofs.Tryd.prog 138).k = K.struct := by kernel_rfl
@[simp] theorem t138_size : (ti Proofs.Tryd.prog 138).size = 3 := by kernel_rfl
@[simp] theorem t138_bytes : (ti Proofs.Tryd.prog 138).bytes = 40 := by kernel_rfl
@[simp] theorem t138_agg : (ti Proofs.Tryd.prog 138).agg = true := by kernel_rfl
@[simp] theorem t138_zero : (ti Proofs.Tryd.prog 138).zero = [Value.int IntKind.i64 0, Value.string ⟨#[]⟩, Value.string ⟨#[]⟩] := by kernel_rfl
@[simp] theorem t138_flds : (ti Proofs.Tryd.prog 138).flds = [(0, 1), (1, 1), (2, 1)] := by kernel_rfl
@[simp] theorem t138_eq : eqT Proofs.Tryd.prog 138 = some [K.int IntKind.i64, K.string, K.string] := by kernel_rfl
@[simp] theorem t140_ok : (ti Proofs.Tryd.prog 140).ok = true := by kernel_rfl
@[simp] theorem t140_k : (ti Proofs.Tryd.prog 140).k = K.struct := by kernel_rfl
@[simp] theorem t140_size : (ti Proofs.Tryd.prog 140).size = 3 := by kernel_rfl
@[simp] theorem t140_bytes : (ti Proofs.Tryd.prog 140).bytes = 24 := by kernel_rfl
@[simp] theorem t140_agg : (ti Proofs.Tryd.prog 140).agg = true := by kernel_rfl
@[simp] theorem t140_zero : (ti Proofs.Tryd.prog 140).zero = [Value.int IntKind.i64 0, Value.int IntKind.i64 0, Value.int IntKind.i64 0] := by kernel_rfl
@[simp] theorem t140_flds : (ti Proofs.Tryd.prog 140).flds = [(0, 1), (1, 1), (2, 1)] := by kernel_rfl
@[simp] theorem t140_eq : eqT Proofs.Tryd.prog 140 = some [K.int IntKind.i64, K.int IntKind.i64, K.int IntKind.i64] := by kernel_rfl
end Go.Am
