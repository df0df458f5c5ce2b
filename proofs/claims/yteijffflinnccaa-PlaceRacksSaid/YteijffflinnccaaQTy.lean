/- Part of the proof of a law of placing. -/
import Derived.Test.YteijffflinnccaaQPE
import Derived.Test.YteijffflinnccaaProg
set_option linter.all false
set_option maxRecDepth 100000
namespace Go.Am
open Go
@[simp] theorem t1_ok : (ti Proofs.Try.prog 1).ok = true := by kernel_rfl
@[simp] theorem t1_k : (ti Proofs.Try.prog 1).k = K.other := by kernel_rfl
@[simp] theorem t1_size : (ti Proofs.Try.prog 1).size = 1 := by kernel_rfl
@[simp] theorem t1_bytes : (ti Proofs.Try.prog 1).bytes = 8 := by kernel_rfl
@[simp] theorem t1_agg : (ti Proofs.Try.prog 1).agg = false := by kernel_rfl
@[simp] theorem t1_zero : (ti Proofs.Try.prog 1).zero = [Value.nilFunc] := by kernel_rfl
@[simp] theorem t2_ok : (ti Proofs.Try.prog 2).ok = true := by kernel_rfl
@[simp] theorem t2_k : (ti Proofs.Try.prog 2).k = K.int IntKind.i64 := by kernel_rfl
@[simp] theorem t2_size : (ti Proofs.Try.prog 2).size = 1 := by kernel_rfl
@[simp] theorem t2_bytes : (ti Proofs.Try.prog 2).bytes = 8 := by kernel_rfl
@[simp] theorem t2_agg : (ti Proofs.Try.prog 2).agg = false := by kernel_rfl
@[simp] theorem t2_zero : (ti Proofs.Try.prog 2).zero = [Value.int IntKind.i64 0] := by kernel_rfl
@[simp] theorem t3_ok : (ti Proofs.Try.prog 3).ok = true := by kernel_rfl
@[simp] theorem t3_k : (ti Proofs.Try.prog 3).k = K.int IntKind.i64 := by kernel_rfl
@[simp] theorem t3_size : (ti Proofs.Try.prog 3).size = 1 := by kernel_rfl
@[simp] theorem t3_bytes : (ti Proofs.Try.prog 3).bytes = 8 := by kernel_rfl
@[simp] theorem t3_agg : (ti Proofs.Try.prog 3).agg = false := by kernel_rfl
@[simp] theorem t3_zero : (ti Proofs.Try.prog 3).zero = [Value.int IntKind.i64 0] := by kernel_rfl
@[simp] theorem t4_ok : (ti Proofs.Try.prog 4).ok = true := by kernel_rfl
@[simp] theorem t4_k : (ti Proofs.Try.prog 4).k = K.bool := by kernel_rfl
@[simp] theorem t4_size : (ti Proofs.Try.prog 4).size = 1 := by kernel_rfl
@[simp] theorem t4_bytes : (ti Proofs.Try.prog 4).bytes = 1 := by kernel_rfl
@[simp] theorem t4_agg : (ti Proofs.Try.prog 4).agg = false := by kernel_rfl
@[simp] theorem t4_zero : (ti Proofs.Try.prog 4).zero = [Value.bool false] := by kernel_rfl
@[simp] theorem t5_ok : (ti Proofs.Try.prog 5).ok = true := by kernel_rfl
@[simp] theorem t5_k : (ti Proofs.Try.prog 5).k = K.int IntKind.u8 := by kernel_rfl
@[simp] theorem t5_size : (ti Proofs.Try.prog 5).size = 1 := by kernel_rfl
@[simp] theorem t5_bytes : (ti Proofs.Try.prog 5).bytes = 1 := by kernel_rfl
@[simp] theorem t5_agg : (ti Proofs.Try.prog 5).agg = false := by kernel_rfl
@[simp] theorem t5_zero : (ti Proofs.Try.prog 5).zero = [Value.int IntKind.u8 0] := by kernel_rfl
@[simp] theorem t6_ok : (ti Proofs.Try.prog 6).ok = true := by kernel_rfl
@[simp] theorem t6_k : (ti Proofs.Try.prog 6).k = K.int IntKind.u8 := by kernel_rfl
@[simp] theorem t6_size : (ti Proofs.Try.prog 6).size = 1 := by kernel_rfl
@[simp] theorem t6_bytes : (ti Proofs.Try.prog 6).bytes = 1 := by kernel_rfl
@[simp] theorem t6_agg : (ti Proofs.Try.prog 6).agg = false := by kernel_rfl
@[simp] theorem t6_zero : (ti Proofs.Try.prog 6).zero = [Value.int IntKind.u8 0] := by kernel_rfl
@[simp] theorem t7_ok : (ti Proofs.Try.prog 7).ok = true := by kernel_rfl
@[simp] theorem t7_k : (ti Proofs.Try.prog 7).k = K.struct := by kernel_rfl
@[simp] theorem t7_size : (ti Proofs.Try.prog 7).size = 4 := by kernel_rfl
@[simp] theorem t7_bytes : (ti Proofs.Try.prog 7).bytes = 24 := by kernel_rfl
@[simp] theorem t7_agg : (ti Proofs.Try.prog 7).agg = true := by kernel_rfl
@[simp] theorem t7_zero : (ti Proofs.Try.prog 7).zero = [Value.int IntKind.i64 0, Value.int IntKind.i64 0, Value.bool false, Value.int IntKind.u8 0] := by kernel_rfl
@[simp] theorem t7_flds : (ti Proofs.Try.prog 7).flds = [(0, 1), (1, 1), (2, 1), (3, 1)] := by kernel_rfl
@[simp] theorem t7_eq : eqT Proofs.Try.prog 7 = some [K.int IntKind.i64, K.int IntKind.i64, K.bool, K.int IntKind.u8] := by kernel_rfl
@[simp] theorem t8_ok : (ti Proofs.Try.prog 8).ok = true := by kernel_rfl
@[simp] theorem t8_k : (ti Proofs.Try.prog 8).k = K.struct := by kernel_rfl
@[simp] theorem t8_size : (ti Proofs.Try.prog 8).size = 4 := by kernel_rfl
@[simp] theorem t8_bytes : (ti Proofs.Try.prog 8).bytes = 24 := by kernel_rfl
@[simp] theorem t8_agg : (ti Proofs.Try.prog 8).agg = true := by kernel_rfl
@[simp] theorem t8_zero : (ti Proofs.Try.prog 8).zero = [Value.int IntKind.i64 0, Value.int IntKind.i64 0, Value.bool false, Value.int IntKind.u8 0] := by kernel_rfl
@[simp] theorem t8_flds : (ti Proofs.Try.prog 8).flds = [(0, 1), (1, 1), (2, 1), (3, 1)] := by kernel_rfl
@[simp] theorem t8_eq : eqT Proofs.Try.prog 8 = some [K.int IntKind.i64, K.int IntKind.i64, K.bool, K.int IntKind.u8] := by kernel_rfl
@[simp] theorem t9_ok : (ti Proofs.Try.prog 9).ok = true := by kernel_rfl
@[simp] theorem t9_k : (ti Proofs.Try.prog 9).k = K.string := by kernel_rfl
@[simp] theorem t9_size : (ti Proofs.Try.prog 9).size = 1 := by kernel_rfl
@[simp] theorem t9_bytes : (ti Proofs.Try.prog 9).bytes = 16 := by kernel_rfl
@[simp] theorem t9_agg : (ti Proofs.Try.prog 9).agg = false := by kernel_rfl
@[simp] theorem t9_zero : (ti Proofs.Try.prog 9).zero = [Value.string ⟨#[]⟩] := by kernel_rfl
@[simp] theorem t10_ok : (ti Proofs.Try.prog 10).ok = true := by kernel_rfl
@[simp] theorem t10_k : (ti Proofs.Try.prog 10).k = K.string := by kernel_rfl
@[simp] theorem t10_size : (ti Proofs.Try.prog 10).size = 1 := by kernel_rfl
@[simp] theorem t10_bytes : (ti Proofs.Try.prog 10).bytes = 16 := by kernel_rfl
@[simp] theorem t10_agg : (ti Proofs.Try.prog 10).agg = false := by kernel_rfl
@[simp] theorem t10_zero : (ti Proofs.Try.prog 10).zero = [Value.string ⟨#[]⟩] := by kernel_rfl
@[simp] theorem t11_ok : (ti Proofs.Try.prog 11).ok = true := by kernel_rfl
@[simp] theorem t11_k : (ti Proofs.Try.prog 11).k = K.string := by kernel_rfl
@[simp] theorem t11_size : (ti Proofs.Try.prog 11).size = 1 := by kernel_rfl
@[simp] theorem t11_bytes : (ti Proofs.Try.prog 11).bytes = 16 := by kernel_rfl
@[simp] theorem t11_agg : (ti Proofs.Try.prog 11).agg = false := by kernel_rfl
@[simp] theorem t11_zero : (ti Proofs.Try.prog 11).zero = [Value.string ⟨#[]⟩] := by kernel_rfl
@[simp] theorem t12_ok : (ti Proofs.Try.prog 12).ok = true := by kernel_rfl
@[simp] theorem t12_k : (ti Proofs.Try.prog 12).k = K.int IntKind.u64 := by kernel_rfl
@[simp] theorem t12_size : (ti Proofs.Try.prog 12).size = 1 := by kernel_rfl
@[simp] theorem t12_bytes : (ti Proofs.Try.prog 12).bytes = 8 := by kernel_rfl
@[simp] theorem t12_agg : (ti Proofs.Try.prog 12).agg = false := by kernel_rfl
@[simp] theorem t12_zero : (ti Proofs.Try.prog 12).zero = [Value.int IntKind.u64 0] := by kernel_rfl
@[simp] theorem t13_ok : (ti Proofs.Try.prog 13).ok = true := by kernel_rfl
@[simp] theorem t13_k : (ti Proofs.Try.prog 13).k = K.struct := by kernel_rfl
@[simp] theorem t13_size : (ti Proofs.Try.prog 13).size = 2 := by kernel_rfl
@[simp] theorem t13_bytes : (ti Proofs.Try.prog 13).bytes = 24 := by kernel_rfl
@[simp] theorem t13_agg : (ti Proofs.Try.prog 13).agg = true := by kernel_rfl
@[simp] theorem t13_zero : (ti Proofs.Try.prog 13).zero = [Value.string ⟨#[]⟩, Value.int IntKind.u64 0] := by kernel_rfl
@[simp] theorem t13_flds : (ti Proofs.Try.prog 13).flds = [(0, 1), (1, 1)] := by kernel_rfl
@[simp] theorem t14_ok : (ti Proofs.Try.prog 14).ok = true := by kernel_rfl
@[simp] theorem t14_k : (ti Proofs.Try.prog 14).k = K.struct := by kernel_rfl
@[simp] theorem t14_size : (ti Proofs.Try.prog 14).size = 2 := by kernel_rfl
@[simp] theorem t14_bytes : (ti Proofs.Try.prog 14).bytes = 24 := by kernel_rfl
@[simp] theorem t14_agg : (ti Proofs.Try.prog 14).agg = true := by kernel_rfl
@[simp] theorem t14_zero : (ti Proofs.Try.prog 14).zero = [Value.string ⟨#[]⟩, Value.int IntKind.u64 0] := by kernel_rfl
@[simp] theorem t14_flds : (ti Proofs.Try.prog 14).flds = [(0, 1), (1, 1)] := by kernel_rfl
@[simp] theorem t15_ok : (ti Proofs.Try.prog 15).ok = true := by kernel_rfl
@[simp] theorem t15_k : (ti Proofs.Try.prog 15).k = K.pointer := by kernel_rfl
@[simp] theorem t15_size : (ti Proofs.Try.prog 15).size = 1 := by kernel_rfl
@[simp] theorem t15_bytes : (ti Proofs.Try.prog 15).bytes = 8 := by kernel_rfl
@[simp] theorem t15_agg : (ti Proofs.Try.prog 15).agg = false := by kernel_rfl
@[simp] theorem t15_zero : (ti Proofs.Try.prog 15).zero = [Value.pointer none] := by kernel_rfl
@[simp] theorem t16_ok : (ti Proofs.Try.prog 16).ok = true := by kernel_rfl
@[simp] theorem t16_k : (ti Proofs.Try.prog 16).k = K.pointer := by kernel_rfl
@[simp] theorem t16_size : (ti Proofs.Try.prog 16).size = 1 := by kernel_rfl
@[simp] theorem t16_bytes : (ti Proofs.Try.prog 16).bytes = 8 := by kernel_rfl
@[simp] theorem t16_agg : (ti Proofs.Try.prog 16).agg = false := by kernel_rfl
@[simp] theorem t16_zero : (ti Proofs.Try.prog 16).zero = [Value.pointer none] := by kernel_rfl
@[simp] theorem t17_ok : (ti Proofs.Try.prog 17).ok = true := by kernel_rfl
@[simp] theorem t17_k : (ti Proofs.Try.prog 17).k = K.pointer := by kernel_rfl
@[simp] theorem t17_size : (ti Proofs.Try.prog 17).size = 1 := by kernel_rfl
@[simp] theorem t17_bytes : (ti Proofs.Try.prog 17).bytes = 8 := by kernel_rfl
@[simp] theorem t17_agg : (ti Proofs.Try.prog 17).agg = false := by kernel_rfl
@[simp] theorem t17_zero : (ti Proofs.Try.prog 17).zero = [Value.pointer none] := by kernel_rfl
@[simp] theorem t18_ok : (ti Proofs.Try.prog 18).ok = true := by kernel_rfl
@[simp] theorem t18_k : (ti Proofs.Try.prog 18).k = K.struct := by kernel_rfl
@[simp] theorem t18_size : (ti Proofs.Try.prog 18).size = 1 := by kernel_rfl
@[simp] theorem t18_bytes : (ti Proofs.Try.prog 18).bytes = 8 := by kernel_rfl
@[simp] theorem t18_agg : (ti Proofs.Try.prog 18).agg = true := by kernel_rfl
@[simp] theorem t18_zero : (ti Proofs.Try.prog 18).zero = [Value.pointer none] := by kernel_rfl
@[simp] theorem t18_flds : (ti Proofs.Try.prog 18).flds = [(0, 1)] := by kernel_rfl
@[simp] theorem t19_ok : (ti Proofs.Try.prog 19).ok = true := by kernel_rfl
@[simp] theorem t19_k : (ti Proofs.Try.prog 19).k = K.struct := by kernel_rfl
@[simp] theorem t19_size : (ti Proofs.Try.prog 19).size = 1 := by kernel_rfl
@[simp] theorem t19_bytes : (ti Proofs.Try.prog 19).bytes = 8 := by kernel_rfl
@[simp] theorem t19_agg : (ti Proofs.Try.prog 19).agg = true := by kernel_rfl
@[simp] theorem t19_zero : (ti Proofs.Try.prog 19).zero = [Value.pointer none] := by kernel_rfl
@[simp] theorem t19_flds : (ti Proofs.Try.prog 19).flds = [(0, 1)] := by kernel_rfl
@[simp] theorem t20_ok : (ti Proofs.Try.prog 20).ok = true := by kernel_rfl
@[simp] theorem t20_k : (ti Proofs.Try.prog 20).k = K.iface := by kernel_rfl
@[simp] theorem t20_size : (ti Proofs.Try.prog 20).size = 1 := by kernel_rfl
@[simp] theorem t20_bytes : (ti Proofs.Try.prog 20).bytes = 16 := by kernel_rfl
@[simp] theorem t20_agg : (ti Proofs.Try.prog 20).agg = false := by kernel_rfl
@[simp] theorem t20_zero : (ti Proofs.Try.prog 20).zero = [Value.nilIface] := by kernel_rfl
@[simp] theorem t21_ok : (ti Proofs.Try.prog 21).ok = true := by kernel_rfl
@[simp] theorem t21_k : (ti Proofs.Try.prog 21).k = K.int IntKind.i32 := by kernel_rfl
@[simp] theorem t21_size : (ti Proofs.Try.prog 21).size = 1 := by kernel_rfl
@[simp] theorem t21_bytes : (ti Proofs.Try.prog 21).bytes = 4 := by kernel_rfl
@[simp] theorem t21_agg : (ti Proofs.Try.prog 21).agg = false := by kernel_rfl
@[simp] theorem t21_zero : (ti Proofs.Try.prog 21).zero = [Value.int IntKind.i32 0] := by kernel_rfl
@[simp] theorem t22_ok : (ti Proofs.Try.prog 22).ok = true := by kernel_rfl
@[simp] theorem t22_k : (ti Proofs.Try.prog 22).k = K.slice 43 := by kernel_rfl
@[simp] theorem t22_size : (ti Proofs.Try.prog 22).size = 1 := by kernel_rfl
@[simp] theorem t22_bytes : (ti Proofs.Try.prog 22).bytes = 24 := by kernel_rfl
@[simp] theorem t22_agg : (ti Proofs.Try.prog 22).agg = false := by kernel_rfl
@[simp] theorem t22_zero : (ti Proofs.Try.prog 22).zero = [Value.slice none 0 0] := by kernel_rfl
@[simp] theorem t23_ok : (ti Proofs.Try.prog 23).ok = true := by kernel_rfl
@[simp] theorem t23_k : (ti Proofs.Try.prog 23).k = K.other := by kernel_rfl
@[simp] theorem t23_size : (ti Proofs.Try.prog 23).size = 1 := by kernel_rfl
@[simp] theorem t23_bytes : (ti Proofs.Try.prog 23).bytes = 8 := by kernel_rfl
@[simp] theorem t23_agg : (ti Proofs.Try.prog 23).agg = false := by kernel_rfl
@[simp] theorem t23_zero : (ti Proofs.Try.prog 23).zero = [Value.nilFunc] := by kernel_rfl
@[simp] theorem t24_ok : (ti Proofs.Try.prog 24).ok = true := by kernel_rfl
@[simp] theorem t24_k : (ti Proofs.Try.prog 24).k = K.other := by kernel_rfl
@[simp] theorem t24_size : (ti Proofs.Try.prog 24).size = 1 := by kernel_rfl
@[simp] theorem t24_bytes : (ti Proofs.Try.prog 24).bytes = 8 := by kernel_rfl
@[simp] theorem t24_agg : (ti Proofs.Try.prog 24).agg = false := by kernel_rfl
@[simp] theorem t24_zero : (ti Proofs.Try.prog 24).zero = [Value.nilFunc] := by kernel_rfl
@[simp] theorem t25_ok : (ti Proofs.Try.prog 25).ok = true := by kernel_rfl
@[simp] theorem t25_k : (ti Proofs.Try.prog 25).k = K.slice 33 := by kernel_rfl
@[simp] theorem t25_size : (ti Proofs.Try.prog 25).size = 1 := by kernel_rfl
@[simp] theorem t25_bytes : (ti Proofs.Try.prog 25).bytes = 24 := by kernel_rfl
@[simp] theorem t25_agg : (ti Proofs.Try.prog 25).agg = false := by kernel_rfl
@[simp] theorem t25_zero : (ti Proofs.Try.prog 25).zero = [Value.slice none 0 0] := by kernel_rfl
@[simp] theorem t26_ok : (ti Proofs.Try.prog 26).ok = true := by kernel_rfl
@[simp] theorem t26_k : (ti Proofs.Try.prog 26).k = K.slice 46 := by kernel_rfl
@[simp] theorem t26_size : (ti Proofs.Try.prog 26).size = 1 := by kernel_rfl
@[simp] theorem t26_bytes : (ti Proofs.Try.prog 26).bytes = 24 := by kernel_rfl
@[simp] theorem t26_agg : (ti Proofs.Try.prog 26).agg = false := by kernel_rfl
@[simp] theorem t26_zero : (ti Proofs.Try.prog 26).zero = [Value.slice none 0 0] := by kernel_rfl
@[simp] theorem t27_ok : (ti Proofs.Try.prog 27).ok = true := by kernel_rfl
@[simp] theorem t27_k : (ti Proofs.Try.prog 27).k = K.slice 131 := by kernel_rfl
@[simp] theorem t27_size : (ti Proofs.Try.prog 27).size = 1 := by kernel_rfl
@[simp] theorem t27_bytes : (ti Proofs.Try.prog 27).bytes = 24 := by kernel_rfl
@[simp] theorem t27_agg : (ti Proofs.Try.prog 27).agg = false := by kernel_rfl
@[simp] theorem t27_zero : (ti Proofs.Try.prog 27).zero = [Value.slice none 0 0] := by kernel_rfl
@[simp] theorem t28_ok : (ti Proofs.Try.prog 28).ok = true := by kernel_rfl
@[simp] theorem t28_k : (ti Proofs.Try.prog 28).k = K.slice 136 := by kernel_rfl
@[simp] theorem t28_size : (ti Proofs.Try.prog 28).size = 1 := by kernel_rfl
@[simp] theorem t28_bytes : (ti Proofs.Try.prog 28).bytes = 24 := by kernel_rfl
@[simp] theorem t28_agg : (ti Proofs.Try.prog 28).agg = false := by kernel_rfl
@[simp] theorem t28_zero : (ti Proofs.Try.prog 28).zero = [Value.slice none 0 0] := by kernel_rfl
@[simp] theorem t29_ok : (ti Proofs.Try.prog 29).ok = true := by kernel_rfl
@[simp] theorem t29_k : (ti Proofs.Try.prog 29).k = K.struct := by kernel_rfl
@[simp] theorem t29_size : (ti Proofs.Try.prog 29).size = 5 := by kernel_rfl
@[simp] theorem t29_bytes : (ti Proofs.Try.prog 29).bytes = 104 := by kernel_rfl
@[simp] theorem t29_agg : (ti Proofs.Try.prog 29).agg = true := by kernel_rfl
@[simp] theorem t29_zero : (ti Proofs.Try.prog 29).zero = [Value.slice none 0 0, Value.slice none 0 0, Value.slice none 0 0, Value.slice none 0 0, Value.int IntKind.i64 0] := by kernel_rfl
@[simp] theorem t29_flds : (ti Proofs.Try.prog 29).flds = [(0, 1), (1, 1), (2, 1), (3, 1), (4, 1)] := by kernel_rfl
@[simp] theorem t30_ok : (ti Proofs.Try.prog 30).ok = true := by kernel_rfl
@[simp] theorem t30_k : (ti Proofs.Try.prog 30).k = K.struct := by kernel_rfl
@[simp] theorem t30_size : (ti Proofs.Try.prog 30).size = 5 := by kernel_rfl
@[simp] theorem t30_bytes : (ti Proofs.Try.prog 30).bytes = 104 := by kernel_rfl
@[simp] theorem t30_agg : (ti Proofs.Try.prog 30).agg = true := by kernel_rfl
@[simp] theorem t30_zero : (ti Proofs.Try.prog 30).zero = [Value.slice none 0 0, Value.slice none 0 0, Value.slice none 0 0, Value.slice none 0 0, Value.int IntKind.i64 0] := by kernel_rfl
@[simp] theorem t30_flds : (ti Proofs.Try.prog 30).flds = [(0, 1), (1, 1), (2, 1), (3, 1), (4, 1)] := by kernel_rfl
@[simp] theorem t31_ok : (ti Proofs.Try.prog 31).ok = true := by kernel_rfl
@[simp] theorem t31_k : (ti Proofs.Try.prog 31).k = K.other := by kernel_rfl
@[simp] theorem t31_size : (ti Proofs.Try.prog 31).size = 1 := by kernel_rfl
@[simp] theorem t31_bytes : (ti Proofs.Try.prog 31).bytes = 8 := by kernel_rfl
@[simp] theorem t31_agg : (ti Proofs.Try.prog 31).agg = false := by kernel_rfl
@[simp] theorem t31_zero : (ti Proofs.Try.prog 31).zero = [Value.nilFunc] := by kernel_rfl
@[simp] theorem t32_ok : (ti Proofs.Try.prog 32).ok = true := by kernel_rfl
@[simp] theorem t32_k : (ti Proofs.Try.prog 32).k = K.struct := by kernel_rfl
@[simp] theorem t32_size : (ti Proofs.Try.prog 32).size = 5 := by kernel_rfl
@[simp] theorem t32_bytes : (ti Proofs.Try.prog 32).bytes = 40 := by kernel_rfl
@[simp] theorem t32_agg : (ti Proofs.Try.prog 32).agg = true := by kernel_rfl
@[simp] theorem t32_zero : (ti Proofs.Try.prog 32).zero = [Value.int IntKind.i64 0, Value.int IntKind.i64 0, Value.string ⟨#[]⟩, Value.bool false, Value.bool false] := by kernel_rfl
@[simp] theorem t32_flds : (ti Proofs.Try.prog 32).flds = [(0, 1), (1, 1), (2, 1), (3, 1), (4, 1)] := by kernel_rfl
@[simp] theorem t32_eq : eqT Proofs.Try.prog 32 = some [K.int IntKind.i64, K.int IntKind.i64, K.string, K.bool, K.bool] := by kernel_rfl
@[simp] theorem t33_ok : (ti Proofs.Try.prog 33).ok = true := by kernel_rfl
@[simp] theorem t33_k : (ti Proofs.Try.prog 33).k = K.struct := by kernel_rfl
@[simp] theorem t33_size : (ti Proofs.Try.prog 33).size = 5 := by kernel_rfl
@[simp] theorem t33_bytes : (ti Proofs.Try.prog 33).bytes = 40 := by kernel_rfl
@[simp] theorem t33_agg : (ti Proofs.Try.prog 33).agg = true := by kernel_rfl
@[simp] theorem t33_zero : (ti Proofs.Try.prog 33).zero = [Value.int IntKind.i64 0, Value.int IntKind.i64 0, Value.string ⟨#[]⟩, Value.bool false, Value.bool false] := by kernel_rfl
@[simp] theorem t33_flds : (ti Proofs.Try.prog 33).flds = [(0, 1), (1, 1), (2, 1), (3, 1), (4, 1)] := by kernel_rfl
@[simp] theorem t33_eq : eqT Proofs.Try.prog 33 = some [K.int IntKind.i64, K.int IntKind.i64, K.string, K.bool, K.bool] := by kernel_rfl
@[simp] theorem t34_ok : (ti Proofs.Try.prog 34).ok = true := by kernel_rfl
@[simp] theorem t34_k : (ti Proofs.Try.prog 34).k = K.int IntKind.u64 := by kernel_rfl
@[simp] theorem t34_size : (ti Proofs.Try.prog 34).size = 1 := by kernel_rfl
@[simp] theorem t34_bytes : (ti Proofs.Try.prog 34).bytes = 8 := by kernel_rfl
@[simp] theorem t34_agg : (ti Proofs.Try.prog 34).agg = false := by kernel_rfl
@[simp] theorem t34_zero : (ti Proofs.Try.prog 34).zero = [Value.int IntKind.u64 0] := by kernel_rfl
@[simp] theorem t35_ok : (ti Proofs.Try.prog 35).ok = true := by kernel_rfl
@[simp] theorem t35_k : (ti Proofs.Try.prog 35).k = K.int IntKind.i64 := by kernel_rfl
@[simp] theorem t35_size : (ti Proofs.Try.prog 35).size = 1 := by kernel_rfl
@[simp] theorem t35_bytes : (ti Proofs.Try.prog 35).bytes = 8 := by kernel_rfl
@[simp] theorem t35_agg : (ti Proofs.Try.prog 35).agg = false := by kernel_rfl
@[simp] theorem t35_zero : (ti Proofs.Try.prog 35).zero = [Value.int IntKind.i64 0] := by kernel_rfl
@[simp] theorem t37_ok : (ti Proofs.Try.prog 37).ok = true := by kernel_rfl
@[simp] theorem t37_k : (ti Proofs.Try.prog 37).k = K.other := by kernel_rfl
@[simp] theorem t37_size : (ti Proofs.Try.prog 37).size = 1 := by kernel_rfl
@[simp] theorem t37_bytes : (ti Proofs.Try.prog 37).bytes = 8 := by kernel_rfl
@[simp] theorem t37_agg : (ti Proofs.Try.prog 37).agg = false := by kernel_rfl
@[simp] theorem t37_zero : (ti Proofs.Try.prog 37).zero = [Value.nilFunc] := by kernel_rfl
@[simp] theorem t38_ok : (ti Proofs.Try.prog 38).ok = true := by kernel_rfl
@[simp] theorem t38_k : (ti Proofs.Try.prog 38).k = K.other := by kernel_rfl
@[simp] theorem t38_size : (ti Proofs.Try.prog 38).size = 1 := by kernel_rfl
@[simp] theorem t38_bytes : (ti Proofs.Try.prog 38).bytes = 8 := by kernel_rfl
@[simp] theorem t38_agg : (ti Proofs.Try.prog 38).agg = false := by kernel_rfl
@[simp] theorem t38_zero : (ti Proofs.Try.prog 38).zero = [Value.nilFunc] := by kernel_rfl
@[simp] theorem t39_ok : (ti Proofs.Try.prog 39).ok = true := by kernel_rfl
@[simp] theorem t39_k : (ti Proofs.Try.prog 39).k = K.other := by kernel_rfl
@[simp] theorem t39_size : (ti Proofs.Try.prog 39).size = 1 := by kernel_rfl
@[simp] theorem t39_bytes : (ti Proofs.Try.prog 39).bytes = 8 := by kernel_rfl
@[simp] theorem t39_agg : (ti Proofs.Try.prog 39).agg = false := by kernel_rfl
@[simp] theorem t39_zero : (ti Proofs.Try.prog 39).zero = [Value.nilFunc] := by kernel_rfl
@[simp] theorem t40_ok : (ti Proofs.Try.prog 40).ok = true := by kernel_rfl
@[simp] theorem t40_k : (ti Proofs.Try.prog 40).k = K.other := by kernel_rfl
@[simp] theorem t40_size : (ti Proofs.Try.prog 40).size = 1 := by kernel_rfl
@[simp] theorem t40_bytes : (ti Proofs.Try.prog 40).bytes = 8 := by kernel_rfl
@[simp] theorem t40_agg : (ti Proofs.Try.prog 40).agg = false := by kernel_rfl
@[simp] theorem t40_zero : (ti Proofs.Try.prog 40).zero = [Value.nilFunc] := by kernel_rfl
@[simp] theorem t41_ok : (ti Proofs.Try.prog 41).ok = true := by kernel_rfl
@[simp] theorem t41_k : (ti Proofs.Try.prog 41).k = K.slice 3 := by kernel_rfl
@[simp] theorem t41_size : (ti Proofs.Try.prog 41).size = 1 := by kernel_rfl
@[simp] theorem t41_bytes : (ti Proofs.Try.prog 41).bytes = 24 := by kernel_rfl
@[simp] theorem t41_agg : (ti Proofs.Try.prog 41).agg = false := by kernel_rfl
@[simp] theorem t41_zero : (ti Proofs.Try.prog 41).zero = [Value.slice none 0 0] := by kernel_rfl
@[simp] theorem t42_ok : (ti Proofs.Try.prog 42).ok = true := by kernel_rfl
@[simp] theorem t42_k : (ti Proofs.Try.prog 42).k = K.struct := by kernel_rfl
@[simp] theorem t42_size : (ti Proofs.Try.prog 42).size = 18 := by kernel_rfl
@[simp] theorem t42_bytes : (ti Proofs.Try.prog 42).bytes = 240 := by kernel_rfl
@[simp] theorem t42_agg : (ti Proofs.Try.prog 42).agg = true := by kernel_rfl
@[simp] theorem t42_zero : (ti Proofs.Try.prog 42).zero = [Value.int IntKind.i64 0, Value.int IntKind.i64 0, Value.int IntKind.i64 0, Value.int IntKind.i64 0, Value.int IntKind.i64 0, Value.int IntKind.i64 0, Value.int IntKind.i64 0, Value.int IntKind.i64 0, Value.int IntKind.i64 0, Value.bool false, Value.string ⟨#[]⟩, Value.string ⟨#[]⟩, Value.string ⟨#[]⟩, Value.string ⟨#[]⟩, Value.slice none 0 0, Value.slice none 0 0, Value.slice none 0 0, Value.slice none 0 0] := by kernel_rfl
@[simp] theorem t42_flds : (ti Proofs.Try.prog 42).flds = [(0, 1), (1, 1), (2, 1), (3, 1), (4, 1), (5, 1), (6, 1), (7, 1), (8, 1), (9, 1), (10, 1), (11, 1), (12, 1), (13, 1),   (14, 1), (15, 1), (16, 1), (17, 1)] := by kernel_rfl
@[simp] theorem t43_ok : (ti Proofs.Try.prog 43).ok = true := by kernel_rfl
@[simp] theorem t43_k : (ti Proofs.Try.prog 43).k = K.struct := by kernel_rfl
@[simp] theorem t43_size : (ti Proofs.Try.prog 43).size = 18 := by kernel_rfl
@[simp] theorem t43_bytes : (ti Proofs.Try.prog 43).bytes = 240 := by kernel_rfl
@[simp] theorem t43_agg : (ti Proofs.Try.prog 43).agg = true := by kernel_rfl
@[simp] theorem t43_zero : (ti Proofs.Try.prog 43).zero = [Value.int IntKind.i64 0, Value.int IntKind.i64 0, Value.int IntKind.i64 0, Value.int IntKind.i64 0, Value.int IntKind.i64 0, Value.int IntKind.i64 0, Value.int IntKind.i64 0, Value.int IntKind.i64 0, Value.int IntKind.i64 0, Value.bool false, Value.string ⟨#[]⟩, Value.string ⟨#[]⟩, Value.string ⟨#[]⟩, Value.string ⟨#[]⟩, Value.slice none 0 0, Value.slice none 0 0, Value.slice none 0 0, Value.slice none 0 0] := by kernel_rfl
@[simp] theorem t43_flds : (ti Proofs.Try.prog 43).flds = [(0, 1), (1, 1), (2, 1), (3, 1), (4, 1), (5, 1), (6, 1), (7, 1), (8, 1), (9, 1), (10, 1), (11, 1), (12, 1), (13, 1),   (14, 1), (15, 1), (16, 1), (17, 1)] := by kernel_rfl
@[simp] theorem t44_ok : (ti Proofs.Try.prog 44).ok = true := by kernel_rfl
@[simp] theorem t44_k : (ti Proofs.Try.prog 44).k = K.slice 48 := by kernel_rfl
@[simp] theorem t44_size : (ti Proofs.Try.prog 44).size = 1 := by kernel_rfl
@[simp] theorem t44_bytes : (ti Proofs.Try.prog 44).bytes = 24 := by kernel_rfl
@[simp] theorem t44_agg : (ti Proofs.Try.prog 44).agg = false := by kernel_rfl
@[simp] theorem t44_zero : (ti Proofs.Try.prog 44).zero = [Value.slice none 0 0] := by kernel_rfl
@[simp] theorem t45_ok : (ti Proofs.Try.prog 45).ok = true := by kernel_rfl
@[simp] theorem t45_k : (ti Proofs.Try.prog 45).k = K.struct := by kernel_rfl
@[simp] theorem t45_size : (ti Proofs.Try.prog 45).size = 3 := by kernel_rfl
@[simp] theorem t45_bytes : (ti Proofs.Try.prog 45).bytes = 48 := by kernel_rfl
@[simp] theorem t45_agg : (ti Proofs.Try.prog 45).agg = true := by kernel_rfl
@[simp] theorem t45_zero : (ti Proofs.Try.prog 45).zero = [Value.int IntKind.i64 0, Value.string ⟨#[]⟩, Value.slice none 0 0] := by kernel_rfl
@[simp] theorem t45_flds : (ti Proofs.Try.prog 45).flds = [(0, 1), (1, 1), (2, 1)] := by kernel_rfl
@[simp] theorem t46_ok : (ti Proofs.Try.prog 46).ok = true := by kernel_rfl
@[simp] theorem t46_k : (ti Proofs.Try.prog 46).k = K.struct := by kernel_rfl
@[simp] theorem t46_size : (ti Proofs.Try.prog 46).size = 3 := by kernel_rfl
@[simp] theorem t46_bytes : (ti Proofs.Try.prog 46).bytes = 48 := by kernel_rfl
@[simp] theorem t46_agg : (ti Proofs.Try.prog 46).agg = true := by kernel_rfl
@[simp] theorem t46_zero : (ti Proofs.Try.prog 46).zero = [Value.int IntKind.i64 0, Value.string ⟨#[]⟩, Value.slice none 0 0] := by kernel_rfl
@[simp] theorem t46_flds : (ti Proofs.Try.prog 46).flds = [(0, 1), (1, 1), (2, 1)] := by kernel_rfl
@[simp] theorem t47_ok : (ti Proofs.Try.prog 47).ok = true := by kernel_rfl
@[simp] theorem t47_k : (ti Proofs.Try.prog 47).k = K.struct := by kernel_rfl
@[simp] theorem t47_size : (ti Proofs.Try.prog 47).size = 6 := by kernel_rfl
@[simp] theorem t47_bytes : (ti Proofs.Try.prog 47).bytes = 112 := by kernel_rfl
@[simp] theorem t47_agg : (ti Proofs.Try.prog 47).agg = true := by kernel_rfl
@[simp] theorem t47_zero : (ti Proofs.Try.prog 47).zero = [Value.slice none 0 0, Value.slice none 0 0, Value.int IntKind.i64 0, Value.int IntKind.i64 0, Value.slice none 0 0, Value.slice none 0 0] := by kernel_rfl
@[simp] theorem t47_flds : (ti Proofs.Try.prog 47).flds = [(0, 1), (1, 1), (2, 1), (3, 1), (4, 1), (5, 1)] := by kernel_rfl
@[simp] theorem t48_ok : (ti Proofs.Try.prog 48).ok = true := by kernel_rfl
@[simp] theorem t48_k : (ti Proofs.Try.prog 48).k = K.struct := by kernel_rfl
@[simp] theorem t48_size : (ti Proofs.Try.prog 48).size = 6 := by kernel_rfl
@[simp] theorem t48_bytes : (ti Proofs.Try.prog 48).bytes = 112 := by kernel_rfl
@[simp] theorem t48_agg : (ti Proofs.Try.prog 48).agg = true := by kernel_rfl
@[simp] theorem t48_zero : (ti Proofs.Try.prog 48).zero = [Value.slice none 0 0, Value.slice none 0 0, Value.int IntKind.i64 0, Value.int IntKind.i64 0, Value.slice none 0 0, Value.slice none 0 0] := by kernel_rfl
@[simp] theorem t48_flds : (ti Proofs.Try.prog 48).flds = [(0, 1), (1, 1), (2, 1), (3, 1), (4, 1), (5, 1)] := by kernel_rfl
@[simp] theorem t49_ok : (ti Proofs.Try.prog 49).ok = true := by kernel_rfl
@[simp] theorem t49_k : (ti Proofs.Try.prog 49).k = K.other := by kernel_rfl
@[simp] theorem t49_size : (ti Proofs.Try.prog 49).size = 1 := by kernel_rfl
@[simp] theorem t49_bytes : (ti Proofs.Try.prog 49).bytes = 8 := by kernel_rfl
@[simp] theorem t49_agg : (ti Proofs.Try.prog 49).agg = false := by kernel_rfl
@[simp] theorem t49_zero : (ti Proofs.Try.prog 49).zero = [Value.nilFunc] := by kernel_rfl
@[simp] theorem t50_ok : (ti Proofs.Try.prog 50).ok = true := by kernel_rfl
@[simp] theorem t50_k : (ti Proofs.Try.prog 50).k = K.other := by kernel_rfl
@[simp] theorem t50_size : (ti Proofs.Try.prog 50).size = 1 := by kernel_rfl
@[simp] theorem t50_bytes : (ti Proofs.Try.prog 50).bytes = 8 := by kernel_rfl
@[simp] theorem t50_agg : (ti Proofs.Try.prog 50).agg = false := by kernel_rfl
@[simp] theorem t50_zero : (ti Proofs.Try.prog 50).zero = [Value.nilFunc] := by kernel_rfl
@[simp] theorem t51_ok : (ti Proofs.Try.prog 51).ok = true := by kernel_rfl
@[simp] theorem t51_k : (ti Proofs.Try.prog 51).k = K.other := by kernel_rfl
@[simp] theorem t51_size : (ti Proofs.Try.prog 51).size = 1 := by kernel_rfl
@[simp] theorem t51_bytes : (ti Proofs.Try.prog 51).bytes = 8 := by kernel_rfl
@[simp] theorem t51_agg : (ti Proofs.Try.prog 51).agg = false := by kernel_rfl
@[simp] theorem t51_zero : (ti Proofs.Try.prog 51).zero = [Value.nilFunc] := by kernel_rfl
@[simp] theorem t53_ok : (ti Proofs.Try.prog 53).ok = true := by kernel_rfl
@[simp] theorem t53_k : (ti Proofs.Try.prog 53).k = K.other := by kernel_rfl
@[simp] theorem t53_size : (ti Proofs.Try.prog 53).size = 1 := by kernel_rfl
@[simp] theorem t53_bytes : (ti Proofs.Try.prog 53).bytes = 8 := by kernel_rfl
@[simp] theorem t53_agg : (ti Proofs.Try.prog 53).agg = false := by kernel_rfl
@[simp] theorem t53_zero : (ti Proofs.Try.prog 53).zero = [Value.nilFunc] := by kernel_rfl
@[simp] theorem t54_ok : (ti Proofs.Try.prog 54).ok = true := by kernel_rfl
@[simp] theorem t54_k : (ti Proofs.Try.prog 54).k = K.iface := by kernel_rfl
@[simp] theorem t54_size : (ti Proofs.Try.prog 54).size = 1 := by kernel_rfl
@[simp] theorem t54_bytes : (ti Proofs.Try.prog 54).bytes = 16 := by kernel_rfl
@[simp] theorem t54_agg : (ti Proofs.Try.prog 54).agg = false := by kernel_rfl
@[simp] theorem t54_zero : (ti Proofs.Try.prog 54).zero = [Value.nilIface] := by kernel_rfl
@[simp] theorem t55_ok : (ti Proofs.Try.prog 55).ok = true := by kernel_rfl
@[simp] theorem t55_k : (ti Proofs.Try.prog 55).k = K.iface := by kernel_rfl
@[simp] theorem t55_size : (ti Proofs.Try.prog 55).size = 1 := by kernel_rfl
@[simp] theorem t55_bytes : (ti Proofs.Try.prog 55).bytes = 16 := by kernel_rfl
@[simp] theorem t55_agg : (ti Proofs.Try.prog 55).agg = false := by kernel_rfl
@[simp] theorem t55_zero : (ti Proofs.Try.prog 55).zero = [Value.nilIface] := by kernel_rfl
@[simp] theorem t57_ok : (ti Proofs.Try.prog 57).ok = true := by kernel_rfl
@[simp] theorem t57_k : (ti Proofs.Try.prog 57).k = K.other := by kernel_rfl
@[simp] theorem t57_size : (ti Proofs.Try.prog 57).size = 1 := by kernel_rfl
@[simp] theorem t57_bytes : (ti Proofs.Try.prog 57).bytes = 8 := by kernel_rfl
@[simp] theorem t57_agg : (ti Proofs.Try.prog 57).agg = false := by kernel_rfl
@[simp] theorem t57_zero : (ti Proofs.Try.prog 57).zero = [Value.nilFunc] := by kernel_rfl
@[simp] theorem t58_ok : (ti Proofs.Try.prog 58).ok = true := by kernel_rfl
@[simp] theorem t58_k : (ti Proofs.Try.prog 58).k = K.other := by kernel_rfl
@[simp] theorem t58_size : (ti Proofs.Try.prog 58).size = 1 := by kernel_rfl
@[simp] theorem t58_bytes : (ti Proofs.Try.prog 58).bytes = 8 := by kernel_rfl
@[simp] theorem t58_agg : (ti Proofs.Try.prog 58).agg = false := by kernel_rfl
@[simp] theorem t58_zero : (ti Proofs.Try.prog 58).zero = [Value.nilFunc] := by kernel_rfl
@[simp] theorem t59_ok : (ti Proofs.Try.prog 59).ok = true := by kernel_rfl
@[simp] theorem t59_k : (ti Proofs.Try.prog 59).k = K.other := by kernel_rfl
@[simp] theorem t59_size : (ti Proofs.Try.prog 59).size = 1 := by kernel_rfl
@[simp] theorem t59_bytes : (ti Proofs.Try.prog 59).bytes = 8 := by kernel_rfl
@[simp] theorem t59_agg : (ti Proofs.Try.prog 59).agg = false := by kernel_rfl
@[simp] theorem t59_zero : (ti Proofs.Try.prog 59).zero = [Value.nilFunc] := by kernel_rfl
@[simp] theorem t60_ok : (ti Proofs.Try.prog 60).ok = true := by kernel_rfl
@[simp] theorem t60_k : (ti Proofs.Try.prog 60).k = K.other := by kernel_rfl
@[simp] theorem t60_size : (ti Proofs.Try.prog 60).size = 1 := by kernel_rfl
@[simp] theorem t60_bytes : (ti Proofs.Try.prog 60).bytes = 8 := by kernel_rfl
@[simp] theorem t60_agg : (ti Proofs.Try.prog 60).agg = false := by kernel_rfl
@[simp] theorem t60_zero : (ti Proofs.Try.prog 60).zero = [Value.nilFunc] := by kernel_rfl
@[simp] theorem t61_ok : (ti Proofs.Try.prog 61).ok = true := by kernel_rfl
@[simp] theorem t61_k : (ti Proofs.Try.prog 61).k = K.slice 5 := by kernel_rfl
@[simp] theorem t61_size : (ti Proofs.Try.prog 61).size = 1 := by kernel_rfl
@[simp] theorem t61_bytes : (ti Proofs.Try.prog 61).bytes = 24 := by kernel_rfl
@[simp] theorem t61_agg : (ti Proofs.Try.prog 61).agg = false := by kernel_rfl
@[simp] theorem t61_zero : (ti Proofs.Try.prog 61).zero = [Value.slice none 0 0] := by kernel_rfl
@[simp] theorem t62_ok : (ti Proofs.Try.prog 62).ok = true := by kernel_rfl
@[simp] theorem t62_k : (ti Proofs.Try.prog 62).k = K.int IntKind.u16 := by kernel_rfl
@[simp] theorem t62_size : (ti Proofs.Try.prog 62).size = 1 := by kernel_rfl
@[simp] theorem t62_bytes : (ti Proofs.Try.prog 62).bytes = 2 := by kernel_rfl
@[simp] theorem t62_agg : (ti Proofs.Try.prog 62).agg = false := by kernel_rfl
@[simp] theorem t62_zero : (ti Proofs.Try.prog 62).zero = [Value.int IntKind.u16 0] := by kernel_rfl
@[simp] theorem t63_ok : (ti Proofs.Try.prog 63).ok = true := by kernel_rfl
@[simp] theorem t63_k : (ti Proofs.Try.prog 63).k = K.other := by kernel_rfl
@[simp] theorem t63_size : (ti Proofs.Try.prog 63).size = 1 := by kernel_rfl
@[simp] theorem t63_bytes : (ti Proofs.Try.prog 63).bytes = 8 := by kernel_rfl
@[simp] theorem t63_agg : (ti Proofs.Try.prog 63).agg = false := by kernel_rfl
@[simp] theorem t63_zero : (ti Proofs.Try.prog 63).zero = [Value.nilFunc] := by kernel_rfl
@[simp] theorem t64_ok : (ti Proofs.Try.prog 64).ok = true := by kernel_rfl
@[simp] theorem t64_k : (ti Proofs.Try.prog 64).k = K.slice 41 := by kernel_rfl
@[simp] theorem t64_size : (ti Proofs.Try.prog 64).size = 1 := by kernel_rfl
@[simp] theorem t64_bytes : (ti Proofs.Try.prog 64).bytes = 24 := by kernel_rfl
@[simp] theorem t64_agg : (ti Proofs.Try.prog 64).agg = false := by kernel_rfl
@[simp] theorem t64_zero : (ti Proofs.Try.prog 64).zero = [Value.slice none 0 0] := by kernel_rfl
@[simp] theorem t77_ok : (ti Proofs.Try.prog 77).ok = true := by kernel_rfl
@[simp] theorem t77_k : (ti Proofs.Try.prog 77).k = K.other := by kernel_rfl
@[simp] theorem t77_size : (ti Proofs.Try.prog 77).size = 1 := by kernel_rfl
@[simp] theorem t77_bytes : (ti Proofs.Try.prog 77).bytes = 8 := by kernel_rfl
@[simp] theorem t77_agg : (ti Proofs.Try.prog 77).agg = false := by kernel_rfl
@[simp] theorem t77_zero : (ti Proofs.Try.prog 77).zero = [Value.nilFunc] := by kernel_rfl
@[simp] theorem t78_ok : (ti Proofs.Try.prog 78).ok = true := by kernel_rfl
@[simp] theorem t78_k : (ti Proofs.Try.prog 78).k = K.other := by kernel_rfl
@[simp] theorem t78_size : (ti Proofs.Try.prog 78).size = 1 := by kernel_rfl
@[simp] theorem t78_bytes : (ti Proofs.Try.prog 78).bytes = 8 := by kernel_rfl
@[simp] theorem t78_agg : (ti Proofs.Try.prog 78).agg = false := by kernel_rfl
@[simp] theorem t78_zero : (ti Proofs.Try.prog 78).zero = [Value.nilFunc] := by kernel_rfl
@[simp] theorem t79_ok : (ti Proofs.Try.prog 79).ok = true := by kernel_rfl
@[simp] theorem t79_k : (ti Proofs.Try.prog 79).k = K.other := by kernel_rfl
@[simp] theorem t79_size : (ti Proofs.Try.prog 79).size = 1 := by kernel_rfl
@[simp] theorem t79_bytes : (ti Proofs.Try.prog 79).bytes = 8 := by kernel_rfl
@[simp] theorem t79_agg : (ti Proofs.Try.prog 79).agg = false := by kernel_rfl
@[simp] theorem t79_zero : (ti Proofs.Try.prog 79).zero = [Value.nilFunc] := by kernel_rfl
@[simp] theorem t80_ok : (ti Proofs.Try.prog 80).ok = true := by kernel_rfl
@[simp] theorem t80_k : (ti Proofs.Try.prog 80).k = K.slice 87 := by kernel_rfl
@[simp] theorem t80_size : (ti Proofs.Try.prog 80).size = 1 := by kernel_rfl
@[simp] theorem t80_bytes : (ti Proofs.Try.prog 80).bytes = 24 := by kernel_rfl
@[simp] theorem t80_agg : (ti Proofs.Try.prog 80).agg = false := by kernel_rfl
@[simp] theorem t80_zero : (ti Proofs.Try.prog 80).zero = [Value.slice none 0 0] := by kernel_rfl
@[simp] theorem t82_ok : (ti Proofs.Try.prog 82).ok = true := by kernel_rfl
@[simp] theorem t82_k : (ti Proofs.Try.prog 82).k = K.other := by kernel_rfl
@[simp] theorem t82_size : (ti Proofs.Try.prog 82).size = 1 := by kernel_rfl
@[simp] theorem t82_bytes : (ti Proofs.Try.prog 82).bytes = 8 := by kernel_rfl
@[simp] theorem t82_agg : (ti Proofs.Try.prog 82).agg = false := by kernel_rfl
@[simp] theorem t82_zero : (ti Proofs.Try.prog 82).zero = [Value.nilFunc] := by kernel_rfl
@[simp] theorem t83_ok : (ti Proofs.Try.prog 83).ok = true := by kernel_rfl
@[simp] theorem t83_k : (ti Proofs.Try.prog 83).k = K.other := by kernel_rfl
@[simp] theorem t83_size : (ti Proofs.Try.prog 83).size = 1 := by kernel_rfl
@[simp] theorem t83_bytes : (ti Proofs.Try.prog 83).bytes = 8 := by kernel_rfl
@[simp] theorem t83_agg : (ti Proofs.Try.prog 83).agg = false := by kernel_rfl
@[simp] theorem t83_zero : (ti Proofs.Try.prog 83).zero = [Value.nilFunc] := by kernel_rfl
@[simp] theorem t84_ok : (ti Proofs.Try.prog 84).ok = true := by kernel_rfl
@[simp] theorem t84_k : (ti Proofs.Try.prog 84).k = K.other := by kernel_rfl
@[simp] theorem t84_size : (ti Proofs.Try.prog 84).size = 1 := by kernel_rfl
@[simp] theorem t84_bytes : (ti Proofs.Try.prog 84).bytes = 8 := by kernel_rfl
@[simp] theorem t84_agg : (ti Proofs.Try.prog 84).agg = false := by kernel_rfl
@[simp] theorem t84_zero : (ti Proofs.Try.prog 84).zero = [Value.nilFunc] := by kernel_rfl
@[simp] theorem t85_ok : (ti Proofs.Try.prog 85).ok = true := by kernel_rfl
@[simp] theorem t85_k : (ti Proofs.Try.prog 85).k = K.other := by kernel_rfl
@[simp] theorem t85_size : (ti Proofs.Try.prog 85).size = 1 := by kernel_rfl
@[simp] theorem t85_bytes : (ti Proofs.Try.prog 85).bytes = 8 := by kernel_rfl
@[simp] theorem t85_agg : (ti Proofs.Try.prog 85).agg = false := by kernel_rfl
@[simp] theorem t85_zero : (ti Proofs.Try.prog 85).zero = [Value.nilFunc] := by kernel_rfl
@[simp] theorem t86_ok : (ti Proofs.Try.prog 86).ok = true := by kernel_rfl
@[simp] theorem t86_k : (ti Proofs.Try.prog 86).k = K.struct := by kernel_rfl
@[simp] theorem t86_size : (ti Proofs.Try.prog 86).size = 5 := by kernel_rfl
@[simp] theorem t86_bytes : (ti Proofs.Try.prog 86).bytes = 32 := by kernel_rfl
@[simp] theorem t86_agg : (ti Proofs.Try.prog 86).agg = true := by kernel_rfl
@[simp] theorem t86_zero : (ti Proofs.Try.prog 86).zero = [Value.int IntKind.i64 0, Value.int IntKind.i64 0, Value.bool false, Value.bool false, Value.int IntKind.i64 0] := by kernel_rfl
@[simp] theorem t86_flds : (ti Proofs.Try.prog 86).flds = [(0, 1), (1, 1), (2, 1), (3, 1), (4, 1)] := by kernel_rfl
@[simp] theorem t86_eq : eqT Proofs.Try.prog 86 = some [K.int IntKind.i64, K.int IntKind.i64, K.bool, K.bool, K.int IntKind.i64] := by kernel_rfl
@[simp] theorem t87_ok : (ti Proofs.Try.prog 87).ok = true := by kernel_rfl
@[simp] theorem t87_k : (ti Proofs.Try.prog 87).k = K.struct := by kernel_rfl
@[simp] theorem t87_size : (ti Proofs.Try.prog 87).size = 5 := by kernel_rfl
@[simp] theorem t87_bytes : (ti Proofs.Try.prog 87).bytes = 32 := by kernel_rfl
@[simp] theorem t87_agg : (ti Proofs.Try.prog 87).agg = true := by kernel_rfl
@[simp] theorem t87_zero : (ti Proofs.Try.prog 87).zero = [Value.int IntKind.i64 0, Value.int IntKind.i64 0, Value.bool false, Value.bool false, Value.int IntKind.i64 0] := by kernel_rfl
@[simp] theorem t87_flds : (ti Proofs.Try.prog 87).flds = [(0, 1), (1, 1), (2, 1), (3, 1), (4, 1)] := by kernel_rfl
@[simp] theorem t87_eq : eqT Proofs.Try.prog 87 = some [K.int IntKind.i64, K.int IntKind.i64, K.bool, K.bool, K.int IntKind.i64] := by kernel_rfl
@[simp] theorem t97_ok : (ti Proofs.Try.prog 97).ok = true := by kernel_rfl
@[simp] theorem t97_k : (ti Proofs.Try.prog 97).k = K.other := by kernel_rfl
@[simp] theorem t97_size : (ti Proofs.Try.prog 97).size = 1 := by kernel_rfl
@[simp] theorem t97_bytes : (ti Proofs.Try.prog 97).bytes = 8 := by kernel_rfl
@[simp] theorem t97_agg : (ti Proofs.Try.prog 97).agg = false := by kernel_rfl
@[simp] theorem t97_zero : (ti Proofs.Try.prog 97).zero = [Value.nilFunc] := by kernel_rfl
@[simp] theorem t111_ok : (ti Proofs.Try.prog 111).ok = true := by kernel_rfl
@[simp] theorem t111_k : (ti Proofs.Try.prog 111).k = K.other := by kernel_rfl
@[simp] theorem t111_size : (ti Proofs.Try.prog 111).size = 1 := by kernel_rfl
@[simp] theorem t111_bytes : (ti Proofs.Try.prog 111).bytes = 8 := by kernel_rfl
@[simp] theorem t111_agg : (ti Proofs.Try.prog 111).agg = false := by kernel_rfl
@[simp] theorem t111_zero : (ti Proofs.Try.prog 111).zero = [Value.nilFunc] := by kernel_rfl
@[simp] theorem t112_ok : (ti Proofs.Try.prog 112).ok = true := by kernel_rfl
@[simp] theorem t112_k : (ti Proofs.Try.prog 112).k = K.other := by kernel_rfl
@[simp] theorem t112_size : (ti Proofs.Try.prog 112).size = 1 := by kernel_rfl
@[simp] theorem t112_bytes : (ti Proofs.Try.prog 112).bytes = 8 := by kernel_rfl
@[simp] theorem t112_agg : (ti Proofs.Try.prog 112).agg = false := by kernel_rfl
@[simp] theorem t112_zero : (ti Proofs.Try.prog 112).zero = [Value.nilFunc] := by kernel_rfl
@[simp] theorem t113_ok : (ti Proofs.Try.prog 113).ok = true := by kernel_rfl
@[simp] theorem t113_k : (ti Proofs.Try.prog 113).k = K.pointer := by kernel_rfl
@[simp] theorem t113_size : (ti Proofs.Try.prog 113).size = 1 := by kernel_rfl
@[simp] theorem t113_bytes : (ti Proofs.Try.prog 113).bytes = 8 := by kernel_rfl
@[simp] theorem t113_agg : (ti Proofs.Try.prog 113).agg = false := by kernel_rfl
@[simp] theorem t113_zero : (ti Proofs.Try.prog 113).zero = [Value.pointer none] := by kernel_rfl
@[simp] theorem t114_ok : (ti Proofs.Try.prog 114).ok = true := by kernel_rfl
@[simp] theorem t114_k : (ti Proofs.Try.prog 114).k = K.other := by kernel_rfl
@[simp] theorem t114_size : (ti Proofs.Try.prog 114).size = 1 := by kernel_rfl
@[simp] theorem t114_bytes : (ti Proofs.Try.prog 114).bytes = 8 := by kernel_rfl
@[simp] theorem t114_agg : (ti Proofs.Try.prog 114).agg = false := by kernel_rfl
@[simp] theorem t114_zero : (ti Proofs.Try.prog 114).zero = [Value.map none] := by kernel_rfl
@[simp] theorem t116_ok : (ti Proofs.Try.prog 116).ok = true := by kernel_rfl
@[simp] theorem t116_k : (ti Proofs.Try.prog 116).k = K.struct := by kernel_rfl
@[simp] theorem t116_size : (ti Proofs.Try.prog 116).size = 5 := by kernel_rfl
@[simp] theorem t116_bytes : (ti Proofs.Try.prog 116).bytes = 72 := by kernel_rfl
@[simp] theorem t116_agg : (ti Proofs.Try.prog 116).agg = true := by kernel_rfl
@[simp] theorem t116_zero : (ti Proofs.Try.prog 116).zero = [Value.slice none 0 0, Value.int IntKind.i64 0, Value.nilFunc, Value.slice none 0 0, Value.map none] := by kernel_rfl
@[simp] theorem t116_flds : (ti Proofs.Try.prog 116).flds = [(0, 1), (1, 1), (2, 1), (3, 1), (4, 1)] := by kernel_rfl
@[simp] theorem t119_ok : (ti Proofs.Try.prog 119).ok = true := by kernel_rfl
@[simp] theorem t119_k : (ti Proofs.Try.prog 119).k = K.slice 9 := by kernel_rfl
@[simp] theorem t119_size : (ti Proofs.Try.prog 119).size = 1 := by kernel_rfl
@[simp] theorem t119_bytes : (ti Proofs.Try.prog 119).bytes = 24 := by kernel_rfl
@[simp] theorem t119_agg : (ti Proofs.Try.prog 119).agg = false := by kernel_rfl
@[simp] theorem t119_zero : (ti Proofs.Try.prog 119).zero = [Value.slice none 0 0] := by kernel_rfl
@[simp] theorem t125_ok : (ti Proofs.Try.prog 125).ok = true := by kernel_rfl
@[simp] theorem t125_k : (ti Proofs.Try.prog 125).k = K.other := by kernel_rfl
@[simp] theorem t125_size : (ti Proofs.Try.prog 125).size = 1 := by kernel_rfl
@[simp] theorem t125_bytes : (ti Proofs.Try.prog 125).bytes = 8 := by kernel_rfl
@[simp] theorem t125_agg : (ti Proofs.Try.prog 125).agg = false := by kernel_rfl
@[simp] theorem t125_zero : (ti Proofs.Try.prog 125).zero = [Value.nilFunc] := by kernel_rfl
@[simp] theorem t131_ok : (ti Proofs.Try.prog 131).ok = true := by kernel_rfl
@[simp] theorem t131_k : (ti Proofs.Try.prog 131).k = K.struct := by kernel_rfl
@[simp] theorem t131_size : (ti Proofs.Try.prog 131).size = 3 := by kernel_rfl
@[simp] theorem t131_bytes : (ti Proofs.Try.prog 131).bytes = 40 := by kernel_rfl
@[simp] theorem t131_agg : (ti Proofs.Try.prog 131).agg = true := by kernel_rfl
@[simp] theorem t131_zero : (ti Proofs.Try.prog 131).zero = [Value.int IntKind.i64 0, Value.string ⟨#[]⟩, Value.string ⟨#[]⟩] := by kernel_rfl
@[simp] theorem t131_flds : (ti Proofs.Try.prog 131).flds = [(0, 1), (1, 1), (2, 1)] := by kernel_rfl
@[simp] theorem t131_eq : eqT Proofs.Try.prog 131 = some [K.int IntKind.i64, K.string, K.string] := by kernel_rfl
@[simp] theorem t136_ok : (ti Proofs.Try.prog 136).ok = true := by kernel_rfl
@[simp] theorem t136_k : (ti Proofs.Try.prog 136).k = K.struct := by kernel_rfl
@[simp] theorem t136_size : (ti Proofs.Try.prog 136).size = 3 := by kernel_rfl
@[simp] theorem t136_bytes : (ti Proofs.Try.prog 136).bytes = 24 := by kernel_rfl
@[simp] theorem t136_agg : (ti Proofs.Try.prog 136).agg = true := by kernel_rfl
@[simp] theorem t136_zero : (ti Proofs.Try.prog 136).zero = [Value.int IntKind.i64 0, Value.int IntKind.i64 0, Value.int IntKind.i64 0] := by kernel_rfl
@[simp] theorem t136_flds : (ti Proofs.Try.prog 136).flds = [(0, 1), (1, 1), (2, 1)] := by kernel_rfl
@[simp] theorem t136_eq : eqT Proofs.Try.prog 136 = some [K.int IntKind.i64, K.int IntKind.i64, K.int IntKind.i64] := by kernel_rfl
@[simp] theorem t164_ok : (ti Proofs.Try.prog 164).ok = true := by kernel_rfl
@[simp] theorem t164_k : (ti Proofs.Try.prog 164).k = K.other := by kernel_rfl
@[simp] theorem t164_size : (ti Proofs.Try.prog 164).size = 1 := by kernel_rfl
@[simp] theorem t164_bytes : (ti Proofs.Try.prog 164).bytes = 8 := by kernel_rfl
@[simp] theorem t164_agg : (ti Proofs.Try.prog 164).agg = false := by kernel_rfl
@[simp] theorem t164_zero : (ti Proofs.Try.prog 164).zero = [Value.nilFunc] := by kernel_rfl
@[simp] theorem t171_ok : (ti Proofs.Try.prog 171).ok = true := by kernel_rfl
@[simp] theorem t171_k : (ti Proofs.Try.prog 171).k = K.struct := by kernel_rfl
@[simp] theorem t171_size : (ti Proofs.Try.prog 171).size = 3 := by kernel_rfl
@[simp] theorem t171_bytes : (ti Proofs.Try.prog 171).bytes = 40 := by kernel_rfl
@[simp] theorem t171_agg : (ti Proofs.Try.prog 171).agg = true := by kernel_rfl
@[simp] theorem t171_zero : (ti Proofs.Try.prog 171).zero = [Value.string ⟨#[]⟩, Value.int IntKind.i64 0, Value.nilIface] := by kernel_rfl
@[simp] theorem t171_flds : (ti Proofs.Try.prog 171).flds = [(0, 1), (1, 1), (2, 1)] := by kernel_rfl
@[simp] theorem t172_ok : (ti Proofs.Try.prog 172).ok = true := by kernel_rfl
@[simp] theorem t172_k : (ti Proofs.Try.prog 172).k = K.slice 175 := by kernel_rfl
@[simp] theorem t172_size : (ti Proofs.Try.prog 172).size = 1 := by kernel_rfl
@[simp] theorem t172_bytes : (ti Proofs.Try.prog 172).bytes = 24 := by kernel_rfl
@[simp] theorem t172_agg : (ti Proofs.Try.prog 172).agg = false := by kernel_rfl
@[simp] theorem t172_zero : (ti Proofs.Try.prog 172).zero = [Value.slice none 0 0] := by kernel_rfl
@[simp] theorem t175_ok : (ti Proofs.Try.prog 175).ok = true := by kernel_rfl
@[simp] theorem t175_k : (ti Proofs.Try.prog 175).k = K.struct := by kernel_rfl
@[simp] theorem t175_size : (ti Proofs.Try.prog 175).size = 2 := by kernel_rfl
@[simp] theorem t175_bytes : (ti Proofs.Try.prog 175).bytes = 40 := by kernel_rfl
@[simp] theorem t175_agg : (ti Proofs.Try.prog 175).agg = true := by kernel_rfl
@[simp] theorem t175_zero : (ti Proofs.Try.prog 175).zero = [Value.string ⟨#[]⟩, Value.slice none 0 0] := by kernel_rfl
@[simp] theorem t175_flds : (ti Proofs.Try.prog 175).flds = [(0, 1), (1, 1)] := by kernel_rfl
@[simp] theorem t182_ok : (ti Proofs.Try.prog 182).ok = true := by kernel_rfl
@[simp] theorem t182_k : (ti Proofs.Try.prog 182).k = K.int IntKind.u64 := by kernel_rfl
@[simp] theorem t182_size : (ti Proofs.Try.prog 182).size = 1 := by kernel_rfl
@[simp] theorem t182_bytes : (ti Proofs.Try.prog 182).bytes = 8 := by kernel_rfl
@[simp] theorem t182_agg : (ti Proofs.Try.prog 182).agg = false := by kernel_rfl
@[simp] theorem t182_zero : (ti Proofs.Try.prog 182).zero = [Value.int IntKind.u64 0] := by kernel_rfl
@[simp] theorem t196_ok : (ti Proofs.Try.prog 196).ok = true := by kernel_rfl
@[simp] theorem t196_k : (ti Proofs.Try.prog 196).k = K.other := by kernel_rfl
@[simp] theorem t196_size : (ti Proofs.Try.prog 196).size = 1 := by kernel_rfl
@[simp] theorem t196_bytes : (ti Proofs.Try.prog 196).bytes = 8 := by kernel_rfl
@[simp] theorem t196_agg : (ti Proofs.Try.prog 196).agg = false := by kernel_rfl
@[simp] theorem t196_zero : (ti Proofs.Try.prog 196).zero = [Value.nilFunc] := by kernel_rfl
@[simp] theorem t214_ok : (ti Proofs.Try.prog 214).ok = true := by kernel_rfl
@[simp] theorem t214_k : (ti Proofs.Try.prog 214).k = K.other := by kernel_rfl
@[simp] theorem t214_size : (ti Proofs.Try.prog 214).size = 1 := by kernel_rfl
@[simp] theorem t214_bytes : (ti Proofs.Try.prog 214).bytes = 8 := by kernel_rfl
@[simp] theorem t214_agg : (ti Proofs.Try.prog 214).agg = false := by kernel_rfl
@[simp] theorem t214_zero : (ti Proofs.Try.prog 214).zero = [Value.nilFunc] := by kernel_rfl
end Go.Am
