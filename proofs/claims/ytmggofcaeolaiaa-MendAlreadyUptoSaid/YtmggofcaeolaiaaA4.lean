/- Part 4 of the texts that the last one stands on. -/
import Derived.Test.YtmggofcaeolaiaaProg
import Derived.Test.YtmggofcaeolaiaaRows
import Derived.WalkKit
import Derived.ProofKit
import Derived.OpenShut
import Derived.JoinedCond
import Derived.Carry
import Derived.Test.YtmggofcaeolaiaaA3
set_option linter.unusedVariables false
set_option linter.unusedSimpArgs false
namespace Go.Proofs.Ytmggofcaeolaiaa
open Go.Am Go.Proofs
theorem tyVar_1 : tyVar Try.prog 1 = some (false, 1) := by kernel_rfl
theorem zeroA_1 : zeroA Try.prog 1 = some (1, .v .nilFunc) := by kernel_rfl
theorem tyVar_2 : tyVar Try.prog 2 = some (false, 1) := by kernel_rfl
theorem zeroA_2 : zeroA Try.prog 2 = some (1, .v (.int .i64 (0))) := by kernel_rfl
theorem und_2 : Try.prog.underlying 2 = some (.int .i64) := by kernel_rfl
theorem tyVar_3 : tyVar Try.prog 3 = some (false, 1) := by kernel_rfl
theorem zeroA_3 : zeroA Try.prog 3 = some (1, .v (.int .i64 (0))) := by kernel_rfl
theorem und_3 : Try.prog.underlying 3 = some (.int .i64) := by kernel_rfl
theorem tyVar_4 : tyVar Try.prog 4 = some (false, 1) := by kernel_rfl
theorem zeroA_4 : zeroA Try.prog 4 = some (1, .v (.bool false)) := by kernel_rfl
theorem tyVar_5 : tyVar Try.prog 5 = some (false, 1) := by kernel_rfl
theorem zeroA_5 : zeroA Try.prog 5 = some (1, .v (.int .u8 (0))) := by kernel_rfl
theorem und_5 : Try.prog.underlying 5 = some (.int .u8) := by kernel_rfl
theorem tyVar_6 : tyVar Try.prog 6 = some (false, 1) := by kernel_rfl
theorem zeroA_6 : zeroA Try.prog 6 = some (1, .v (.int .u8 (0))) := by kernel_rfl
theorem und_6 : Try.prog.underlying 6 = some (.int .u8) := by kernel_rfl
theorem tyVar_7 : tyVar Try.prog 7 = some (true, 4) := by kernel_rfl
theorem zeroA_7 : zeroA Try.prog 7 = some (4, .agg [.v (.int .i64 (0)), .v (.int .i64 (0)), .v (.bool false), .v (.int .u8 (0))]) := by kernel_rfl
theorem fieldA_7_0 : fieldA Try.prog 7 0 = some 0 := by kernel_rfl
theorem fieldA_7_1 : fieldA Try.prog 7 1 = some 1 := by kernel_rfl
theorem fieldA_7_2 : fieldA Try.prog 7 2 = some 2 := by kernel_rfl
theorem fieldA_7_3 : fieldA Try.prog 7 3 = some 3 := by kernel_rfl
theorem placesA_7 : placesA Try.prog 7 = some fun i => (#[(0, 1), (1, 1), (2, 1), (3, 1)] : Array (Nat × Nat))[i]? := by kernel_rfl
theorem tyVar_8 : tyVar Try.prog 8 = some (true, 4) := by kernel_rfl
theorem zeroA_8 : zeroA Try.prog 8 = some (4, .agg [.v (.int .i64 (0)), .v (.int .i64 (0)), .v (.bool false), .v (.int .u8 (0))]) := by kernel_rfl
theorem fieldA_8_0 : fieldA Try.prog 8 0 = some 0 := by kernel_rfl
theorem fieldA_8_1 : fieldA Try.prog 8 1 = some 1 := by kernel_rfl
theorem fieldA_8_2 : fieldA Try.prog 8 2 = some 2 := by kernel_rfl
theorem fieldA_8_3 : fieldA Try.prog 8 3 = some 3 := by kernel_rfl
theorem placesA_8 : placesA Try.prog 8 = some fun i => (#[(0, 1), (1, 1), (2, 1), (3, 1)] : Array (Nat × Nat))[i]? := by kernel_rfl
theorem tyVar_9 : tyVar Try.prog 9 = some (false, 1) := by kernel_rfl
theorem zeroA_9 : zeroA Try.prog 9 = some (1, .v (.string ⟨#[]⟩)) := by kernel_rfl
theorem und_9 : Try.prog.underlying 9 = some (.string) := by kernel_rfl
theorem tyVar_10 : tyVar Try.prog 10 = some (false, 1) := by kernel_rfl
theorem zeroA_10 : zeroA Try.prog 10 = some (1, .v (.string ⟨#[]⟩)) := by kernel_rfl
theorem und_10 : Try.prog.underlying 10 = some (.string) := by kernel_rfl
theorem tyVar_11 : tyVar Try.prog 11 = some (false, 1) := by kernel_rfl
theorem zeroA_11 : zeroA Try.prog 11 = some (1, .v (.string ⟨#[]⟩)) := by kernel_rfl
theorem und_11 : Try.prog.underlying 11 = some (.string) := by kernel_rfl
theorem tyVar_12 : tyVar Try.prog 12 = some (false, 1) := by kernel_rfl
theorem zeroA_12 : zeroA Try.prog 12 = some (1, .v (.int .u64 (0))) := by kernel_rfl
theorem und_12 : Try.prog.underlying 12 = some (.int .u64) := by kernel_rfl
theorem tyVar_13 : tyVar Try.prog 13 = some (true, 2) := by kernel_rfl
theorem zeroA_13 : zeroA Try.prog 13 = some (2, .agg [.v (.string ⟨#[]⟩), .v (.int .u64 (0))]) := by kernel_rfl
theorem fieldA_13_0 : fieldA Try.prog 13 0 = some 0 := by kernel_rfl
theorem fieldA_13_1 : fieldA Try.prog 13 1 = some 1 := by kernel_rfl
theorem placesA_13 : placesA Try.prog 13 = some fun i => (#[(0, 1), (1, 1)] : Array (Nat × Nat))[i]? := by kernel_rfl
theorem tyVar_14 : tyVar Try.prog 14 = some (true, 2) := by kernel_rfl
theorem zeroA_14 : zeroA Try.prog 14 = some (2, .agg [.v (.string ⟨#[]⟩), .v (.int .u64 (0))]) := by kernel_rfl
theorem fieldA_14_0 : fieldA Try.prog 14 0 = some 0 := by kernel_rfl
theorem fieldA_14_1 : fieldA Try.prog 14 1 = some 1 := by kernel_rfl
theorem placesA_14 : placesA Try.prog 14 = some fun i => (#[(0, 1), (1, 1)] : Array (Nat × Nat))[i]? := by kernel_rfl
theorem tyVar_15 : tyVar Try.prog 15 = some (false, 1) := by kernel_rfl
theorem zeroA_15 : zeroA Try.prog 15 = some (1, .v (.pointer none)) := by kernel_rfl
theorem tyVar_16 : tyVar Try.prog 16 = some (false, 1) := by kernel_rfl
theorem zeroA_16 : zeroA Try.prog 16 = some (1, .v (.pointer none)) := by kernel_rfl
theorem tyVar_17 : tyVar Try.prog 17 = some (false, 1) := by kernel_rfl
theorem zeroA_17 : zeroA Try.prog 17 = some (1, .v (.pointer none)) := by kernel_rfl
theorem tyVar_18 : tyVar Try.prog 18 = some (true, 1) := by kernel_rfl
theorem zeroA_18 : zeroA Try.prog 18 = some (1, .agg [.v (.pointer none)]) := by kernel_rfl
theorem fieldA_18_0 : fieldA Try.prog 18 0 = some 0 := by kernel_rfl
theorem placesA_18 : placesA Try.prog 18 = some fun i => (#[(0, 1)] : Array (Nat × Nat))[i]? := by kernel_rfl
theorem tyVar_19 : tyVar Try.prog 19 = some (true, 1) := by kernel_rfl
theorem zeroA_19 : zeroA Try.prog 19 = some (1, .agg [.v (.pointer none)]) := by kernel_rfl
theorem fieldA_19_0 : fieldA Try.prog 19 0 = some 0 := by kernel_rfl
theorem placesA_19 : placesA Try.prog 19 = some fun i => (#[(0, 1)] : Array (Nat × Nat))[i]? := by kernel_rfl
theorem tyVar_21 : tyVar Try.prog 21 = some (false, 1) := by kernel_rfl
theorem zeroA_21 : zeroA Try.prog 21 = some (1, .v (.int .i32 (0))) := by kernel_rfl
theorem und_21 : Try.prog.underlying 21 = some (.int .i32) := by kernel_rfl
theorem tyVar_22 : tyVar Try.prog 22 = some (false, 1) := by kernel_rfl
theorem tySlice_22 : tySlice Try.prog 22 = some (61, 4, 40) := by kernel_rfl
theorem zeroA_22 : zeroA Try.prog 22 = some (1, .slice 0 [] .tight) := by kernel_rfl
theorem tyVar_23 : tyVar Try.prog 23 = some (false, 1) := by kernel_rfl
theorem tySlice_23 : tySlice Try.prog 23 = some (65, 2, 16) := by kernel_rfl
theorem zeroA_23 : zeroA Try.prog 23 = some (1, .slice 0 [] .tight) := by kernel_rfl
theorem tyVar_24 : tyVar Try.prog 24 = some (true, 3) := by kernel_rfl
theorem zeroA_24 : zeroA Try.prog 24 = some (3, .agg [.slice 0 [] .tight, .slice 0 [] .tight, .v (.int .i64 (0))]) := by kernel_rfl
theorem fieldA_24_0 : fieldA Try.prog 24 0 = some 0 := by kernel_rfl
theorem fieldA_24_1 : fieldA Try.prog 24 1 = some 1 := by kernel_rfl
theorem fieldA_24_2 : fieldA Try.prog 24 2 = some 2 := by kernel_rfl
theorem placesA_24 : placesA Try.prog 24 = some fun i => (#[(0, 1), (1, 1), (2, 1)] : Array (Nat × Nat))[i]? := by kernel_rfl
theorem tyVar_25 : tyVar Try.prog 25 = some (true, 3) := by kernel_rfl
theorem zeroA_25 : zeroA Try.prog 25 = some (3, .agg [.slice 0 [] .tight, .slice 0 [] .tight, .v (.int .i64 (0))]) := by kernel_rfl
theorem fieldA_25_0 : fieldA Try.prog 25 0 = some 0 := by kernel_rfl
theorem fieldA_25_1 : fieldA Try.prog 25 1 = some 1 := by kernel_rfl
theorem fieldA_25_2 : fieldA Try.prog 25 2 = some 2 := by kernel_rfl
theorem placesA_25 : placesA Try.prog 25 = some fun i => (#[(0, 1), (1, 1), (2, 1)] : Array (Nat × Nat))[i]? := by kernel_rfl
theorem tyVar_26 : tyVar Try.prog 26 = some (false, 1) := by kernel_rfl
theorem zeroA_26 : zeroA Try.prog 26 = some (1, .v (.int .i64 (0))) := by kernel_rfl
theorem und_26 : Try.prog.underlying 26 = some (.int .i64) := by kernel_rfl
theorem tyVar_28 : tyVar Try.prog 28 = some (false, 1) := by kernel_rfl
theorem zeroA_28 : zeroA Try.prog 28 = some (1, .v .nilFunc) := by kernel_rfl
theorem tyVar_29 : tyVar Try.prog 29 = some (false, 1) := by kernel_rfl
theorem tySlice_29 : tySlice Try.prog 29 = some (3, 1, 8) := by kernel_rfl
theorem zeroA_29 : zeroA Try.prog 29 = some (1, .slice 0 [] .tight) := by kernel_rfl
theorem tyVar_31 : tyVar Try.prog 31 = some (false, 1) := by kernel_rfl
theorem zeroA_31 : zeroA Try.prog 31 = some (1, .v .nilFunc) := by kernel_rfl
theorem tyVar_32 : tyVar Try.prog 32 = some (false, 1) := by kernel_rfl
theorem zeroA_32 : zeroA Try.prog 32 = some (1, .v .nilFunc) := by kernel_rfl
theorem tyVar_34 : tyVar Try.prog 34 = some (false, 1) := by kernel_rfl
theorem zeroA_34 : zeroA Try.prog 34 = some (1, .v .nilFunc) := by kernel_rfl
theorem tyVar_35 : tyVar Try.prog 35 = some (false, 1) := by kernel_rfl
theorem zeroA_35 : zeroA Try.prog 35 = some (1, .v .nilFunc) := by kernel_rfl
theorem tyVar_36 : tyVar Try.prog 36 = some (false, 1) := by kernel_rfl
theorem zeroA_36 : zeroA Try.prog 36 = some (1, .v .nilFunc) := by kernel_rfl
theorem tyVar_37 : tyVar Try.prog 37 = some (false, 1) := by kernel_rfl
theorem zeroA_37 : zeroA Try.prog 37 = some (1, .v .nilFunc) := by kernel_rfl
theorem tyVar_39 : tyVar Try.prog 39 = some (false, 1) := by kernel_rfl
theorem zeroA_39 : zeroA Try.prog 39 = some (1, .v .nilFunc) := by kernel_rfl
theorem tyVar_40 : tyVar Try.prog 40 = some (false, 1) := by kernel_rfl
theorem zeroA_40 : zeroA Try.prog 40 = some (1, .v .nilFunc) := by kernel_rfl
theorem tyVar_41 : tyVar Try.prog 41 = some (false, 1) := by kernel_rfl
theorem zeroA_41 : zeroA Try.prog 41 = some (1, .v .nilFunc) := by kernel_rfl
theorem tyVar_42 : tyVar Try.prog 42 = some (true, 2) := by kernel_rfl
theorem tyArray_42 : tyArray Try.prog 42 = some (2, 1) := by kernel_rfl
theorem placesA_42 : placesA Try.prog 42 = some fun i => some (i * 1, 1) := by kernel_rfl
theorem zeroA_42 : zeroA Try.prog 42 = some (2, .agg [.v (.int .i64 (0)), .v (.int .i64 (0))]) := by kernel_rfl
theorem tyVar_44 : tyVar Try.prog 44 = some (false, 1) := by kernel_rfl
theorem zeroA_44 : zeroA Try.prog 44 = some (1, .v .nilFunc) := by kernel_rfl
theorem tyVar_45 : tyVar Try.prog 45 = some (false, 1) := by kernel_rfl
theorem zeroA_45 : zeroA Try.prog 45 = some (1, .v .nilFunc) := by kernel_rfl
theorem tyVar_46 : tyVar Try.prog 46 = some (false, 1) := by kernel_rfl
theorem zeroA_46 : zeroA Try.prog 46 = some (1, .v .nilFunc) := by kernel_rfl
theorem tyVar_47 : tyVar Try.prog 47 = some (false, 1) := by kernel_rfl
theorem tySlice_47 : tySlice Try.prog 47 = some (29, 1, 24) := by kernel_rfl
theorem zeroA_47 : zeroA Try.prog 47 = some (1, .slice 0 [] .tight) := by kernel_rfl
theorem tyVar_49 : tyVar Try.prog 49 = some (false, 1) := by kernel_rfl
theorem zeroA_49 : zeroA Try.prog 49 = some (1, .v .nilFunc) := by kernel_rfl
theorem tyVar_50 : tyVar Try.prog 50 = some (false, 1) := by kernel_rfl
theorem zeroA_50 : zeroA Try.prog 50 = some (1, .v .nilFunc) := by kernel_rfl
theorem tyVar_51 : tyVar Try.prog 51 = some (false, 1) := by kernel_rfl
theorem zeroA_51 : zeroA Try.prog 51 = some (1, .v .nilFunc) := by kernel_rfl
theorem tyVar_52 : tyVar Try.prog 52 = some (false, 1) := by kernel_rfl
theorem zeroA_52 : zeroA Try.prog 52 = some (1, .v .nilFunc) := by kernel_rfl
theorem tyVar_53 : tyVar Try.prog 53 = some (false, 1) := by kernel_rfl
theorem zeroA_53 : zeroA Try.prog 53 = some (1, .v .nilFunc) := by kernel_rfl
theorem tyVar_54 : tyVar Try.prog 54 = some (false, 1) := by kernel_rfl
theorem tySlice_54 : tySlice Try.prog 54 = some (5, 1, 1) := by kernel_rfl
theorem zeroA_54 : zeroA Try.prog 54 = some (1, .slice 0 [] .tight) := by kernel_rfl
theorem tyVar_55 : tyVar Try.prog 55 = some (false, 1) := by kernel_rfl
theorem zeroA_55 : zeroA Try.prog 55 = some (1, .v .nilFunc) := by kernel_rfl
theorem tyVar_56 : tyVar Try.prog 56 = some (false, 1) := by kernel_rfl
theorem zeroA_56 : zeroA Try.prog 56 = some (1, .v .nilFunc) := by kernel_rfl
theorem tyVar_57 : tyVar Try.prog 57 = some (false, 1) := by kernel_rfl
theorem zeroA_57 : zeroA Try.prog 57 = some (1, .v .nilFunc) := by kernel_rfl
theorem tyVar_58 : tyVar Try.prog 58 = some (false, 1) := by kernel_rfl
theorem zeroA_58 : zeroA Try.prog 58 = some (1, .v .nilFunc) := by kernel_rfl
theorem tyVar_59 : tyVar Try.prog 59 = some (false, 1) := by kernel_rfl
theorem zeroA_59 : zeroA Try.prog 59 = some (1, .v .nilFunc) := by kernel_rfl
theorem tyVar_60 : tyVar Try.prog 60 = some (true, 4) := by kernel_rfl
theorem zeroA_60 : zeroA Try.prog 60 = some (4, .agg [.v (.string ⟨#[]⟩), .v (.int .i64 (0)), .v (.bool false), .v (.int .i64 (0))]) := by kernel_rfl
theorem fieldA_60_0 : fieldA Try.prog 60 0 = some 0 := by kernel_rfl
theorem fieldA_60_1 : fieldA Try.prog 60 1 = some 1 := by kernel_rfl
theorem fieldA_60_2 : fieldA Try.prog 60 2 = some 2 := by kernel_rfl
theorem fieldA_60_3 : fieldA Try.prog 60 3 = some 3 := by kernel_rfl
theorem placesA_60 : placesA Try.prog 60 = some fun i => (#[(0, 1), (1, 1), (2, 1), (3, 1)] : Array (Nat × Nat))[i]? := by kernel_rfl
theorem tyVar_61 : tyVar Try.prog 61 = some (true, 4) := by kernel_rfl
theorem zeroA_61 : zeroA Try.prog 61 = some (4, .agg [.v (.string ⟨#[]⟩), .v (.int .i64 (0)), .v (.bool false), .v (.int .i64 (0))]) := by kernel_rfl
theorem fieldA_61_0 : fieldA Try.prog 61 0 = some 0 := by kernel_rfl
theorem fieldA_61_1 : fieldA Try.prog 61 1 = some 1 := by kernel_rfl
theorem fieldA_61_2 : fieldA Try.prog 61 2 = some 2 := by kernel_rfl
theorem fieldA_61_3 : fieldA Try.prog 61 3 = some 3 := by kernel_rfl
theorem placesA_61 : placesA Try.prog 61 = some fun i => (#[(0, 1), (1, 1), (2, 1), (3, 1)] : Array (Nat × Nat))[i]? := by kernel_rfl
theorem tyVar_62 : tyVar Try.prog 62 = some (false, 1) := by kernel_rfl
theorem zeroA_62 : zeroA Try.prog 62 = some (1, .v .nilFunc) := by kernel_rfl
theorem tyVar_63 : tyVar Try.prog 63 = some (true, 2) := by kernel_rfl
theorem tyArray_63 : tyArray Try.prog 63 = some (2, 1) := by kernel_rfl
theorem placesA_63 : placesA Try.prog 63 = some fun i => some (i * 1, 1) := by kernel_rfl
theorem zeroA_63 : zeroA Try.prog 63 = some (2, .agg [.v (.int .u8 (0)), .v (.int .u8 (0))]) := by kernel_rfl
theorem tyVar_64 : tyVar Try.prog 64 = some (true, 2) := by kernel_rfl
theorem zeroA_64 : zeroA Try.prog 64 = some (2, .agg [.v (.int .i64 (0)), .v (.int .i64 (0))]) := by kernel_rfl
theorem fieldA_64_0 : fieldA Try.prog 64 0 = some 0 := by kernel_rfl
theorem fieldA_64_1 : fieldA Try.prog 64 1 = some 1 := by kernel_rfl
theorem placesA_64 : placesA Try.prog 64 = some fun i => (#[(0, 1), (1, 1)] : Array (Nat × Nat))[i]? := by kernel_rfl
theorem tyVar_65 : tyVar Try.prog 65 = some (true, 2) := by kernel_rfl
theorem zeroA_65 : zeroA Try.prog 65 = some (2, .agg [.v (.int .i64 (0)), .v (.int .i64 (0))]) := by kernel_rfl
theorem fieldA_65_0 : fieldA Try.prog 65 0 = some 0 := by kernel_rfl
theorem fieldA_65_1 : fieldA Try.prog 65 1 = some 1 := by kernel_rfl
theorem placesA_65 : placesA Try.prog 65 = some fun i => (#[(0, 1), (1, 1)] : Array (Nat × Nat))[i]? := by kernel_rfl
theorem tyVar_66 : tyVar Try.prog 66 = some (false, 1) := by kernel_rfl
theorem zeroA_66 : zeroA Try.prog 66 = some (1, .v .nilFunc) := by kernel_rfl
theorem tyVar_67 : tyVar Try.prog 67 = some (false, 1) := by kernel_rfl
theorem zeroA_67 : zeroA Try.prog 67 = some (1, .v .nilFunc) := by kernel_rfl
theorem tyVar_68 : tyVar Try.prog 68 = some (false, 1) := by kernel_rfl
theorem zeroA_68 : zeroA Try.prog 68 = some (1, .v .nilFunc) := by kernel_rfl
theorem tyVar_69 : tyVar Try.prog 69 = some (false, 1) := by kernel_rfl
theorem zeroA_69 : zeroA Try.prog 69 = some (1, .v .nilFunc) := by kernel_rfl
theorem tyVar_70 : tyVar Try.prog 70 = some (false, 1) := by kernel_rfl
theorem zeroA_70 : zeroA Try.prog 70 = some (1, .v .nilFunc) := by kernel_rfl
theorem tyVar_71 : tyVar Try.prog 71 = some (false, 1) := by kernel_rfl
theorem zeroA_71 : zeroA Try.prog 71 = some (1, .v .nilFunc) := by kernel_rfl
theorem tyVar_72 : tyVar Try.prog 72 = some (false, 1) := by kernel_rfl
theorem zeroA_72 : zeroA Try.prog 72 = some (1, .v .nilFunc) := by kernel_rfl
theorem tyVar_73 : tyVar Try.prog 73 = some (false, 1) := by kernel_rfl
theorem zeroA_73 : zeroA Try.prog 73 = some (1, .v .nilFunc) := by kernel_rfl
theorem tyVar_74 : tyVar Try.prog 74 = some (false, 1) := by kernel_rfl
theorem zeroA_74 : zeroA Try.prog 74 = some (1, .v .nilFunc) := by kernel_rfl
theorem tyVar_75 : tyVar Try.prog 75 = some (false, 1) := by kernel_rfl
theorem zeroA_75 : zeroA Try.prog 75 = some (1, .v .nilFunc) := by kernel_rfl
theorem tyVar_76 : tyVar Try.prog 76 = some (false, 1) := by kernel_rfl
theorem zeroA_76 : zeroA Try.prog 76 = some (1, .v .nilFunc) := by kernel_rfl
theorem tyVar_77 : tyVar Try.prog 77 = some (false, 1) := by kernel_rfl
theorem zeroA_77 : zeroA Try.prog 77 = some (1, .v .nilFunc) := by kernel_rfl
theorem tyVar_78 : tyVar Try.prog 78 = some (false, 1) := by kernel_rfl
theorem zeroA_78 : zeroA Try.prog 78 = some (1, .v .nilFunc) := by kernel_rfl
theorem tyVar_79 : tyVar Try.prog 79 = some (false, 1) := by kernel_rfl
theorem tySlice_79 : tySlice Try.prog 79 = some (9, 1, 16) := by kernel_rfl
theorem zeroA_79 : zeroA Try.prog 79 = some (1, .slice 0 [] .tight) := by kernel_rfl
theorem tyVar_80 : tyVar Try.prog 80 = some (false, 1) := by kernel_rfl
theorem zeroA_80 : zeroA Try.prog 80 = some (1, .v .nilFunc) := by kernel_rfl
theorem tyVar_81 : tyVar Try.prog 81 = some (false, 1) := by kernel_rfl
theorem zeroA_81 : zeroA Try.prog 81 = some (1, .v .nilFunc) := by kernel_rfl
theorem tyVar_82 : tyVar Try.prog 82 = some (false, 1) := by kernel_rfl
theorem zeroA_82 : zeroA Try.prog 82 = some (1, .v (.pointer none)) := by kernel_rfl
theorem tyVar_84 : tyVar Try.prog 84 = some (false, 1) := by kernel_rfl
theorem zeroA_84 : zeroA Try.prog 84 = some (1, .v .nilFunc) := by kernel_rfl
theorem tyVar_85 : tyVar Try.prog 85 = some (false, 1) := by kernel_rfl
theorem zeroA_85 : zeroA Try.prog 85 = some (1, .v .nilFunc) := by kernel_rfl
theorem tyVar_86 : tyVar Try.prog 86 = some (true, 2) := by kernel_rfl
theorem zeroA_86 : zeroA Try.prog 86 = some (2, .agg [.v (.int .i64 (0)), .v (.bool false)]) := by kernel_rfl
theorem fieldA_86_0 : fieldA Try.prog 86 0 = some 0 := by kernel_rfl
theorem fieldA_86_1 : fieldA Try.prog 86 1 = some 1 := by kernel_rfl
theorem placesA_86 : placesA Try.prog 86 = some fun i => (#[(0, 1), (1, 1)] : Array (Nat × Nat))[i]? := by kernel_rfl
theorem tyVar_87 : tyVar Try.prog 87 = some (true, 2) := by kernel_rfl
theorem zeroA_87 : zeroA Try.prog 87 = some (2, .agg [.v (.int .i64 (0)), .v (.bool false)]) := by kernel_rfl
theorem fieldA_87_0 : fieldA Try.prog 87 0 = some 0 := by kernel_rfl
theorem fieldA_87_1 : fieldA Try.prog 87 1 = some 1 := by kernel_rfl
theorem placesA_87 : placesA Try.prog 87 = some fun i => (#[(0, 1), (1, 1)] : Array (Nat × Nat))[i]? := by kernel_rfl
theorem tyVar_88 : tyVar Try.prog 88 = some (true, 10) := by kernel_rfl
theorem tyArray_88 : tyArray Try.prog 88 = some (5, 2) := by kernel_rfl
theorem placesA_88 : placesA Try.prog 88 = some fun i => some (i * 2, 2) := by kernel_rfl
theorem zeroA_88 : zeroA Try.prog 88 = some (10, .agg [.v (.int .i64 (0)), .v (.bool false), .v (.int .i64 (0)), .v (.bool false), .v (.int .i64 (0)), .v (.bool false), .v (.int .i64 (0)), .v (.bool false), .v (.int .i64 (0)), .v (.bool false)]) := by kernel_rfl
theorem tyVar_89 : tyVar Try.prog 89 = some (true, 10) := by kernel_rfl
theorem tyArray_89 : tyArray Try.prog 89 = some (5, 2) := by kernel_rfl
theorem placesA_89 : placesA Try.prog 89 = some fun i => some (i * 2, 2) := by kernel_rfl
theorem zeroA_89 : zeroA Try.prog 89 = some (10, .agg [.v (.int .i64 (0)), .v (.bool false), .v (.int .i64 (0)), .v (.bool false), .v (.int .i64 (0)), .v (.bool false), .v (.int .i64 (0)), .v (.bool false), .v (.int .i64 (0)), .v (.bool false)]) := by kernel_rfl
theorem tyVar_90 : tyVar Try.prog 90 = some (true, 13) := by kernel_rfl
theorem zeroA_90 : zeroA Try.prog 90 = some (13, .agg [.slice 0 [] .tight, .slice 0 [] .tight, .v (.int .i64 (0)), .v (.int .i64 (0)), .v (.bool false), .v (.int .i64 (0)), .v (.bool false), .v (.int .i64 (0)), .v (.bool false), .v (.int .i64 (0)), .v (.bool false), .v (.int .i64 (0)), .v (.bool false)]) := by kernel_rfl
theorem fieldA_90_0 : fieldA Try.prog 90 0 = some 0 := by kernel_rfl
theorem fieldA_90_1 : fieldA Try.prog 90 1 = some 3 := by kernel_rfl
theorem placesA_90 : placesA Try.prog 90 = some fun i => (#[(0, 3), (3, 10)] : Array (Nat × Nat))[i]? := by kernel_rfl
theorem tyVar_91 : tyVar Try.prog 91 = some (true, 13) := by kernel_rfl
theorem zeroA_91 : zeroA Try.prog 91 = some (13, .agg [.slice 0 [] .tight, .slice 0 [] .tight, .v (.int .i64 (0)), .v (.int .i64 (0)), .v (.bool false), .v (.int .i64 (0)), .v (.bool false), .v (.int .i64 (0)), .v (.bool false), .v (.int .i64 (0)), .v (.bool false), .v (.int .i64 (0)), .v (.bool false)]) := by kernel_rfl
theorem fieldA_91_0 : fieldA Try.prog 91 0 = some 0 := by kernel_rfl
theorem fieldA_91_1 : fieldA Try.prog 91 1 = some 3 := by kernel_rfl
theorem placesA_91 : placesA Try.prog 91 = some fun i => (#[(0, 3), (3, 10)] : Array (Nat × Nat))[i]? := by kernel_rfl
theorem tyVar_93 : tyVar Try.prog 93 = some (false, 1) := by kernel_rfl
theorem zeroA_93 : zeroA Try.prog 93 = some (1, .v .nilFunc) := by kernel_rfl
theorem tyVar_94 : tyVar Try.prog 94 = some (false, 1) := by kernel_rfl
theorem zeroA_94 : zeroA Try.prog 94 = some (1, .v .nilFunc) := by kernel_rfl
theorem tyVar_95 : tyVar Try.prog 95 = some (false, 1) := by kernel_rfl
theorem zeroA_95 : zeroA Try.prog 95 = some (1, .v .nilFunc) := by kernel_rfl
theorem tyVar_97 : tyVar Try.prog 97 = some (false, 1) := by kernel_rfl
theorem zeroA_97 : zeroA Try.prog 97 = some (1, .v .nilFunc) := by kernel_rfl
theorem tyVar_99 : tyVar Try.prog 99 = some (false, 1) := by kernel_rfl
theorem zeroA_99 : zeroA Try.prog 99 = some (1, .v .nilFunc) := by kernel_rfl
theorem tyVar_100 : tyVar Try.prog 100 = some (false, 1) := by kernel_rfl
theorem tySlice_100 : tySlice Try.prog 100 = some (103, 4, 80) := by kernel_rfl
theorem zeroA_100 : zeroA Try.prog 100 = some (1, .slice 0 [] .tight) := by kernel_rfl
theorem tyVar_101 : tyVar Try.prog 101 = some (false, 1) := by kernel_rfl
theorem zeroA_101 : zeroA Try.prog 101 = some (1, .v .nilFunc) := by kernel_rfl
theorem tyVar_102 : tyVar Try.prog 102 = some (true, 4) := by kernel_rfl
theorem zeroA_102 : zeroA Try.prog 102 = some (4, .agg [.slice 0 [] .tight, .slice 0 [] .tight, .v (.int .i64 (0)), .slice 0 [] .tight]) := by kernel_rfl
theorem fieldA_102_0 : fieldA Try.prog 102 0 = some 0 := by kernel_rfl
theorem fieldA_102_1 : fieldA Try.prog 102 1 = some 3 := by kernel_rfl
theorem placesA_102 : placesA Try.prog 102 = some fun i => (#[(0, 3), (3, 1)] : Array (Nat × Nat))[i]? := by kernel_rfl
theorem tyVar_103 : tyVar Try.prog 103 = some (true, 4) := by kernel_rfl
theorem zeroA_103 : zeroA Try.prog 103 = some (4, .agg [.slice 0 [] .tight, .slice 0 [] .tight, .v (.int .i64 (0)), .slice 0 [] .tight]) := by kernel_rfl
theorem fieldA_103_0 : fieldA Try.prog 103 0 = some 0 := by kernel_rfl
theorem fieldA_103_1 : fieldA Try.prog 103 1 = some 3 := by kernel_rfl
theorem placesA_103 : placesA Try.prog 103 = some fun i => (#[(0, 3), (3, 1)] : Array (Nat × Nat))[i]? := by kernel_rfl
theorem tyVar_104 : tyVar Try.prog 104 = some (false, 1) := by kernel_rfl
theorem zeroA_104 : zeroA Try.prog 104 = some (1, .v .nilFunc) := by kernel_rfl
theorem tyVar_105 : tyVar Try.prog 105 = some (false, 1) := by kernel_rfl
theorem tySlice_105 : tySlice Try.prog 105 = some (110, 14, 112) := by kernel_rfl
theorem zeroA_105 : zeroA Try.prog 105 = some (1, .slice 0 [] .tight) := by kernel_rfl
theorem tyVar_106 : tyVar Try.prog 106 = some (true, 3) := by kernel_rfl
theorem zeroA_106 : zeroA Try.prog 106 = some (3, .agg [.slice 0 [] .tight, .v (.int .i64 (0)), .v .nilFunc]) := by kernel_rfl
theorem fieldA_106_0 : fieldA Try.prog 106 0 = some 0 := by kernel_rfl
theorem fieldA_106_1 : fieldA Try.prog 106 1 = some 1 := by kernel_rfl
theorem fieldA_106_2 : fieldA Try.prog 106 2 = some 2 := by kernel_rfl
theorem placesA_106 : placesA Try.prog 106 = some fun i => (#[(0, 1), (1, 1), (2, 1)] : Array (Nat × Nat))[i]? := by kernel_rfl
theorem tyVar_107 : tyVar Try.prog 107 = some (true, 3) := by kernel_rfl
theorem zeroA_107 : zeroA Try.prog 107 = some (3, .agg [.slice 0 [] .tight, .v (.int .i64 (0)), .v .nilFunc]) := by kernel_rfl
theorem fieldA_107_0 : fieldA Try.prog 107 0 = some 0 := by kernel_rfl
theorem fieldA_107_1 : fieldA Try.prog 107 1 = some 1 := by kernel_rfl
theorem fieldA_107_2 : fieldA Try.prog 107 2 = some 2 := by kernel_rfl
theorem placesA_107 : placesA Try.prog 107 = some fun i => (#[(0, 1), (1, 1), (2, 1)] : Array (Nat × Nat))[i]? := by kernel_rfl
theorem tyVar_108 : tyVar Try.prog 108 = some (false, 1) := by kernel_rfl
theorem zeroA_108 : zeroA Try.prog 108 = some (1, .v .nilFunc) := by kernel_rfl
theorem tyVar_109 : tyVar Try.prog 109 = some (true, 14) := by kernel_rfl
theorem zeroA_109 : zeroA Try.prog 109 = some (14, .agg [.v (.int .i64 (0)), .v (.bool false), .v (.int .i64 (0)), .v (.bool false), .v (.int .i64 (0)), .v (.bool false), .v (.int .i64 (0)), .v (.bool false), .v (.int .i64 (0)), .v (.bool false), .v (.int .i64 (0)), .v (.int .i64 (0)), .v (.int .i64 (0)), .v (.int .i64 (0))]) := by kernel_rfl
theorem fieldA_109_0 : fieldA Try.prog 109 0 = some 0 := by kernel_rfl
theorem fieldA_109_1 : fieldA Try.prog 109 1 = some 10 := by kernel_rfl
theorem fieldA_109_2 : fieldA Try.prog 109 2 = some 12 := by kernel_rfl
theorem fieldA_109_3 : fieldA Try.prog 109 3 = some 13 := by kernel_rfl
theorem placesA_109 : placesA Try.prog 109 = some fun i => (#[(0, 10), (10, 2), (12, 1), (13, 1)] : Array (Nat × Nat))[i]? := by kernel_rfl
theorem tyVar_110 : tyVar Try.prog 110 = some (true, 14) := by kernel_rfl
theorem zeroA_110 : zeroA Try.prog 110 = some (14, .agg [.v (.int .i64 (0)), .v (.bool false), .v (.int .i64 (0)), .v (.bool false), .v (.int .i64 (0)), .v (.bool false), .v (.int .i64 (0)), .v (.bool false), .v (.int .i64 (0)), .v (.bool false), .v (.int .i64 (0)), .v (.int .i64 (0)), .v (.int .i64 (0)), .v (.int .i64 (0))]) := by kernel_rfl
theorem fieldA_110_0 : fieldA Try.prog 110 0 = some 0 := by kernel_rfl
theorem fieldA_110_1 : fieldA Try.prog 110 1 = some 10 := by kernel_rfl
theorem fieldA_110_2 : fieldA Try.prog 110 2 = some 12 := by kernel_rfl
theorem fieldA_110_3 : fieldA Try.prog 110 3 = some 13 := by kernel_rfl
theorem placesA_110 : placesA Try.prog 110 = some fun i => (#[(0, 10), (10, 2), (12, 1), (13, 1)] : Array (Nat × Nat))[i]? := by kernel_rfl
theorem tyVar_111 : tyVar Try.prog 111 = some (false, 1) := by kernel_rfl
theorem zeroA_111 : zeroA Try.prog 111 = some (1, .v (.map none)) := by kernel_rfl
theorem und_111 : Try.prog.underlying 111 = some (.map 3 3) := by kernel_rfl
theorem tyVar_113 : tyVar Try.prog 113 = some (false, 1) := by kernel_rfl
theorem zeroA_113 : zeroA Try.prog 113 = some (1, .v .nilFunc) := by kernel_rfl
theorem tyVar_114 : tyVar Try.prog 114 = some (false, 1) := by kernel_rfl
theorem zeroA_114 : zeroA Try.prog 114 = some (1, .v .nilFunc) := by kernel_rfl
theorem tyVar_115 : tyVar Try.prog 115 = some (false, 1) := by kernel_rfl
theorem zeroA_115 : zeroA Try.prog 115 = some (1, .v .nilFunc) := by kernel_rfl
theorem tyVar_116 : tyVar Try.prog 116 = some (false, 1) := by kernel_rfl
theorem zeroA_116 : zeroA Try.prog 116 = some (1, .v .nilFunc) := by kernel_rfl
theorem tyVar_117 : tyVar Try.prog 117 = some (false, 1) := by kernel_rfl
theorem zeroA_117 : zeroA Try.prog 117 = some (1, .v .nilFunc) := by kernel_rfl
theorem tyVar_118 : tyVar Try.prog 118 = some (false, 1) := by kernel_rfl
theorem zeroA_118 : zeroA Try.prog 118 = some (1, .v .nilFunc) := by kernel_rfl
theorem tyVar_119 : tyVar Try.prog 119 = some (false, 1) := by kernel_rfl
theorem zeroA_119 : zeroA Try.prog 119 = some (1, .v .nilFunc) := by kernel_rfl
theorem tyVar_120 : tyVar Try.prog 120 = some (false, 1) := by kernel_rfl
theorem zeroA_120 : zeroA Try.prog 120 = some (1, .v .nilFunc) := by kernel_rfl
theorem tyVar_121 : tyVar Try.prog 121 = some (false, 1) := by kernel_rfl
theorem zeroA_121 : zeroA Try.prog 121 = some (1, .v .nilFunc) := by kernel_rfl
theorem tyVar_122 : tyVar Try.prog 122 = some (false, 1) := by kernel_rfl
theorem zeroA_122 : zeroA Try.prog 122 = some (1, .v .nilFunc) := by kernel_rfl
theorem tyVar_123 : tyVar Try.prog 123 = some (false, 1) := by kernel_rfl
theorem zeroA_123 : zeroA Try.prog 123 = some (1, .v .nilFunc) := by kernel_rfl
theorem tyVar_124 : tyVar Try.prog 124 = some (false, 1) := by kernel_rfl
theorem zeroA_124 : zeroA Try.prog 124 = some (1, .v .nilFunc) := by kernel_rfl
theorem tyVar_125 : tyVar Try.prog 125 = some (false, 1) := by kernel_rfl
theorem zeroA_125 : zeroA Try.prog 125 = some (1, .v .nilFunc) := by kernel_rfl
theorem tyVar_126 : tyVar Try.prog 126 = some (false, 1) := by kernel_rfl
theorem zeroA_126 : zeroA Try.prog 126 = some (1, .v .nilFunc) := by kernel_rfl
theorem tyVar_127 : tyVar Try.prog 127 = some (false, 1) := by kernel_rfl
theorem zeroA_127 : zeroA Try.prog 127 = some (1, .v (.pointer none)) := by kernel_rfl
theorem tyVar_128 : tyVar Try.prog 128 = some (false, 1) := by kernel_rfl
theorem zeroA_128 : zeroA Try.prog 128 = some (1, .v (.map none)) := by kernel_rfl
theorem und_128 : Try.prog.underlying 128 = some (.map 89 3) := by kernel_rfl
theorem tyVar_129 : tyVar Try.prog 129 = some (false, 1) := by kernel_rfl
theorem zeroA_129 : zeroA Try.prog 129 = some (1, .v .nilFunc) := by kernel_rfl
theorem tyVar_130 : tyVar Try.prog 130 = some (false, 1) := by kernel_rfl
theorem zeroA_130 : zeroA Try.prog 130 = some (1, .v .nilFunc) := by kernel_rfl
theorem tyVar_131 : tyVar Try.prog 131 = some (false, 1) := by kernel_rfl
theorem zeroA_131 : zeroA Try.prog 131 = some (1, .v .nilFunc) := by kernel_rfl
theorem tyVar_132 : tyVar Try.prog 132 = some (false, 1) := by kernel_rfl
theorem zeroA_132 : zeroA Try.prog 132 = some (1, .v .nilFunc) := by kernel_rfl
theorem tyVar_133 : tyVar Try.prog 133 = some (false, 1) := by kernel_rfl
theorem zeroA_133 : zeroA Try.prog 133 = some (1, .v .nilFunc) := by kernel_rfl
theorem tyVar_134 : tyVar Try.prog 134 = some (false, 1) := by kernel_rfl
theorem zeroA_134 : zeroA Try.prog 134 = some (1, .v .nilFunc) := by kernel_rfl
theorem tyVar_135 : tyVar Try.prog 135 = some (false, 1) := by kernel_rfl
theorem zeroA_135 : zeroA Try.prog 135 = some (1, .v .nilFunc) := by kernel_rfl
theorem tyVar_136 : tyVar Try.prog 136 = some (false, 1) := by kernel_rfl
theorem zeroA_136 : zeroA Try.prog 136 = some (1, .v .nilFunc) := by kernel_rfl
theorem tyVar_137 : tyVar Try.prog 137 = some (false, 1) := by kernel_rfl
theorem zeroA_137 : zeroA Try.prog 137 = some (1, .v .nilFunc) := by kernel_rfl
theorem tyVar_138 : tyVar Try.prog 138 = some (false, 1) := by kernel_rfl
theorem zeroA_138 : zeroA Try.prog 138 = some (1, .v .nilFunc) := by kernel_rfl
theorem tyVar_139 : tyVar Try.prog 139 = some (false, 1) := by kernel_rfl
theorem zeroA_139 : zeroA Try.prog 139 = some (1, .v .nilFunc) := by kernel_rfl
theorem tyVar_140 : tyVar Try.prog 140 = some (false, 1) := by kernel_rfl
theorem zeroA_140 : zeroA Try.prog 140 = some (1, .v (.int .u64 (0))) := by kernel_rfl
theorem und_140 : Try.prog.underlying 140 = some (.int .u64) := by kernel_rfl
theorem tyVar_141 : tyVar Try.prog 141 = some (false, 1) := by kernel_rfl
theorem zeroA_141 : zeroA Try.prog 141 = some (1, .v .nilFunc) := by kernel_rfl
theorem tyVar_142 : tyVar Try.prog 142 = some (false, 1) := by kernel_rfl
theorem zeroA_142 : zeroA Try.prog 142 = some (1, .v (.int .i64 (0))) := by kernel_rfl
theorem und_142 : Try.prog.underlying 142 = some (.int .i64) := by kernel_rfl
theorem tyVar_144 : tyVar Try.prog 144 = some (false, 1) := by kernel_rfl
theorem zeroA_144 : zeroA Try.prog 144 = some (1, .v .nilFunc) := by kernel_rfl
theorem tyVar_145 : tyVar Try.prog 145 = some (false, 1) := by kernel_rfl
theorem zeroA_145 : zeroA Try.prog 145 = some (1, .v .nilFunc) := by kernel_rfl
theorem tyVar_146 : tyVar Try.prog 146 = some (false, 1) := by kernel_rfl
theorem zeroA_146 : zeroA Try.prog 146 = some (1, .v .nilFunc) := by kernel_rfl
theorem tyVar_147 : tyVar Try.prog 147 = some (false, 1) := by kernel_rfl
theorem zeroA_147 : zeroA Try.prog 147 = some (1, .v .nilFunc) := by kernel_rfl
theorem tyVar_148 : tyVar Try.prog 148 = some (false, 1) := by kernel_rfl
theorem zeroA_148 : zeroA Try.prog 148 = some (1, .v .nilFunc) := by kernel_rfl
theorem tyVar_149 : tyVar Try.prog 149 = some (false, 1) := by kernel_rfl
theorem zeroA_149 : zeroA Try.prog 149 = some (1, .v (.int .u32 (0))) := by kernel_rfl
theorem und_149 : Try.prog.underlying 149 = some (.int .u32) := by kernel_rfl
theorem tyVar_150 : tyVar Try.prog 150 = some (false, 1) := by kernel_rfl
theorem zeroA_150 : zeroA Try.prog 150 = some (1, .v .nilFunc) := by kernel_rfl
theorem tyVar_151 : tyVar Try.prog 151 = some (false, 1) := by kernel_rfl
theorem zeroA_151 : zeroA Try.prog 151 = some (1, .v (.int .u64 (0))) := by kernel_rfl
theorem und_151 : Try.prog.underlying 151 = some (.int .u64) := by kernel_rfl
theorem tyVar_152 : tyVar Try.prog 152 = some (false, 1) := by kernel_rfl
theorem zeroA_152 : zeroA Try.prog 152 = some (1, .v (.int .u64 (0))) := by kernel_rfl
theorem und_152 : Try.prog.underlying 152 = some (.int .u64) := by kernel_rfl
theorem tyVar_153 : tyVar Try.prog 153 = some (false, 1) := by kernel_rfl
theorem zeroA_153 : zeroA Try.prog 153 = some (1, .v .nilFunc) := by kernel_rfl
theorem tyVar_154 : tyVar Try.prog 154 = some (false, 1) := by kernel_rfl
theorem zeroA_154 : zeroA Try.prog 154 = some (1, .v .nilFunc) := by kernel_rfl
theorem tyVar_155 : tyVar Try.prog 155 = some (false, 1) := by kernel_rfl
theorem zeroA_155 : zeroA Try.prog 155 = some (1, .v .nilFunc) := by kernel_rfl
theorem tyVar_156 : tyVar Try.prog 156 = some (false, 1) := by kernel_rfl
theorem zeroA_156 : zeroA Try.prog 156 = some (1, .v (.pointer none)) := by kernel_rfl
theorem tyVar_157 : tyVar Try.prog 157 = some (false, 1) := by kernel_rfl
theorem zeroA_157 : zeroA Try.prog 157 = some (1, .v .nilFunc) := by kernel_rfl
theorem tyVar_158 : tyVar Try.prog 158 = some (false, 1) := by kernel_rfl
theorem zeroA_158 : zeroA Try.prog 158 = some (1, .v (.pointer none)) := by kernel_rfl
theorem tyVar_160 : tyVar Try.prog 160 = some (false, 1) := by kernel_rfl
theorem zeroA_160 : zeroA Try.prog 160 = some (1, .v .nilFunc) := by kernel_rfl
theorem tyVar_161 : tyVar Try.prog 161 = some (false, 1) := by kernel_rfl
theorem zeroA_161 : zeroA Try.prog 161 = some (1, .v .nilFunc) := by kernel_rfl
theorem tyVar_162 : tyVar Try.prog 162 = some (true, 4) := by kernel_rfl
theorem zeroA_162 : zeroA Try.prog 162 = some (4, .agg [.v (.pointer none), .v (.pointer none), .v (.pointer none), .v (.string ⟨#[]⟩)]) := by kernel_rfl
theorem fieldA_162_0 : fieldA Try.prog 162 0 = some 0 := by kernel_rfl
theorem fieldA_162_1 : fieldA Try.prog 162 1 = some 1 := by kernel_rfl
theorem fieldA_162_2 : fieldA Try.prog 162 2 = some 2 := by kernel_rfl
theorem fieldA_162_3 : fieldA Try.prog 162 3 = some 3 := by kernel_rfl
theorem placesA_162 : placesA Try.prog 162 = some fun i => (#[(0, 1), (1, 1), (2, 1), (3, 1)] : Array (Nat × Nat))[i]? := by kernel_rfl
theorem tyVar_163 : tyVar Try.prog 163 = some (true, 4) := by kernel_rfl
theorem zeroA_163 : zeroA Try.prog 163 = some (4, .agg [.v (.pointer none), .v (.pointer none), .v (.pointer none), .v (.string ⟨#[]⟩)]) := by kernel_rfl
theorem fieldA_163_0 : fieldA Try.prog 163 0 = some 0 := by kernel_rfl
theorem fieldA_163_1 : fieldA Try.prog 163 1 = some 1 := by kernel_rfl
theorem fieldA_163_2 : fieldA Try.prog 163 2 = some 2 := by kernel_rfl
theorem fieldA_163_3 : fieldA Try.prog 163 3 = some 3 := by kernel_rfl
theorem placesA_163 : placesA Try.prog 163 = some fun i => (#[(0, 1), (1, 1), (2, 1), (3, 1)] : Array (Nat × Nat))[i]? := by kernel_rfl
theorem tyVar_164 : tyVar Try.prog 164 = some (true, 0) := by kernel_rfl
theorem tyArray_164 : tyArray Try.prog 164 = some (0, 1) := by kernel_rfl
theorem placesA_164 : placesA Try.prog 164 = some fun i => some (i * 1, 1) := by kernel_rfl
theorem zeroA_164 : zeroA Try.prog 164 = some (0, .agg []) := by kernel_rfl
theorem tyVar_165 : tyVar Try.prog 165 = some (true, 0) := by kernel_rfl
theorem zeroA_165 : zeroA Try.prog 165 = some (0, .agg []) := by kernel_rfl
theorem placesA_165 : placesA Try.prog 165 = some fun i => (#[(0, 0)] : Array (Nat × Nat))[i]? := by kernel_rfl
theorem tyVar_166 : tyVar Try.prog 166 = some (true, 0) := by kernel_rfl
theorem zeroA_166 : zeroA Try.prog 166 = some (0, .agg []) := by kernel_rfl
theorem placesA_166 : placesA Try.prog 166 = some fun i => (#[(0, 0)] : Array (Nat × Nat))[i]? := by kernel_rfl
theorem tyVar_167 : tyVar Try.prog 167 = some (false, 1) := by kernel_rfl
theorem zeroA_167 : zeroA Try.prog 167 = some (1, .v .nilFunc) := by kernel_rfl
theorem tyVar_168 : tyVar Try.prog 168 = some (false, 1) := by kernel_rfl
theorem zeroA_168 : zeroA Try.prog 168 = some (1, .v (.int .u8 (0))) := by kernel_rfl
theorem und_168 : Try.prog.underlying 168 = some (.int .u8) := by kernel_rfl
theorem tyVar_169 : tyVar Try.prog 169 = some (false, 1) := by kernel_rfl
theorem zeroA_169 : zeroA Try.prog 169 = some (1, .v (.int .u8 (0))) := by kernel_rfl
theorem und_169 : Try.prog.underlying 169 = some (.int .u8) := by kernel_rfl
theorem tyVar_170 : tyVar Try.prog 170 = some (false, 1) := by kernel_rfl
theorem zeroA_170 : zeroA Try.prog 170 = some (1, .v .nilFunc) := by kernel_rfl
theorem tyVar_171 : tyVar Try.prog 171 = some (false, 1) := by kernel_rfl
theorem zeroA_171 : zeroA Try.prog 171 = some (1, .v (.pointer none)) := by kernel_rfl
theorem tyVar_172 : tyVar Try.prog 172 = some (false, 1) := by kernel_rfl
theorem zeroA_172 : zeroA Try.prog 172 = some (1, .v (.int .i32 (0))) := by kernel_rfl
theorem und_172 : Try.prog.underlying 172 = some (.int .i32) := by kernel_rfl
theorem tyVar_173 : tyVar Try.prog 173 = some (false, 1) := by kernel_rfl
theorem zeroA_173 : zeroA Try.prog 173 = some (1, .v (.int .i32 (0))) := by kernel_rfl
theorem und_173 : Try.prog.underlying 173 = some (.int .i32) := by kernel_rfl
theorem tyVar_174 : tyVar Try.prog 174 = some (true, 11) := by kernel_rfl
theorem zeroA_174 : zeroA Try.prog 174 = some (11, .agg [.v (.int .u64 (0)), .v (.int .u64 (0)), .v (.int .u32 (0)), .v (.int .u8 (0)), .v (.int .u8 (0)), .v (.int .u8 (0)), .v (.int .u8 (0)), .v .nilFunc, .v (.pointer none), .v (.int .i32 (0)), .v (.int .i32 (0))]) := by kernel_rfl
theorem fieldA_174_0 : fieldA Try.prog 174 0 = some 0 := by kernel_rfl
theorem fieldA_174_1 : fieldA Try.prog 174 1 = some 1 := by kernel_rfl
theorem fieldA_174_2 : fieldA Try.prog 174 2 = some 2 := by kernel_rfl
theorem fieldA_174_3 : fieldA Try.prog 174 3 = some 3 := by kernel_rfl
theorem fieldA_174_4 : fieldA Try.prog 174 4 = some 4 := by kernel_rfl
theorem fieldA_174_5 : fieldA Try.prog 174 5 = some 5 := by kernel_rfl
theorem fieldA_174_6 : fieldA Try.prog 174 6 = some 6 := by kernel_rfl
theorem fieldA_174_7 : fieldA Try.prog 174 7 = some 7 := by kernel_rfl
theorem fieldA_174_8 : fieldA Try.prog 174 8 = some 8 := by kernel_rfl
theorem fieldA_174_9 : fieldA Try.prog 174 9 = some 9 := by kernel_rfl
theorem fieldA_174_10 : fieldA Try.prog 174 10 = some 10 := by kernel_rfl
theorem placesA_174 : placesA Try.prog 174 = some fun i => (#[(0, 1), (1, 1), (2, 1), (3, 1), (4, 1), (5, 1), (6, 1), (7, 1), (8, 1), (9, 1), (10, 1)] : Array (Nat × Nat))[i]? := by kernel_rfl
theorem tyVar_175 : tyVar Try.prog 175 = some (true, 11) := by kernel_rfl
theorem zeroA_175 : zeroA Try.prog 175 = some (11, .agg [.v (.int .u64 (0)), .v (.int .u64 (0)), .v (.int .u32 (0)), .v (.int .u8 (0)), .v (.int .u8 (0)), .v (.int .u8 (0)), .v (.int .u8 (0)), .v .nilFunc, .v (.pointer none), .v (.int .i32 (0)), .v (.int .i32 (0))]) := by kernel_rfl
theorem fieldA_175_0 : fieldA Try.prog 175 0 = some 0 := by kernel_rfl
theorem fieldA_175_1 : fieldA Try.prog 175 1 = some 1 := by kernel_rfl
theorem fieldA_175_2 : fieldA Try.prog 175 2 = some 2 := by kernel_rfl
theorem fieldA_175_3 : fieldA Try.prog 175 3 = some 3 := by kernel_rfl
theorem fieldA_175_4 : fieldA Try.prog 175 4 = some 4 := by kernel_rfl
theorem fieldA_175_5 : fieldA Try.prog 175 5 = some 5 := by kernel_rfl
theorem fieldA_175_6 : fieldA Try.prog 175 6 = some 6 := by kernel_rfl
theorem fieldA_175_7 : fieldA Try.prog 175 7 = some 7 := by kernel_rfl
theorem fieldA_175_8 : fieldA Try.prog 175 8 = some 8 := by kernel_rfl
theorem fieldA_175_9 : fieldA Try.prog 175 9 = some 9 := by kernel_rfl
theorem fieldA_175_10 : fieldA Try.prog 175 10 = some 10 := by kernel_rfl
theorem placesA_175 : placesA Try.prog 175 = some fun i => (#[(0, 1), (1, 1), (2, 1), (3, 1), (4, 1), (5, 1), (6, 1), (7, 1), (8, 1), (9, 1), (10, 1)] : Array (Nat × Nat))[i]? := by kernel_rfl
theorem tyVar_176 : tyVar Try.prog 176 = some (false, 1) := by kernel_rfl
theorem zeroA_176 : zeroA Try.prog 176 = some (1, .v (.pointer none)) := by kernel_rfl
theorem call_15 : Callable Try.prog 15 := callable_of Try.func15 (by kernel_rfl) (by kernel_rfl)
theorem call_16 : Callable Try.prog 16 := callable_of Try.func16 (by kernel_rfl) (by kernel_rfl)
theorem call_17 : Callable Try.prog 17 := callable_of Try.func17 (by kernel_rfl) (by kernel_rfl)
theorem call_18 : Callable Try.prog 18 := callable_of Try.func18 (by kernel_rfl) (by kernel_rfl)
theorem call_20 : Callable Try.prog 20 := callable_of Try.func20 (by kernel_rfl) (by kernel_rfl)
theorem call_21 : Callable Try.prog 21 := callable_of Try.func21 (by kernel_rfl) (by kernel_rfl)
theorem call_24 : Callable Try.prog 24 := callable_of Try.func24 (by kernel_rfl) (by kernel_rfl)
theorem call_25 : Callable Try.prog 25 := callable_of Try.func25 (by kernel_rfl) (by kernel_rfl)
theorem call_27 : Callable Try.prog 27 := callable_of Try.func27 (by kernel_rfl) (by kernel_rfl)
theorem call_28 : Callable Try.prog 28 := callable_of Try.func28 (by kernel_rfl) (by kernel_rfl)
theorem call_30 : Callable Try.prog 30 := callable_of Try.func30 (by kernel_rfl) (by kernel_rfl)
theorem call_32 : Callable Try.prog 32 := callable_of Try.func32 (by kernel_rfl) (by kernel_rfl)
theorem call_34 : Callable Try.prog 34 := callable_of Try.func34 (by kernel_rfl) (by kernel_rfl)
theorem call_36 : Callable Try.prog 36 := callable_of Try.func36 (by kernel_rfl) (by kernel_rfl)
theorem call_37 : Callable Try.prog 37 := callable_of Try.func37 (by kernel_rfl) (by kernel_rfl)
theorem call_38 : Callable Try.prog 38 := callable_of Try.func38 (by kernel_rfl) (by kernel_rfl)
theorem call_39 : Callable Try.prog 39 := callable_of Try.func39 (by kernel_rfl) (by kernel_rfl)
theorem call_40 : Callable Try.prog 40 := callable_of Try.func40 (by kernel_rfl) (by kernel_rfl)
theorem call_41 : Callable Try.prog 41 := callable_of Try.func41 (by kernel_rfl) (by kernel_rfl)
theorem call_43 : Callable Try.prog 43 := callable_of Try.func43 (by kernel_rfl) (by kernel_rfl)
theorem call_44 : Callable Try.prog 44 := callable_of Try.func44 (by kernel_rfl) (by kernel_rfl)
theorem call_50 : Callable Try.prog 50 := callable_of Try.func50 (by kernel_rfl) (by kernel_rfl)
theorem call_51 : Callable Try.prog 51 := callable_of Try.func51 (by kernel_rfl) (by kernel_rfl)
theorem call_52 : Callable Try.prog 52 := callable_of Try.func52 (by kernel_rfl) (by kernel_rfl)
theorem call_53 : Callable Try.prog 53 := callable_of Try.func53 (by kernel_rfl) (by kernel_rfl)
theorem call_54 : Callable Try.prog 54 := callable_of Try.func54 (by kernel_rfl) (by kernel_rfl)
theorem call_55 : Callable Try.prog 55 := callable_of Try.func55 (by kernel_rfl) (by kernel_rfl)
theorem call_56 : Callable Try.prog 56 := callable_of Try.func56 (by kernel_rfl) (by kernel_rfl)
theorem call_57 : Callable Try.prog 57 := callable_of Try.func57 (by kernel_rfl) (by kernel_rfl)
theorem call_58 : Callable Try.prog 58 := callable_of Try.func58 (by kernel_rfl) (by kernel_rfl)
theorem call_59 : Callable Try.prog 59 := callable_of Try.func59 (by kernel_rfl) (by kernel_rfl)
theorem call_60 : Callable Try.prog 60 := callable_of Try.func60 (by kernel_rfl) (by kernel_rfl)
theorem call_61 : Callable Try.prog 61 := callable_of Try.func61 (by kernel_rfl) (by kernel_rfl)
theorem call_62 : Callable Try.prog 62 := callable_of Try.func62 (by kernel_rfl) (by kernel_rfl)
theorem call_63 : Callable Try.prog 63 := callable_of Try.func63 (by kernel_rfl) (by kernel_rfl)
theorem call_64 : Callable Try.prog 64 := callable_of Try.func64 (by kernel_rfl) (by kernel_rfl)
theorem call_65 : Callable Try.prog 65 := callable_of Try.func65 (by kernel_rfl) (by kernel_rfl)
theorem call_66 : Callable Try.prog 66 := callable_of Try.func66 (by kernel_rfl) (by kernel_rfl)
theorem call_67 : Callable Try.prog 67 := callable_of Try.func67 (by kernel_rfl) (by kernel_rfl)
theorem call_68 : Callable Try.prog 68 := callable_of Try.func68 (by kernel_rfl) (by kernel_rfl)
theorem call_70 : Callable Try.prog 70 := callable_of Try.func70 (by kernel_rfl) (by kernel_rfl)
theorem call_71 : Callable Try.prog 71 := callable_of Try.func71 (by kernel_rfl) (by kernel_rfl)
theorem call_72 : Callable Try.prog 72 := callable_of Try.func72 (by kernel_rfl) (by kernel_rfl)
theorem call_73 : Callable Try.prog 73 := callable_of Try.func73 (by kernel_rfl) (by kernel_rfl)
theorem call_74 : Callable Try.prog 74 := callable_of Try.func74 (by kernel_rfl) (by kernel_rfl)
theorem call_75 : Callable Try.prog 75 := callable_of Try.func75 (by kernel_rfl) (by kernel_rfl)
theorem call_78 : Callable Try.prog 78 := callable_of Try.func78 (by kernel_rfl) (by kernel_rfl)
theorem call_80 : Callable Try.prog 80 := callable_of Try.func80 (by kernel_rfl) (by kernel_rfl)
theorem call_82 : Callable Try.prog 82 := callable_of Try.func82 (by kernel_rfl) (by kernel_rfl)
theorem call_83 : Callable Try.prog 83 := callable_of Try.func83 (by kernel_rfl) (by kernel_rfl)
theorem call_84 : Callable Try.prog 84 := callable_of Try.func84 (by kernel_rfl) (by kernel_rfl)
theorem call_85 : Callable Try.prog 85 := callable_of Try.func85 (by kernel_rfl) (by kernel_rfl)
theorem call_86 : Callable Try.prog 86 := callable_of Try.func86 (by kernel_rfl) (by kernel_rfl)
theorem call_87 : Callable Try.prog 87 := callable_of Try.func87 (by kernel_rfl) (by kernel_rfl)
theorem call_88 : Callable Try.prog 88 := callable_of Try.func88 (by kernel_rfl) (by kernel_rfl)
theorem call_89 : Callable Try.prog 89 := callable_of Try.func89 (by kernel_rfl) (by kernel_rfl)
theorem call_90 : Callable Try.prog 90 := callable_of Try.func90 (by kernel_rfl) (by kernel_rfl)
theorem call_92 : Callable Try.prog 92 := callable_of Try.func92 (by kernel_rfl) (by kernel_rfl)
theorem call_93 : Callable Try.prog 93 := callable_of Try.func93 (by kernel_rfl) (by kernel_rfl)
theorem call_94 : Callable Try.prog 94 := callable_of Try.func94 (by kernel_rfl) (by kernel_rfl)
theorem call_95 : Callable Try.prog 95 := callable_of Try.func95 (by kernel_rfl) (by kernel_rfl)
theorem call_96 : Callable Try.prog 96 := callable_of Try.func96 (by kernel_rfl) (by kernel_rfl)
theorem call_97 : Callable Try.prog 97 := callable_of Try.func97 (by kernel_rfl) (by kernel_rfl)
theorem call_98 : Callable Try.prog 98 := callable_of Try.func98 (by kernel_rfl) (by kernel_rfl)
theorem call_99 : Callable Try.prog 99 := callable_of Try.func99 (by kernel_rfl) (by kernel_rfl)
theorem call_100 : Callable Try.prog 100 := callable_of Try.func100 (by kernel_rfl) (by kernel_rfl)
theorem call_101 : Callable Try.prog 101 := callable_of Try.func101 (by kernel_rfl) (by kernel_rfl)
theorem call_102 : Callable Try.prog 102 := callable_of Try.func102 (by kernel_rfl) (by kernel_rfl)
theorem call_111 : Callable Try.prog 111 := callable_of Try.func111 (by kernel_rfl) (by kernel_rfl)
theorem eqTy_7 : (∃ n, n ≤ 10000 ∧ eqTy Try.prog n 7 = some [.int .i64, .int .i64, .bool, .int .u8]) ∧ isAggTy Try.prog 7 = true ∧ Try.prog.eqGuardType Try.prog.depth 7 = false := ⟨⟨12, by decide, by kernel_rfl⟩, by kernel_rfl, by kernel_rfl⟩
theorem eqTy_8 : (∃ n, n ≤ 10000 ∧ eqTy Try.prog n 8 = some [.int .i64, .int .i64, .bool, .int .u8]) ∧ isAggTy Try.prog 8 = true ∧ Try.prog.eqGuardType Try.prog.depth 8 = false := ⟨⟨12, by decide, by kernel_rfl⟩, by kernel_rfl, by kernel_rfl⟩
theorem eqTy_42 : (∃ n, n ≤ 10000 ∧ eqTy Try.prog n 42 = some [.int .i64, .int .i64]) ∧ isAggTy Try.prog 42 = true ∧ Try.prog.eqGuardType Try.prog.depth 42 = false := ⟨⟨12, by decide, by kernel_rfl⟩, by kernel_rfl, by kernel_rfl⟩
theorem eqTy_60 : (∃ n, n ≤ 10000 ∧ eqTy Try.prog n 60 = some [.str, .int .i64, .bool, .int .i64]) ∧ isAggTy Try.prog 60 = true ∧ Try.prog.eqGuardType Try.prog.depth 60 = false := ⟨⟨12, by decide, by kernel_rfl⟩, by kernel_rfl, by kernel_rfl⟩
theorem eqTy_61 : (∃ n, n ≤ 10000 ∧ eqTy Try.prog n 61 = some [.str, .int .i64, .bool, .int .i64]) ∧ isAggTy Try.prog 61 = true ∧ Try.prog.eqGuardType Try.prog.depth 61 = false := ⟨⟨12, by decide, by kernel_rfl⟩, by kernel_rfl, by kernel_rfl⟩
theorem eqTy_63 : (∃ n, n ≤ 10000 ∧ eqTy Try.prog n 63 = some [.int .u8, .int .u8]) ∧ isAggTy Try.prog 63 = true ∧ Try.prog.eqGuardType Try.prog.depth 63 = false := ⟨⟨12, by decide, by kernel_rfl⟩, by kernel_rfl, by kernel_rfl⟩
theorem eqTy_64 : (∃ n, n ≤ 10000 ∧ eqTy Try.prog n 64 = some [.int .i64, .int .i64]) ∧ isAggTy Try.prog 64 = true ∧ Try.prog.eqGuardType Try.prog.depth 64 = false := ⟨⟨12, by decide, by kernel_rfl⟩, by kernel_rfl, by kernel_rfl⟩
theorem eqTy_65 : (∃ n, n ≤ 10000 ∧ eqTy Try.prog n 65 = some [.int .i64, .int .i64]) ∧ isAggTy Try.prog 65 = true ∧ Try.prog.eqGuardType Try.prog.depth 65 = false := ⟨⟨12, by decide, by kernel_rfl⟩, by kernel_rfl, by kernel_rfl⟩
theorem eqTy_86 : (∃ n, n ≤ 10000 ∧ eqTy Try.prog n 86 = some [.int .i64, .bool]) ∧ isAggTy Try.prog 86 = true ∧ Try.prog.eqGuardType Try.prog.depth 86 = false := ⟨⟨12, by decide, by kernel_rfl⟩, by kernel_rfl, by kernel_rfl⟩
theorem eqTy_87 : (∃ n, n ≤ 10000 ∧ eqTy Try.prog n 87 = some [.int .i64, .bool]) ∧ isAggTy Try.prog 87 = true ∧ Try.prog.eqGuardType Try.prog.depth 87 = false := ⟨⟨12, by decide, by kernel_rfl⟩, by kernel_rfl, by kernel_rfl⟩
theorem eqTy_88 : (∃ n, n ≤ 10000 ∧ eqTy Try.prog n 88 = some [.int .i64, .bool, .int .i64, .bool, .int .i64, .bool, .int .i64, .bool, .int .i64, .bool]) ∧ isAggTy Try.prog 88 = true ∧ Try.prog.eqGuardType Try.prog.depth 88 = false := ⟨⟨12, by decide, by kernel_rfl⟩, by kernel_rfl, by kernel_rfl⟩
theorem eqTy_89 : (∃ n, n ≤ 10000 ∧ eqTy Try.prog n 89 = some [.int .i64, .bool, .int .i64, .bool, .int .i64, .bool, .int .i64, .bool, .int .i64, .bool]) ∧ isAggTy Try.prog 89 = true ∧ Try.prog.eqGuardType Try.prog.depth 89 = false := ⟨⟨12, by decide, by kernel_rfl⟩, by kernel_rfl, by kernel_rfl⟩
theorem eqTy_109 : (∃ n, n ≤ 10000 ∧ eqTy Try.prog n 109 = some [.int .i64, .bool, .int .i64, .bool, .int .i64, .bool, .int .i64, .bool, .int .i64, .bool, .int .i64, .int .i64, .int .i64, .int .i64]) ∧ isAggTy Try.prog 109 = true ∧ Try.prog.eqGuardType Try.prog.depth 109 = false := ⟨⟨12, by decide, by kernel_rfl⟩, by kernel_rfl, by kernel_rfl⟩
theorem eqTy_110 : (∃ n, n ≤ 10000 ∧ eqTy Try.prog n 110 = some [.int .i64, .bool, .int .i64, .bool, .int .i64, .bool, .int .i64, .bool, .int .i64, .bool, .int .i64, .int .i64, .int .i64, .int .i64]) ∧ isAggTy Try.prog 110 = true ∧ Try.prog.eqGuardType Try.prog.depth 110 = false := ⟨⟨12, by decide, by kernel_rfl⟩, by kernel_rfl, by kernel_rfl⟩
theorem mapTy_111 : MapTy Try.prog 111 (.one (.int .i64), .v (.int .i64 (0))) := mapTy_of' (n := 12) (z := .int .i64 (0)) und_111 (cs := [.int .i64]) (by kernel_rfl) (by decide) (by kernel_rfl) _ (by kernel_rfl) (by kernel_rfl)
theorem mapTy_128 : MapTy Try.prog 128 (.agg [.int .i64, .bool, .int .i64, .bool, .int .i64, .bool, .int .i64, .bool, .int .i64, .bool], .v (.int .i64 (0))) := mapTy_of' (n := 12) (z := .int .i64 (0)) und_128 (cs := [.int .i64, .bool, .int .i64, .bool, .int .i64, .bool, .int .i64, .bool, .int .i64, .bool]) (by kernel_rfl) (by decide) (by kernel_rfl) _ (by kernel_rfl) (by kernel_rfl)
theorem fieldsOf_7 : ∀ f o, nth [some 0, some 1, some 2, some 3] f = some (some o) → fieldA Try.prog 7 f = some o := by intro f o h; rw [nth_eq] at h; match f, h with
  | 0, h => simp at h; subst h; exact fieldA_7_0
  | 1, h => simp at h; subst h; exact fieldA_7_1
  | 2, h => simp at h; subst h; exact fieldA_7_2
  | 3, h => simp at h; subst h; exact fieldA_7_3
  | n + 4, h => simp at h
theorem placesL_7 : placesA Try.prog 7 = some fun i => ([(0, 1), (1, 1), (2, 1), (3, 1)] : List (Nat × Nat))[i]? := by rw [placesA_7]; congr 1; funext i; simp
theorem fieldsOf_8 : ∀ f o, nth [some 0, some 1, some 2, some 3] f = some (some o) → fieldA Try.prog 8 f = some o := by intro f o h; rw [nth_eq] at h; match f, h with
  | 0, h => simp at h; subst h; exact fieldA_8_0
  | 1, h => simp at h; subst h; exact fieldA_8_1
  | 2, h => simp at h; subst h; exact fieldA_8_2
  | 3, h => simp at h; subst h; exact fieldA_8_3
  | n + 4, h => simp at h
theorem placesL_8 : placesA Try.prog 8 = some fun i => ([(0, 1), (1, 1), (2, 1), (3, 1)] : List (Nat × Nat))[i]? := by rw [placesA_8]; congr 1; funext i; simp
theorem fieldsOf_13 : ∀ f o, nth [some 0, some 1] f = some (some o) → fieldA Try.prog 13 f = some o := by intro f o h; rw [nth_eq] at h; match f, h with
  | 0, h => simp at h; subst h; exact fieldA_13_0
  | 1, h => simp at h; subst h; exact fieldA_13_1
  | n + 2, h => simp at h
theorem placesL_13 : placesA Try.prog 13 = some fun i => ([(0, 1), (1, 1)] : List (Nat × Nat))[i]? := by rw [placesA_13]; congr 1; funext i; simp
theorem fieldsOf_14 : ∀ f o, nth [some 0, some 1] f = some (some o) → fieldA Try.prog 14 f = some o := by intro f o h; rw [nth_eq] at h; match f, h with
  | 0, h => simp at h; subst h; exact fieldA_14_0
  | 1, h => simp at h; subst h; exact fieldA_14_1
  | n + 2, h => simp at h
theorem placesL_14 : placesA Try.prog 14 = some fun i => ([(0, 1), (1, 1)] : List (Nat × Nat))[i]? := by rw [placesA_14]; congr 1; funext i; simp
theorem fieldsOf_18 : ∀ f o, nth [some 0] f = some (some o) → fieldA Try.prog 18 f = some o := by intro f o h; rw [nth_eq] at h; match f, h with
  | 0, h => simp at h; subst h; exact fieldA_18_0
  | n + 1, h => simp at h
theorem placesL_18 : placesA Try.prog 18 = some fun i => ([(0, 1)] : List (Nat × Nat))[i]? := by rw [placesA_18]; congr 1; funext i; simp
theorem fieldsOf_19 : ∀ f o, nth [some 0] f = some (some o) → fieldA Try.prog 19 f = some o := by intro f o h; rw [nth_eq] at h; match f, h with
  | 0, h => simp at h; subst h; exact fieldA_19_0
  | n + 1, h => simp at h
theorem placesL_19 : placesA Try.prog 19 = some fun i => ([(0, 1)] : List (Nat × Nat))[i]? := by rw [placesA_19]; congr 1; funext i; simp
theorem fieldsOf_24 : ∀ f o, nth [some 0, some 1, some 2] f = some (some o) → fieldA Try.prog 24 f = some o := by intro f o h; rw [nth_eq] at h; match f, h with
  | 0, h => simp at h; subst h; exact fieldA_24_0
  | 1, h => simp at h; subst h; exact fieldA_24_1
  | 2, h => simp at h; subst h; exact fieldA_24_2
  | n + 3, h => simp at h
theorem placesL_24 : placesA Try.prog 24 = some fun i => ([(0, 1), (1, 1), (2, 1)] : List (Nat × Nat))[i]? := by rw [placesA_24]; congr 1; funext i; simp
theorem fieldsOf_25 : ∀ f o, nth [some 0, some 1, some 2] f = some (some o) → fieldA Try.prog 25 f = some o := by intro f o h; rw [nth_eq] at h; match f, h with
  | 0, h => simp at h; subst h; exact fieldA_25_0
  | 1, h => simp at h; subst h; exact fieldA_25_1
  | 2, h => simp at h; subst h; exact fieldA_25_2
  | n + 3, h => simp at h
theorem placesL_25 : placesA Try.prog 25 = some fun i => ([(0, 1), (1, 1), (2, 1)] : List (Nat × Nat))[i]? := by rw [placesA_25]; congr 1; funext i; simp
theorem fieldsOf_60 : ∀ f o, nth [some 0, some 1, some 2, some 3] f = some (some o) → fieldA Try.prog 60 f = some o := by intro f o h; rw [nth_eq] at h; match f, h with
  | 0, h => simp at h; subst h; exact fieldA_60_0
  | 1, h => simp at h; subst h; exact fieldA_60_1
  | 2, h => simp at h; subst h; exact fieldA_60_2
  | 3, h => simp at h; subst h; exact fieldA_60_3
  | n + 4, h => simp at h
theorem placesL_60 : placesA Try.prog 60 = some fun i => ([(0, 1), (1, 1), (2, 1), (3, 1)] : List (Nat × Nat))[i]? := by rw [placesA_60]; congr 1; funext i; simp
theorem fieldsOf_61 : ∀ f o, nth [some 0, some 1, some 2, some 3] f = some (some o) → fieldA Try.prog 61 f = some o := by intro f o h; rw [nth_eq] at h; match f, h with
  | 0, h => simp at h; subst h; exact fieldA_61_0
  | 1, h => simp at h; subst h; exact fieldA_61_1
  | 2, h => simp at h; subst h; exact fieldA_61_2
  | 3, h => simp at h; subst h; exact fieldA_61_3
  | n + 4, h => simp at h
theorem placesL_61 : placesA Try.prog 61 = some fun i => ([(0, 1), (1, 1), (2, 1), (3, 1)] : List (Nat × Nat))[i]? := by rw [placesA_61]; congr 1; funext i; simp
theorem fieldsOf_64 : ∀ f o, nth [some 0, some 1] f = some (some o) → fieldA Try.prog 64 f = some o := by intro f o h; rw [nth_eq] at h; match f, h with
  | 0, h => simp at h; subst h; exact fieldA_64_0
  | 1, h => simp at h; subst h; exact fieldA_64_1
  | n + 2, h => simp at h
theorem placesL_64 : placesA Try.prog 64 = some fun i => ([(0, 1), (1, 1)] : List (Nat × Nat))[i]? := by rw [placesA_64]; congr 1; funext i; simp
theorem fieldsOf_65 : ∀ f o, nth [some 0, some 1] f = some (some o) → fieldA Try.prog 65 f = some o := by intro f o h; rw [nth_eq] at h; match f, h with
  | 0, h => simp at h; subst h; exact fieldA_65_0
  | 1, h => simp at h; subst h; exact fieldA_65_1
  | n + 2, h => simp at h
theorem placesL_65 : placesA Try.prog 65 = some fun i => ([(0, 1), (1, 1)] : List (Nat × Nat))[i]? := by rw [placesA_65]; congr 1; funext i; simp
theorem fieldsOf_86 : ∀ f o, nth [some 0, some 1] f = some (some o) → fieldA Try.prog 86 f = some o := by intro f o h; rw [nth_eq] at h; match f, h with
  | 0, h => simp at h; subst h; exact fieldA_86_0
  | 1, h => simp at h; subst h; exact fieldA_86_1
  | n + 2, h => simp at h
theorem placesL_86 : placesA Try.prog 86 = some fun i => ([(0, 1), (1, 1)] : List (Nat × Nat))[i]? := by rw [placesA_86]; congr 1; funext i; simp
theorem fieldsOf_87 : ∀ f o, nth [some 0, some 1] f = some (some o) → fieldA Try.prog 87 f = some o := by intro f o h; rw [nth_eq] at h; match f, h with
  | 0, h => simp at h; subst h; exact fieldA_87_0
  | 1, h => simp at h; subst h; exact fieldA_87_1
  | n + 2, h => simp at h
theorem placesL_87 : placesA Try.prog 87 = some fun i => ([(0, 1), (1, 1)] : List (Nat × Nat))[i]? := by rw [placesA_87]; congr 1; funext i; simp
theorem fieldsOf_90 : ∀ f o, nth [some 0, some 3] f = some (some o) → fieldA Try.prog 90 f = some o := by intro f o h; rw [nth_eq] at h; match f, h with
  | 0, h => simp at h; subst h; exact fieldA_90_0
  | 1, h => simp at h; subst h; exact fieldA_90_1
  | n + 2, h => simp at h
theorem placesL_90 : placesA Try.prog 90 = some fun i => ([(0, 3), (3, 10)] : List (Nat × Nat))[i]? := by rw [placesA_90]; congr 1; funext i; simp
theorem fieldsOf_91 : ∀ f o, nth [some 0, some 3] f = some (some o) → fieldA Try.prog 91 f = some o := by intro f o h; rw [nth_eq] at h; match f, h with
  | 0, h => simp at h; subst h; exact fieldA_91_0
  | 1, h => simp at h; subst h; exact fieldA_91_1
  | n + 2, h => simp at h
theorem placesL_91 : placesA Try.prog 91 = some fun i => ([(0, 3), (3, 10)] : List (Nat × Nat))[i]? := by rw [placesA_91]; congr 1; funext i; simp
theorem fieldsOf_102 : ∀ f o, nth [some 0, some 3] f = some (some o) → fieldA Try.prog 102 f = some o := by intro f o h; rw [nth_eq] at h; match f, h with
  | 0, h => simp at h; subst h; exact fieldA_102_0
  | 1, h => simp at h; subst h; exact fieldA_102_1
  | n + 2, h => simp at h
theorem placesL_102 : placesA Try.prog 102 = some fun i => ([(0, 3), (3, 1)] : List (Nat × Nat))[i]? := by rw [placesA_102]; congr 1; funext i; simp
theorem fieldsOf_103 : ∀ f o, nth [some 0, some 3] f = some (some o) → fieldA Try.prog 103 f = some o := by intro f o h; rw [nth_eq] at h; match f, h with
  | 0, h => simp at h; subst h; exact fieldA_103_0
  | 1, h => simp at h; subst h; exact fieldA_103_1
  | n + 2, h => simp at h
theorem placesL_103 : placesA Try.prog 103 = some fun i => ([(0, 3), (3, 1)] : List (Nat × Nat))[i]? := by rw [placesA_103]; congr 1; funext i; simp
theorem fieldsOf_106 : ∀ f o, nth [some 0, some 1, some 2] f = some (some o) → fieldA Try.prog 106 f = some o := by intro f o h; rw [nth_eq] at h; match f, h with
  | 0, h => simp at h; subst h; exact fieldA_106_0
  | 1, h => simp at h; subst h; exact fieldA_106_1
  | 2, h => simp at h; subst h; exact fieldA_106_2
  | n + 3, h => simp at h
theorem placesL_106 : placesA Try.prog 106 = some fun i => ([(0, 1), (1, 1), (2, 1)] : List (Nat × Nat))[i]? := by rw [placesA_106]; congr 1; funext i; simp
theorem fieldsOf_107 : ∀ f o, nth [some 0, some 1, some 2] f = some (some o) → fieldA Try.prog 107 f = some o := by intro f o h; rw [nth_eq] at h; match f, h with
  | 0, h => simp at h; subst h; exact fieldA_107_0
  | 1, h => simp at h; subst h; exact fieldA_107_1
  | 2, h => simp at h; subst h; exact fieldA_107_2
  | n + 3, h => simp at h
theorem placesL_107 : placesA Try.prog 107 = some fun i => ([(0, 1), (1, 1), (2, 1)] : List (Nat × Nat))[i]? := by rw [placesA_107]; congr 1; funext i; simp
theorem fieldsOf_109 : ∀ f o, nth [some 0, some 10, some 12, some 13] f = some (some o) → fieldA Try.prog 109 f = some o := by intro f o h; rw [nth_eq] at h; match f, h with
  | 0, h => simp at h; subst h; exact fieldA_109_0
  | 1, h => simp at h; subst h; exact fieldA_109_1
  | 2, h => simp at h; subst h; exact fieldA_109_2
  | 3, h => simp at h; subst h; exact fieldA_109_3
  | n + 4, h => simp at h
theorem placesL_109 : placesA Try.prog 109 = some fun i => ([(0, 10), (10, 2), (12, 1), (13, 1)] : List (Nat × Nat))[i]? := by rw [placesA_109]; congr 1; funext i; simp
theorem fieldsOf_110 : ∀ f o, nth [some 0, some 10, some 12, some 13] f = some (some o) → fieldA Try.prog 110 f = some o := by intro f o h; rw [nth_eq] at h; match f, h with
  | 0, h => simp at h; subst h; exact fieldA_110_0
  | 1, h => simp at h; subst h; exact fieldA_110_1
  | 2, h => simp at h; subst h; exact fieldA_110_2
  | 3, h => simp at h; subst h; exact fieldA_110_3
  | n + 4, h => simp at h
theorem placesL_110 : placesA Try.prog 110 = some fun i => ([(0, 10), (10, 2), (12, 1), (13, 1)] : List (Nat × Nat))[i]? := by rw [placesA_110]; congr 1; funext i; simp
theorem fieldsOf_162 : ∀ f o, nth [some 0, some 1, some 2, some 3] f = some (some o) → fieldA Try.prog 162 f = some o := by intro f o h; rw [nth_eq] at h; match f, h with
  | 0, h => simp at h; subst h; exact fieldA_162_0
  | 1, h => simp at h; subst h; exact fieldA_162_1
  | 2, h => simp at h; subst h; exact fieldA_162_2
  | 3, h => simp at h; subst h; exact fieldA_162_3
  | n + 4, h => simp at h
theorem placesL_162 : placesA Try.prog 162 = some fun i => ([(0, 1), (1, 1), (2, 1), (3, 1)] : List (Nat × Nat))[i]? := by rw [placesA_162]; congr 1; funext i; simp
theorem fieldsOf_163 : ∀ f o, nth [some 0, some 1, some 2, some 3] f = some (some o) → fieldA Try.prog 163 f = some o := by intro f o h; rw [nth_eq] at h; match f, h with
  | 0, h => simp at h; subst h; exact fieldA_163_0
  | 1, h => simp at h; subst h; exact fieldA_163_1
  | 2, h => simp at h; subst h; exact fieldA_163_2
  | 3, h => simp at h; subst h; exact fieldA_163_3
  | n + 4, h => simp at h
theorem placesL_163 : placesA Try.prog 163 = some fun i => ([(0, 1), (1, 1), (2, 1), (3, 1)] : List (Nat × Nat))[i]? := by rw [placesA_163]; congr 1; funext i; simp
theorem fieldsOf_165 : ∀ f o, nth [(none : Option Nat)] f = some (some o) → fieldA Try.prog 165 f = some o := by intro f o h; rw [nth_eq] at h; match f, h with
  | 0, h => simp at h
  | n + 1, h => simp at h
theorem placesL_165 : placesA Try.prog 165 = some fun i => ([(0, 0)] : List (Nat × Nat))[i]? := by rw [placesA_165]; congr 1; funext i; simp
theorem fieldsOf_166 : ∀ f o, nth [(none : Option Nat)] f = some (some o) → fieldA Try.prog 166 f = some o := by intro f o h; rw [nth_eq] at h; match f, h with
  | 0, h => simp at h
  | n + 1, h => simp at h
theorem placesL_166 : placesA Try.prog 166 = some fun i => ([(0, 0)] : List (Nat × Nat))[i]? := by rw [placesA_166]; congr 1; funext i; simp
theorem fieldsOf_174 : ∀ f o, nth [some 0, some 1, some 2, some 3, some 4, some 5, some 6, some 7, some 8, some 9, some 10] f = some (some o) → fieldA Try.prog 174 f = some o := by intro f o h; rw [nth_eq] at h; match f, h with
  | 0, h => simp at h; subst h; exact fieldA_174_0
  | 1, h => simp at h; subst h; exact fieldA_174_1
  | 2, h => simp at h; subst h; exact fieldA_174_2
  | 3, h => simp at h; subst h; exact fieldA_174_3
  | 4, h => simp at h; subst h; exact fieldA_174_4
  | 5, h => simp at h; subst h; exact fieldA_174_5
  | 6, h => simp at h; subst h; exact fieldA_174_6
  | 7, h => simp at h; subst h; exact fieldA_174_7
  | 8, h => simp at h; subst h; exact fieldA_174_8
  | 9, h => simp at h; subst h; exact fieldA_174_9
  | 10, h => simp at h; subst h; exact fieldA_174_10
  | n + 11, h => simp at h
theorem placesL_174 : placesA Try.prog 174 = some fun i => ([(0, 1), (1, 1), (2, 1), (3, 1), (4, 1), (5, 1), (6, 1), (7, 1), (8, 1), (9, 1), (10, 1)] : List (Nat × Nat))[i]? := by rw [placesA_174]; congr 1; funext i; simp
theorem fieldsOf_175 : ∀ f o, nth [some 0, some 1, some 2, some 3, some 4, some 5, some 6, some 7, some 8, some 9, some 10] f = some (some o) → fieldA Try.prog 175 f = some o := by intro f o h; rw [nth_eq] at h; match f, h with
  | 0, h => simp at h; subst h; exact fieldA_175_0
  | 1, h => simp at h; subst h; exact fieldA_175_1
  | 2, h => simp at h; subst h; exact fieldA_175_2
  | 3, h => simp at h; subst h; exact fieldA_175_3
  | 4, h => simp at h; subst h; exact fieldA_175_4
  | 5, h => simp at h; subst h; exact fieldA_175_5
  | 6, h => simp at h; subst h; exact fieldA_175_6
  | 7, h => simp at h; subst h; exact fieldA_175_7
  | 8, h => simp at h; subst h; exact fieldA_175_8
  | 9, h => simp at h; subst h; exact fieldA_175_9
  | 10, h => simp at h; subst h; exact fieldA_175_10
  | n + 11, h => simp at h
theorem placesL_175 : placesA Try.prog 175 = some fun i => ([(0, 1), (1, 1), (2, 1), (3, 1), (4, 1), (5, 1), (6, 1), (7, 1), (8, 1), (9, 1), (10, 1)] : List (Nat × Nat))[i]? := by rw [placesA_175]; congr 1; funext i; simp
def tab : Tab where
  var := .nd 90 (true, 13) (.nd 47 (false, 1) (.nd 22 (false, 1) (.nd 11 (false, 1) (.nd 6 (false, 1) (.nd 3 (false, 1) (.nd 2 (false, 1) (.nd 1 (false, 1) (.lf) (.lf)) (.lf)) (.nd 5 (false, 1) (.nd 4 (false, 1) (.lf) (.lf)) (.lf))) (.nd 9 (false, 1) (.nd 8 (true, 4) (.nd 7 (true, 4) (.lf) (.lf)) (.lf)) (.nd 10 (false, 1) (.lf) (.lf)))) (.nd 16 (false, 1) (.nd 14 (true, 2) (.nd 13 (true, 2) (.nd 12 (false, 1) (.lf) (.lf)) (.lf)) (.nd 15 (false, 1) (.lf) (.lf))) (.nd 19 (true, 1) (.nd 18 (true, 1) (.nd 17 (false, 1) (.lf) (.lf)) (.lf)) (.nd 21 (false, 1) (.lf) (.lf))))) (.nd 35 (false, 1) (.nd 28 (false, 1) (.nd 25 (true, 3) (.nd 24 (true, 3) (.nd 23 (false, 1) (.lf) (.lf)) (.lf)) (.nd 26 (false, 1) (.lf) (.lf))) (.nd 32 (false, 1) (.nd 31 (false, 1) (.nd 29 (false, 1) (.lf) (.lf)) (.lf)) (.nd 34 (false, 1) (.lf) (.lf)))) (.nd 41 (false, 1) (.nd 39 (false, 1) (.nd 37 (false, 1) (.nd 36 (false, 1) (.lf) (.lf)) (.lf)) (.nd 40 (false, 1) (.lf) (.lf))) (.nd 45 (false, 1) (.nd 44 (false, 1) (.nd 42 (true, 2) (.lf) (.lf)) (.lf)) (.nd 46 (false, 1) (.lf) (.lf)))))) (.nd 69 (false, 1) (.nd 59 (false, 1) (.nd 54 (false, 1) (.nd 51 (false, 1) (.nd 50 (false, 1) (.nd 49 (false, 1) (.lf) (.lf)) (.lf)) (.nd 53 (false, 1) (.nd 52 (false, 1) (.lf) (.lf)) (.lf))) (.nd 57 (false, 1) (.nd 56 (false, 1) (.nd 55 (false, 1) (.lf) (.lf)) (.lf)) (.nd 58 (false, 1) (.lf) (.lf)))) (.nd 64 (true, 2) (.nd 62 (false, 1) (.nd 61 (true, 4) (.nd 60 (true, 4) (.lf) (.lf)) (.lf)) (.nd 63 (true, 2) (.lf) (.lf))) (.nd 67 (false, 1) (.nd 66 (false, 1) (.nd 65 (true, 2) (.lf) (.lf)) (.lf)) (.nd 68 (false, 1) (.lf) (.lf))))) (.nd 79 (false, 1) (.nd 74 (false, 1) (.nd 72 (false, 1) (.nd 71 (false, 1) (.nd 70 (false, 1) (.lf) (.lf)) (.lf)) (.nd 73 (false, 1) (.lf) (.lf))) (.nd 77 (false, 1) (.nd 76 (false, 1) (.nd 75 (false, 1) (.lf) (.lf)) (.lf)) (.nd 78 (false, 1) (.lf) (.lf)))) (.nd 85 (false, 1) (.nd 82 (false, 1) (.nd 81 (false, 1) (.nd 80 (false, 1) (.lf) (.lf)) (.lf)) (.nd 84 (false, 1) (.lf) (.lf))) (.nd 88 (true, 10) (.nd 87 (true, 2) (.nd 86 (true, 2) (.lf) (.lf)) (.lf)) (.nd 89 (true, 10) (.lf) (.lf))))))) (.nd 135 (false, 1) (.nd 115 (false, 1) (.nd 104 (false, 1) (.nd 99 (false, 1) (.nd 94 (false, 1) (.nd 93 (false, 1) (.nd 91 (true, 13) (.lf) (.lf)) (.lf)) (.nd 97 (false, 1) (.nd 95 (false, 1) (.lf) (.lf)) (.lf))) (.nd 102 (true, 4) (.nd 101 (false, 1) (.nd 100 (false, 1) (.lf) (.lf)) (.lf)) (.nd 103 (true, 4) (.lf) (.lf)))) (.nd 109 (true, 14) (.nd 107 (true, 3) (.nd 106 (true, 3) (.nd 105 (false, 1) (.lf) (.lf)) (.lf)) (.nd 108 (false, 1) (.lf) (.lf))) (.nd 113 (false, 1) (.nd 111 (false, 1) (.nd 110 (true, 14) (.lf) (.lf)) (.lf)) (.nd 114 (false, 1) (.lf) (.lf))))) (.nd 125 (false, 1) (.nd 120 (false, 1) (.nd 118 (false, 1) (.nd 117 (false, 1) (.nd 116 (false, 1) (.lf) (.lf)) (.lf)) (.nd 119 (false, 1) (.lf) (.lf))) (.nd 123 (false, 1) (.nd 122 (false, 1) (.nd 121 (false, 1) (.lf) (.lf)) (.lf)) (.nd 124 (false, 1) (.lf) (.lf)))) (.nd 130 (false, 1) (.nd 128 (false, 1) (.nd 127 (false, 1) (.nd 126 (false, 1) (.lf) (.lf)) (.lf)) (.nd 129 (false, 1) (.lf) (.lf))) (.nd 133 (false, 1) (.nd 132 (false, 1) (.nd 131 (false, 1) (.lf) (.lf)) (.lf)) (.nd 134 (false, 1) (.lf) (.lf)))))) (.nd 156 (false, 1) (.nd 146 (false, 1) (.nd 140 (false, 1) (.nd 138 (false, 1) (.nd 137 (false, 1) (.nd 136 (false, 1) (.lf) (.lf)) (.lf)) (.nd 139 (false, 1) (.lf) (.lf))) (.nd 144 (false, 1) (.nd 142 (false, 1) (.nd 141 (false, 1) (.lf) (.lf)) (.lf)) (.nd 145 (false, 1) (.lf) (.lf)))) (.nd 151 (false, 1) (.nd 149 (false, 1) (.nd 148 (false, 1) (.nd 147 (false, 1) (.lf) (.lf)) (.lf)) (.nd 150 (false, 1) (.lf) (.lf))) (.nd 154 (false, 1) (.nd 153 (false, 1) (.nd 152 (false, 1) (.lf) (.lf)) (.lf)) (.nd 155 (false, 1) (.lf) (.lf))))) (.nd 167 (false, 1) (.nd 162 (true, 4) (.nd 160 (false, 1) (.nd 158 (false, 1) (.nd 157 (false, 1) (.lf) (.lf)) (.lf)) (.nd 161 (false, 1) (.lf) (.lf))) (.nd 165 (true, 0) (.nd 164 (true, 0) (.nd 163 (true, 4) (.lf) (.lf)) (.lf)) (.nd 166 (true, 0) (.lf) (.lf)))) (.nd 172 (false, 1) (.nd 170 (false, 1) (.nd 169 (false, 1) (.nd 168 (false, 1) (.lf) (.lf)) (.lf)) (.nd 171 (false, 1) (.lf) (.lf))) (.nd 175 (true, 11) (.nd 174 (true, 11) (.nd 173 (false, 1) (.lf) (.lf)) (.lf)) (.nd 176 (false, 1) (.lf) (.lf)))))))
  slice := .nd 54 (5, 1, 1) (.nd 29 (3, 1, 8) (.nd 23 (65, 2, 16) (.nd 22 (61, 4, 40) (.lf) (.lf)) (.lf)) (.nd 47 (29, 1, 24) (.lf) (.lf))) (.nd 100 (103, 4, 80) (.nd 79 (9, 1, 16) (.lf) (.lf)) (.nd 105 (110, 14, 112) (.lf) (.lf)))
  array := .nd 88 (5, 2) (.nd 63 (2, 1) (.nd 42 (2, 1) (.lf) (.lf)) (.lf)) (.nd 164 (0, 1) (.nd 89 (5, 2) (.lf) (.lf)) (.lf))
  zero := .nd 90 (13, .agg [.slice 0 [] .tight, .slice 0 [] .tight, .v (.int .i64 (0)), .v (.int .i64 (0)), .v (.bool false), .v (.int .i64 (0)), .v (.bool false), .v (.int .i64 (0)), .v (.bool false), .v (.int .i64 (0)), .v (.bool false), .v (.int .i64 (0)), .v (.bool false)]) (.nd 47 (1, .slice 0 [] .tight) (.nd 22 (1, .slice 0 [] .tight) (.nd 11 (1, .v (.string ⟨#[]⟩)) (.nd 6 (1, .v (.int .u8 (0))) (.nd 3 (1, .v (.int .i64 (0))) (.nd 2 (1, .v (.int .i64 (0))) (.nd 1 (1, .v .nilFunc) (.lf) (.lf)) (.lf)) (.nd 5 (1, .v (.int .u8 (0))) (.nd 4 (1, .v (.bool false)) (.lf) (.lf)) (.lf))) (.nd 9 (1, .v (.string ⟨#[]⟩)) (.nd 8 (4, .agg [.v (.int .i64 (0)), .v (.int .i64 (0)), .v (.bool false), .v (.int .u8 (0))]) (.nd 7 (4, .agg [.v (.int .i64 (0)), .v (.int .i64 (0)), .v (.bool false), .v (.int .u8 (0))]) (.lf) (.lf)) (.lf)) (.nd 10 (1, .v (.string ⟨#[]⟩)) (.lf) (.lf)))) (.nd 16 (1, .v (.pointer none)) (.nd 14 (2, .agg [.v (.string ⟨#[]⟩), .v (.int .u64 (0))]) (.nd 13 (2, .agg [.v (.string ⟨#[]⟩), .v (.int .u64 (0))]) (.nd 12 (1, .v (.int .u64 (0))) (.lf) (.lf)) (.lf)) (.nd 15 (1, .v (.pointer none)) (.lf) (.lf))) (.nd 19 (1, .agg [.v (.pointer none)]) (.nd 18 (1, .agg [.v (.pointer none)]) (.nd 17 (1, .v (.pointer none)) (.lf) (.lf)) (.lf)) (.nd 21 (1, .v (.int .i32 (0))) (.lf) (.lf))))) (.nd 35 (1, .v .nilFunc) (.nd 28 (1, .v .nilFunc) (.nd 25 (3, .agg [.slice 0 [] .tight, .slice 0 [] .tight, .v (.int .i64 (0))]) (.nd 24 (3, .agg [.slice 0 [] .tight, .slice 0 [] .tight, .v (.int .i64 (0))]) (.nd 23 (1, .slice 0 [] .tight) (.lf) (.lf)) (.lf)) (.nd 26 (1, .v (.int .i64 (0))) (.lf) (.lf))) (.nd 32 (1, .v .nilFunc) (.nd 31 (1, .v .nilFunc) (.nd 29 (1, .slice 0 [] .tight) (.lf) (.lf)) (.lf)) (.nd 34 (1, .v .nilFunc) (.lf) (.lf)))) (.nd 41 (1, .v .nilFunc) (.nd 39 (1, .v .nilFunc) (.nd 37 (1, .v .nilFunc) (.nd 36 (1, .v .nilFunc) (.lf) (.lf)) (.lf)) (.nd 40 (1, .v .nilFunc) (.lf) (.lf))) (.nd 45 (1, .v .nilFunc) (.nd 44 (1, .v .nilFunc) (.nd 42 (2, .agg [.v (.int .i64 (0)), .v (.int .i64 (0))]) (.lf) (.lf)) (.lf)) (.nd 46 (1, .v .nilFunc) (.lf) (.lf)))))) (.nd 69 (1, .v .nilFunc) (.nd 59 (1, .v .nilFunc) (.nd 54 (1, .slice 0 [] .tight) (.nd 51 (1, .v .nilFunc) (.nd 50 (1, .v .nilFunc) (.nd 49 (1, .v .nilFunc) (.lf) (.lf)) (.lf)) (.nd 53 (1, .v .nilFunc) (.nd 52 (1, .v .nilFunc) (.lf) (.lf)) (.lf))) (.nd 57 (1, .v .nilFunc) (.nd 56 (1, .v .nilFunc) (.nd 55 (1, .v .nilFunc) (.lf) (.lf)) (.lf)) (.nd 58 (1, .v .nilFunc) (.lf) (.lf)))) (.nd 64 (2, .agg [.v (.int .i64 (0)), .v (.int .i64 (0))]) (.nd 62 (1, .v .nilFunc) (.nd 61 (4, .agg [.v (.string ⟨#[]⟩), .v (.int .i64 (0)), .v (.bool false), .v (.int .i64 (0))]) (.nd 60 (4, .agg [.v (.string ⟨#[]⟩), .v (.int .i64 (0)), .v (.bool false), .v (.int .i64 (0))]) (.lf) (.lf)) (.lf)) (.nd 63 (2, .agg [.v (.int .u8 (0)), .v (.int .u8 (0))]) (.lf) (.lf))) (.nd 67 (1, .v .nilFunc) (.nd 66 (1, .v .nilFunc) (.nd 65 (2, .agg [.v (.int .i64 (0)), .v (.int .i64 (0))]) (.lf) (.lf)) (.lf)) (.nd 68 (1, .v .nilFunc) (.lf) (.lf))))) (.nd 79 (1, .slice 0 [] .tight) (.nd 74 (1, .v .nilFunc) (.nd 72 (1, .v .nilFunc) (.nd 71 (1, .v .nilFunc) (.nd 70 (1, .v .nilFunc) (.lf) (.lf)) (.lf)) (.nd 73 (1, .v .nilFunc) (.lf) (.lf))) (.nd 77 (1, .v .nilFunc) (.nd 76 (1, .v .nilFunc) (.nd 75 (1, .v .nilFunc) (.lf) (.lf)) (.lf)) (.nd 78 (1, .v .nilFunc) (.lf) (.lf)))) (.nd 85 (1, .v .nilFunc) (.nd 82 (1, .v (.pointer none)) (.nd 81 (1, .v .nilFunc) (.nd 80 (1, .v .nilFunc) (.lf) (.lf)) (.lf)) (.nd 84 (1, .v .nilFunc) (.lf) (.lf))) (.nd 88 (10, .agg [.v (.int .i64 (0)), .v (.bool false), .v (.int .i64 (0)), .v (.bool false), .v (.int .i64 (0)), .v (.bool false), .v (.int .i64 (0)), .v (.bool false), .v (.int .i64 (0)), .v (.bool false)]) (.nd 87 (2, .agg [.v (.int .i64 (0)), .v (.bool false)]) (.nd 86 (2, .agg [.v (.int .i64 (0)), .v (.bool false)]) (.lf) (.lf)) (.lf)) (.nd 89 (10, .agg [.v (.int .i64 (0)), .v (.bool false), .v (.int .i64 (0)), .v (.bool false), .v (.int .i64 (0)), .v (.bool false), .v (.int .i64 (0)), .v (.bool false), .v (.int .i64 (0)), .v (.bool false)]) (.lf) (.lf))))))) (.nd 135 (1, .v .nilFunc) (.nd 115 (1, .v .nilFunc) (.nd 104 (1, .v .nilFunc) (.nd 99 (1, .v .nilFunc) (.nd 94 (1, .v .nilFunc) (.nd 93 (1, .v .nilFunc) (.nd 91 (13, .agg [.slice 0 [] .tight, .slice 0 [] .tight, .v (.int .i64 (0)), .v (.int .i64 (0)), .v (.bool false), .v (.int .i64 (0)), .v (.bool false), .v (.int .i64 (0)), .v (.bool false), .v (.int .i64 (0)), .v (.bool false), .v (.int .i64 (0)), .v (.bool false)]) (.lf) (.lf)) (.lf)) (.nd 97 (1, .v .nilFunc) (.nd 95 (1, .v .nilFunc) (.lf) (.lf)) (.lf))) (.nd 102 (4, .agg [.slice 0 [] .tight, .slice 0 [] .tight, .v (.int .i64 (0)), .slice 0 [] .tight]) (.nd 101 (1, .v .nilFunc) (.nd 100 (1, .slice 0 [] .tight) (.lf) (.lf)) (.lf)) (.nd 103 (4, .agg [.slice 0 [] .tight, .slice 0 [] .tight, .v (.int .i64 (0)), .slice 0 [] .tight]) (.lf) (.lf)))) (.nd 109 (14, .agg [.v (.int .i64 (0)), .v (.bool false), .v (.int .i64 (0)), .v (.bool false), .v (.int .i64 (0)), .v (.bool false), .v (.int .i64 (0)), .v (.bool false), .v (.int .i64 (0)), .v (.bool false), .v (.int .i64 (0)), .v (.int .i64 (0)), .v (.int .i64 (0)), .v (.int .i64 (0))]) (.nd 107 (3, .agg [.slice 0 [] .tight, .v (.int .i64 (0)), .v .nilFunc]) (.nd 106 (3, .agg [.slice 0 [] .tight, .v (.int .i64 (0)), .v .nilFunc]) (.nd 105 (1, .slice 0 [] .tight) (.lf) (.lf)) (.lf)) (.nd 108 (1, .v .nilFunc) (.lf) (.lf))) (.nd 113 (1, .v .nilFunc) (.nd 111 (1, .v (.map none)) (.nd 110 (14, .agg [.v (.int .i64 (0)), .v (.bool false), .v (.int .i64 (0)), .v (.bool false), .v (.int .i64 (0)), .v (.bool false), .v (.int .i64 (0)), .v (.bool false), .v (.int .i64 (0)), .v (.bool false), .v (.int .i64 (0)), .v (.int .i64 (0)), .v (.int .i64 (0)), .v (.int .i64 (0))]) (.lf) (.lf)) (.lf)) (.nd 114 (1, .v .nilFunc) (.lf) (.lf))))) (.nd 125 (1, .v .nilFunc) (.nd 120 (1, .v .nilFunc) (.nd 118 (1, .v .nilFunc) (.nd 117 (1, .v .nilFunc) (.nd 116 (1, .v .nilFunc) (.lf) (.lf)) (.lf)) (.nd 119 (1, .v .nilFunc) (.lf) (.lf))) (.nd 123 (1, .v .nilFunc) (.nd 122 (1, .v .nilFunc) (.nd 121 (1, .v .nilFunc) (.lf) (.lf)) (.lf)) (.nd 124 (1, .v .nilFunc) (.lf) (.lf)))) (.nd 130 (1, .v .nilFunc) (.nd 128 (1, .v (.map none)) (.nd 127 (1, .v (.pointer none)) (.nd 126 (1, .v .nilFunc) (.lf) (.lf)) (.lf)) (.nd 129 (1, .v .nilFunc) (.lf) (.lf))) (.nd 133 (1, .v .nilFunc) (.nd 132 (1, .v .nilFunc) (.nd 131 (1, .v .nilFunc) (.lf) (.lf)) (.lf)) (.nd 134 (1, .v .nilFunc) (.lf) (.lf)))))) (.nd 156 (1, .v (.pointer none)) (.nd 146 (1, .v .nilFunc) (.nd 140 (1, .v (.int .u64 (0))) (.nd 138 (1, .v .nilFunc) (.nd 137 (1, .v .nilFunc) (.nd 136 (1, .v .nilFunc) (.lf) (.lf)) (.lf)) (.nd 139 (1, .v .nilFunc) (.lf) (.lf))) (.nd 144 (1, .v .nilFunc) (.nd 142 (1, .v (.int .i64 (0))) (.nd 141 (1, .v .nilFunc) (.lf) (.lf)) (.lf)) (.nd 145 (1, .v .nilFunc) (.lf) (.lf)))) (.nd 151 (1, .v (.int .u64 (0))) (.nd 149 (1, .v (.int .u32 (0))) (.nd 148 (1, .v .nilFunc) (.nd 147 (1, .v .nilFunc) (.lf) (.lf)) (.lf)) (.nd 150 (1, .v .nilFunc) (.lf) (.lf))) (.nd 154 (1, .v .nilFunc) (.nd 153 (1, .v .nilFunc) (.nd 152 (1, .v (.int .u64 (0))) (.lf) (.lf)) (.lf)) (.nd 155 (1, .v .nilFunc) (.lf) (.lf))))) (.nd 167 (1, .v .nilFunc) (.nd 162 (4, .agg [.v (.pointer none), .v (.pointer none), .v (.pointer none), .v (.string ⟨#[]⟩)]) (.nd 160 (1, .v .nilFunc) (.nd 158 (1, .v (.pointer none)) (.nd 157 (1, .v .nilFunc) (.lf) (.lf)) (.lf)) (.nd 161 (1, .v .nilFunc) (.lf) (.lf))) (.nd 165 (0, .agg []) (.nd 164 (0, .agg []) (.nd 163 (4, .agg [.v (.pointer none), .v (.pointer none), .v (.pointer none), .v (.string ⟨#[]⟩)]) (.lf) (.lf)) (.lf)) (.nd 166 (0, .agg []) (.lf) (.lf)))) (.nd 172 (1, .v (.int .i32 (0))) (.nd 170 (1, .v .nilFunc) (.nd 169 (1, .v (.int .u8 (0))) (.nd 168 (1, .v (.int .u8 (0))) (.lf) (.lf)) (.lf)) (.nd 171 (1, .v (.pointer none)) (.lf) (.lf))) (.nd 175 (11, .agg [.v (.int .u64 (0)), .v (.int .u64 (0)), .v (.int .u32 (0)), .v (.int .u8 (0)), .v (.int .u8 (0)), .v (.int .u8 (0)), .v (.int .u8 (0)), .v .nilFunc, .v (.pointer none), .v (.int .i32 (0)), .v (.int .i32 (0))]) (.nd 174 (11, .agg [.v (.int .u64 (0)), .v (.int .u64 (0)), .v (.int .u32 (0)), .v (.int .u8 (0)), .v (.int .u8 (0)), .v (.int .u8 (0)), .v (.int .u8 (0)), .v .nilFunc, .v (.pointer none), .v (.int .i32 (0)), .v (.int .i32 (0))]) (.nd 173 (1, .v (.int .i32 (0))) (.lf) (.lf)) (.lf)) (.nd 176 (1, .v (.pointer none)) (.lf) (.lf)))))))
  field := .nd 90 [some 0, some 3] (.nd 25 [some 0, some 1, some 2] (.nd 14 [some 0, some 1] (.nd 8 [some 0, some 1, some 2, some 3] (.nd 7 [some 0, some 1, some 2, some 3] (.lf) (.lf)) (.nd 13 [some 0, some 1] (.lf) (.lf))) (.nd 19 [some 0] (.nd 18 [some 0] (.lf) (.lf)) (.nd 24 [some 0, some 1, some 2] (.lf) (.lf)))) (.nd 65 [some 0, some 1] (.nd 61 [some 0, some 1, some 2, some 3] (.nd 60 [some 0, some 1, some 2, some 3] (.lf) (.lf)) (.nd 64 [some 0, some 1] (.lf) (.lf))) (.nd 87 [some 0, some 1] (.nd 86 [some 0, some 1] (.lf) (.lf)) (.lf)))) (.nd 110 [some 0, some 10, some 12, some 13] (.nd 106 [some 0, some 1, some 2] (.nd 102 [some 0, some 3] (.nd 91 [some 0, some 3] (.lf) (.lf)) (.nd 103 [some 0, some 3] (.lf) (.lf))) (.nd 109 [some 0, some 10, some 12, some 13] (.nd 107 [some 0, some 1, some 2] (.lf) (.lf)) (.lf))) (.nd 166 [none] (.nd 163 [some 0, some 1, some 2, some 3] (.nd 162 [some 0, some 1, some 2, some 3] (.lf) (.lf)) (.nd 165 [none] (.lf) (.lf))) (.nd 175 [some 0, some 1, some 2, some 3, some 4, some 5, some 6, some 7, some 8, some 9, some 10] (.nd 174 [some 0, some 1, some 2, some 3, some 4, some 5, some 6, some 7, some 8, some 9, some 10] (.lf) (.lf)) (.lf))))
  places := .nd 90 [(0, 3), (3, 10)] (.nd 25 [(0, 1), (1, 1), (2, 1)] (.nd 14 [(0, 1), (1, 1)] (.nd 8 [(0, 1), (1, 1), (2, 1), (3, 1)] (.nd 7 [(0, 1), (1, 1), (2, 1), (3, 1)] (.lf) (.lf)) (.nd 13 [(0, 1), (1, 1)] (.lf) (.lf))) (.nd 19 [(0, 1)] (.nd 18 [(0, 1)] (.lf) (.lf)) (.nd 24 [(0, 1), (1, 1), (2, 1)] (.lf) (.lf)))) (.nd 65 [(0, 1), (1, 1)] (.nd 61 [(0, 1), (1, 1), (2, 1), (3, 1)] (.nd 60 [(0, 1), (1, 1), (2, 1), (3, 1)] (.lf) (.lf)) (.nd 64 [(0, 1), (1, 1)] (.lf) (.lf))) (.nd 87 [(0, 1), (1, 1)] (.nd 86 [(0, 1), (1, 1)] (.lf) (.lf)) (.lf)))) (.nd 110 [(0, 10), (10, 2), (12, 1), (13, 1)] (.nd 106 [(0, 1), (1, 1), (2, 1)] (.nd 102 [(0, 3), (3, 1)] (.nd 91 [(0, 3), (3, 10)] (.lf) (.lf)) (.nd 103 [(0, 3), (3, 1)] (.lf) (.lf))) (.nd 109 [(0, 10), (10, 2), (12, 1), (13, 1)] (.nd 107 [(0, 1), (1, 1), (2, 1)] (.lf) (.lf)) (.lf))) (.nd 166 [(0, 0)] (.nd 163 [(0, 1), (1, 1), (2, 1), (3, 1)] (.nd 162 [(0, 1), (1, 1), (2, 1), (3, 1)] (.lf) (.lf)) (.nd 165 [(0, 0)] (.lf) (.lf))) (.nd 175 [(0, 1), (1, 1), (2, 1), (3, 1), (4, 1), (5, 1), (6, 1), (7, 1), (8, 1), (9, 1), (10, 1)] (.nd 174 [(0, 1), (1, 1), (2, 1), (3, 1), (4, 1), (5, 1), (6, 1), (7, 1), (8, 1), (9, 1), (10, 1)] (.lf) (.lf)) (.lf))))
  placesN := .nd 88 2 (.nd 63 1 (.nd 42 1 (.lf) (.lf)) (.lf)) (.nd 164 1 (.nd 89 2 (.lf) (.lf)) (.lf))
  map := .nd 128 (.agg [.int .i64, .bool, .int .i64, .bool, .int .i64, .bool, .int .i64, .bool, .int .i64, .bool], .v (.int .i64 (0))) (.nd 111 (.one (.int .i64), .v (.int .i64 (0))) (.lf) (.lf)) (.lf)
  eq := .nd 65 [.int .i64, .int .i64] (.nd 60 [.str, .int .i64, .bool, .int .i64] (.nd 8 [.int .i64, .int .i64, .bool, .int .u8] (.nd 7 [.int .i64, .int .i64, .bool, .int .u8] (.lf) (.lf)) (.nd 42 [.int .i64, .int .i64] (.lf) (.lf))) (.nd 63 [.int .u8, .int .u8] (.nd 61 [.str, .int .i64, .bool, .int .i64] (.lf) (.lf)) (.nd 64 [.int .i64, .int .i64] (.lf) (.lf)))) (.nd 89 [.int .i64, .bool, .int .i64, .bool, .int .i64, .bool, .int .i64, .bool, .int .i64, .bool] (.nd 87 [.int .i64, .bool] (.nd 86 [.int .i64, .bool] (.lf) (.lf)) (.nd 88 [.int .i64, .bool, .int .i64, .bool, .int .i64, .bool, .int .i64, .bool, .int .i64, .bool] (.lf) (.lf))) (.nd 110 [.int .i64, .bool, .int .i64, .bool, .int .i64, .bool, .int .i64, .bool, .int .i64, .bool, .int .i64, .int .i64, .int .i64, .int .i64] (.nd 109 [.int .i64, .bool, .int .i64, .bool, .int .i64, .bool, .int .i64, .bool, .int .i64, .bool, .int .i64, .int .i64, .int .i64, .int .i64] (.lf) (.lf)) (.lf)))
  und := .nd 111 .map (.nd 10 .str (.nd 5 (.int .u8) (.nd 3 (.int .i64) (.nd 2 (.int .i64) (.lf) (.lf)) (.lf)) (.nd 9 .str (.nd 6 (.int .u8) (.lf) (.lf)) (.lf))) (.nd 21 (.int .i32) (.nd 12 (.int .u64) (.nd 11 .str (.lf) (.lf)) (.lf)) (.nd 26 (.int .i64) (.lf) (.lf)))) (.nd 152 (.int .u64) (.nd 142 (.int .i64) (.nd 140 (.int .u64) (.nd 128 .map (.lf) (.lf)) (.lf)) (.nd 151 (.int .u64) (.nd 149 (.int .u32) (.lf) (.lf)) (.lf))) (.nd 172 (.int .i32) (.nd 169 (.int .u8) (.nd 168 (.int .u8) (.lf) (.lf)) (.lf)) (.nd 173 (.int .i32) (.lf) (.lf))))
theorem tabOk : tab.Ok Try.prog where
  var := ⟨tyVar_90, ⟨tyVar_47, ⟨tyVar_22, ⟨tyVar_11, ⟨tyVar_6, ⟨tyVar_3, ⟨tyVar_2, ⟨tyVar_1, trivial, trivial⟩, trivial⟩, ⟨tyVar_5, ⟨tyVar_4, trivial, trivial⟩, trivial⟩⟩, ⟨tyVar_9, ⟨tyVar_8, ⟨tyVar_7, trivial, trivial⟩, trivial⟩, ⟨tyVar_10, trivial, trivial⟩⟩⟩, ⟨tyVar_16, ⟨tyVar_14, ⟨tyVar_13, ⟨tyVar_12, trivial, trivial⟩, trivial⟩, ⟨tyVar_15, trivial, trivial⟩⟩, ⟨tyVar_19, ⟨tyVar_18, ⟨tyVar_17, trivial, trivial⟩, trivial⟩, ⟨tyVar_21, trivial, trivial⟩⟩⟩⟩, ⟨tyVar_35, ⟨tyVar_28, ⟨tyVar_25, ⟨tyVar_24, ⟨tyVar_23, trivial, trivial⟩, trivial⟩, ⟨tyVar_26, trivial, trivial⟩⟩, ⟨tyVar_32, ⟨tyVar_31, ⟨tyVar_29, trivial, trivial⟩, trivial⟩, ⟨tyVar_34, trivial, trivial⟩⟩⟩, ⟨tyVar_41, ⟨tyVar_39, ⟨tyVar_37, ⟨tyVar_36, trivial, trivial⟩, trivial⟩, ⟨tyVar_40, trivial, trivial⟩⟩, ⟨tyVar_45, ⟨tyVar_44, ⟨tyVar_42, trivial, trivial⟩, trivial⟩, ⟨tyVar_46, trivial, trivial⟩⟩⟩⟩⟩, ⟨tyVar_69, ⟨tyVar_59, ⟨tyVar_54, ⟨tyVar_51, ⟨tyVar_50, ⟨tyVar_49, trivial, trivial⟩, trivial⟩, ⟨tyVar_53, ⟨tyVar_52, trivial, trivial⟩, trivial⟩⟩, ⟨tyVar_57, ⟨tyVar_56, ⟨tyVar_55, trivial, trivial⟩, trivial⟩, ⟨tyVar_58, trivial, trivial⟩⟩⟩, ⟨tyVar_64, ⟨tyVar_62, ⟨tyVar_61, ⟨tyVar_60, trivial, trivial⟩, trivial⟩, ⟨tyVar_63, trivial, trivial⟩⟩, ⟨tyVar_67, ⟨tyVar_66, ⟨tyVar_65, trivial, trivial⟩, trivial⟩, ⟨tyVar_68, trivial, trivial⟩⟩⟩⟩, ⟨tyVar_79, ⟨tyVar_74, ⟨tyVar_72, ⟨tyVar_71, ⟨tyVar_70, trivial, trivial⟩, trivial⟩, ⟨tyVar_73, trivial, trivial⟩⟩, ⟨tyVar_77, ⟨tyVar_76, ⟨tyVar_75, trivial, trivial⟩, trivial⟩, ⟨tyVar_78, trivial, trivial⟩⟩⟩, ⟨tyVar_85, ⟨tyVar_82, ⟨tyVar_81, ⟨tyVar_80, trivial, trivial⟩, trivial⟩, ⟨tyVar_84, trivial, trivial⟩⟩, ⟨tyVar_88, ⟨tyVar_87, ⟨tyVar_86, trivial, trivial⟩, trivial⟩, ⟨tyVar_89, trivial, trivial⟩⟩⟩⟩⟩⟩, ⟨tyVar_135, ⟨tyVar_115, ⟨tyVar_104, ⟨tyVar_99, ⟨tyVar_94, ⟨tyVar_93, ⟨tyVar_91, trivial, trivial⟩, trivial⟩, ⟨tyVar_97, ⟨tyVar_95, trivial, trivial⟩, trivial⟩⟩, ⟨tyVar_102, ⟨tyVar_101, ⟨tyVar_100, trivial, trivial⟩, trivial⟩, ⟨tyVar_103, trivial, trivial⟩⟩⟩, ⟨tyVar_109, ⟨tyVar_107, ⟨tyVar_106, ⟨tyVar_105, trivial, trivial⟩, trivial⟩, ⟨tyVar_108, trivial, trivial⟩⟩, ⟨tyVar_113, ⟨tyVar_111, ⟨tyVar_110, trivial, trivial⟩, trivial⟩, ⟨tyVar_114, trivial, trivial⟩⟩⟩⟩, ⟨tyVar_125, ⟨tyVar_120, ⟨tyVar_118, ⟨tyVar_117, ⟨tyVar_116, trivial, trivial⟩, trivial⟩, ⟨tyVar_119, trivial, trivial⟩⟩, ⟨tyVar_123, ⟨tyVar_122, ⟨tyVar_121, trivial, trivial⟩, trivial⟩, ⟨tyVar_124, trivial, trivial⟩⟩⟩, ⟨tyVar_130, ⟨tyVar_128, ⟨tyVar_127, ⟨tyVar_126, trivial, trivial⟩, trivial⟩, ⟨tyVar_129, trivial, trivial⟩⟩, ⟨tyVar_133, ⟨tyVar_132, ⟨tyVar_131, trivial, trivial⟩, trivial⟩, ⟨tyVar_134, trivial, trivial⟩⟩⟩⟩⟩, ⟨tyVar_156, ⟨tyVar_146, ⟨tyVar_140, ⟨tyVar_138, ⟨tyVar_137, ⟨tyVar_136, trivial, trivial⟩, trivial⟩, ⟨tyVar_139, trivial, trivial⟩⟩, ⟨tyVar_144, ⟨tyVar_142, ⟨tyVar_141, trivial, trivial⟩, trivial⟩, ⟨tyVar_145, trivial, trivial⟩⟩⟩, ⟨tyVar_151, ⟨tyVar_149, ⟨tyVar_148, ⟨tyVar_147, trivial, trivial⟩, trivial⟩, ⟨tyVar_150, trivial, trivial⟩⟩, ⟨tyVar_154, ⟨tyVar_153, ⟨tyVar_152, trivial, trivial⟩, trivial⟩, ⟨tyVar_155, trivial, trivial⟩⟩⟩⟩, ⟨tyVar_167, ⟨tyVar_162, ⟨tyVar_160, ⟨tyVar_158, ⟨tyVar_157, trivial, trivial⟩, trivial⟩, ⟨tyVar_161, trivial, trivial⟩⟩, ⟨tyVar_165, ⟨tyVar_164, ⟨tyVar_163, trivial, trivial⟩, trivial⟩, ⟨tyVar_166, trivial, trivial⟩⟩⟩, ⟨tyVar_172, ⟨tyVar_170, ⟨tyVar_169, ⟨tyVar_168, trivial, trivial⟩, trivial⟩, ⟨tyVar_171, trivial, trivial⟩⟩, ⟨tyVar_175, ⟨tyVar_174, ⟨tyVar_173, trivial, trivial⟩, trivial⟩, ⟨tyVar_176, trivial, trivial⟩⟩⟩⟩⟩⟩⟩
  slice := ⟨tySlice_54, ⟨tySlice_29, ⟨tySlice_23, ⟨tySlice_22, trivial, trivial⟩, trivial⟩, ⟨tySlice_47, trivial, trivial⟩⟩, ⟨tySlice_100, ⟨tySlice_79, trivial, trivial⟩, ⟨tySlice_105, trivial, trivial⟩⟩⟩
  array := ⟨tyArray_88, ⟨tyArray_63, ⟨tyArray_42, trivial, trivial⟩, trivial⟩, ⟨tyArray_164, ⟨tyArray_89, trivial, trivial⟩, trivial⟩⟩
  zero := ⟨zeroA_90, ⟨zeroA_47, ⟨zeroA_22, ⟨zeroA_11, ⟨zeroA_6, ⟨zeroA_3, ⟨zeroA_2, ⟨zeroA_1, trivial, trivial⟩, trivial⟩, ⟨zeroA_5, ⟨zeroA_4, trivial, trivial⟩, trivial⟩⟩, ⟨zeroA_9, ⟨zeroA_8, ⟨zeroA_7, trivial, trivial⟩, trivial⟩, ⟨zeroA_10, trivial, trivial⟩⟩⟩, ⟨zeroA_16, ⟨zeroA_14, ⟨zeroA_13, ⟨zeroA_12, trivial, trivial⟩, trivial⟩, ⟨zeroA_15, trivial, trivial⟩⟩, ⟨zeroA_19, ⟨zeroA_18, ⟨zeroA_17, trivial, trivial⟩, trivial⟩, ⟨zeroA_21, trivial, trivial⟩⟩⟩⟩, ⟨zeroA_35, ⟨zeroA_28, ⟨zeroA_25, ⟨zeroA_24, ⟨zeroA_23, trivial, trivial⟩, trivial⟩, ⟨zeroA_26, trivial, trivial⟩⟩, ⟨zeroA_32, ⟨zeroA_31, ⟨zeroA_29, trivial, trivial⟩, trivial⟩, ⟨zeroA_34, trivial, trivial⟩⟩⟩, ⟨zeroA_41, ⟨zeroA_39, ⟨zeroA_37, ⟨zeroA_36, trivial, trivial⟩, trivial⟩, ⟨zeroA_40, trivial, trivial⟩⟩, ⟨zeroA_45, ⟨zeroA_44, ⟨zeroA_42, trivial, trivial⟩, trivial⟩, ⟨zeroA_46, trivial, trivial⟩⟩⟩⟩⟩, ⟨zeroA_69, ⟨zeroA_59, ⟨zeroA_54, ⟨zeroA_51, ⟨zeroA_50, ⟨zeroA_49, trivial, trivial⟩, trivial⟩, ⟨zeroA_53, ⟨zeroA_52, trivial, trivial⟩, trivial⟩⟩, ⟨zeroA_57, ⟨zeroA_56, ⟨zeroA_55, trivial, trivial⟩, trivial⟩, ⟨zeroA_58, trivial, trivial⟩⟩⟩, ⟨zeroA_64, ⟨zeroA_62, ⟨zeroA_61, ⟨zeroA_60, trivial, trivial⟩, trivial⟩, ⟨zeroA_63, trivial, trivial⟩⟩, ⟨zeroA_67, ⟨zeroA_66, ⟨zeroA_65, trivial, trivial⟩, trivial⟩, ⟨zeroA_68, trivial, trivial⟩⟩⟩⟩, ⟨zeroA_79, ⟨zeroA_74, ⟨zeroA_72, ⟨zeroA_71, ⟨zeroA_70, trivial, trivial⟩, trivial⟩, ⟨zeroA_73, trivial, trivial⟩⟩, ⟨zeroA_77, ⟨zeroA_76, ⟨zeroA_75, trivial, trivial⟩, trivial⟩, ⟨zeroA_78, trivial, trivial⟩⟩⟩, ⟨zeroA_85, ⟨zeroA_82, ⟨zeroA_81, ⟨zeroA_80, trivial, trivial⟩, trivial⟩, ⟨zeroA_84, trivial, trivial⟩⟩, ⟨zeroA_88, ⟨zeroA_87, ⟨zeroA_86, trivial, trivial⟩, trivial⟩, ⟨zeroA_89, trivial, trivial⟩⟩⟩⟩⟩⟩, ⟨zeroA_135, ⟨zeroA_115, ⟨zeroA_104, ⟨zeroA_99, ⟨zeroA_94, ⟨zeroA_93, ⟨zeroA_91, trivial, trivial⟩, trivial⟩, ⟨zeroA_97, ⟨zeroA_95, trivial, trivial⟩, trivial⟩⟩, ⟨zeroA_102, ⟨zeroA_101, ⟨zeroA_100, trivial, trivial⟩, trivial⟩, ⟨zeroA_103, trivial, trivial⟩⟩⟩, ⟨zeroA_109, ⟨zeroA_107, ⟨zeroA_106, ⟨zeroA_105, trivial, trivial⟩, trivial⟩, ⟨zeroA_108, trivial, trivial⟩⟩, ⟨zeroA_113, ⟨zeroA_111, ⟨zeroA_110, trivial, trivial⟩, trivial⟩, ⟨zeroA_114, trivial, trivial⟩⟩⟩⟩, ⟨zeroA_125, ⟨zeroA_120, ⟨zeroA_118, ⟨zeroA_117, ⟨zeroA_116, trivial, trivial⟩, trivial⟩, ⟨zeroA_119, trivial, trivial⟩⟩, ⟨zeroA_123, ⟨zeroA_122, ⟨zeroA_121, trivial, trivial⟩, trivial⟩, ⟨zeroA_124, trivial, trivial⟩⟩⟩, ⟨zeroA_130, ⟨zeroA_128, ⟨zeroA_127, ⟨zeroA_126, trivial, trivial⟩, trivial⟩, ⟨zeroA_129, trivial, trivial⟩⟩, ⟨zeroA_133, ⟨zeroA_132, ⟨zeroA_131, trivial, trivial⟩, trivial⟩, ⟨zeroA_134, trivial, trivial⟩⟩⟩⟩⟩, ⟨zeroA_156, ⟨zeroA_146, ⟨zeroA_140, ⟨zeroA_138, ⟨zeroA_137, ⟨zeroA_136, trivial, trivial⟩, trivial⟩, ⟨zeroA_139, trivial, trivial⟩⟩, ⟨zeroA_144, ⟨zeroA_142, ⟨zeroA_141, trivial, trivial⟩, trivial⟩, ⟨zeroA_145, trivial, trivial⟩⟩⟩, ⟨zeroA_151, ⟨zeroA_149, ⟨zeroA_148, ⟨zeroA_147, trivial, trivial⟩, trivial⟩, ⟨zeroA_150, trivial, trivial⟩⟩, ⟨zeroA_154, ⟨zeroA_153, ⟨zeroA_152, trivial, trivial⟩, trivial⟩, ⟨zeroA_155, trivial, trivial⟩⟩⟩⟩, ⟨zeroA_167, ⟨zeroA_162, ⟨zeroA_160, ⟨zeroA_158, ⟨zeroA_157, trivial, trivial⟩, trivial⟩, ⟨zeroA_161, trivial, trivial⟩⟩, ⟨zeroA_165, ⟨zeroA_164, ⟨zeroA_163, trivial, trivial⟩, trivial⟩, ⟨zeroA_166, trivial, trivial⟩⟩⟩, ⟨zeroA_172, ⟨zeroA_170, ⟨zeroA_169, ⟨zeroA_168, trivial, trivial⟩, trivial⟩, ⟨zeroA_171, trivial, trivial⟩⟩, ⟨zeroA_175, ⟨zeroA_174, ⟨zeroA_173, trivial, trivial⟩, trivial⟩, ⟨zeroA_176, trivial, trivial⟩⟩⟩⟩⟩⟩⟩
  field := ⟨fieldsOf_90, ⟨fieldsOf_25, ⟨fieldsOf_14, ⟨fieldsOf_8, ⟨fieldsOf_7, trivial, trivial⟩, ⟨fieldsOf_13, trivial, trivial⟩⟩, ⟨fieldsOf_19, ⟨fieldsOf_18, trivial, trivial⟩, ⟨fieldsOf_24, trivial, trivial⟩⟩⟩, ⟨fieldsOf_65, ⟨fieldsOf_61, ⟨fieldsOf_60, trivial, trivial⟩, ⟨fieldsOf_64, trivial, trivial⟩⟩, ⟨fieldsOf_87, ⟨fieldsOf_86, trivial, trivial⟩, trivial⟩⟩⟩, ⟨fieldsOf_110, ⟨fieldsOf_106, ⟨fieldsOf_102, ⟨fieldsOf_91, trivial, trivial⟩, ⟨fieldsOf_103, trivial, trivial⟩⟩, ⟨fieldsOf_109, ⟨fieldsOf_107, trivial, trivial⟩, trivial⟩⟩, ⟨fieldsOf_166, ⟨fieldsOf_163, ⟨fieldsOf_162, trivial, trivial⟩, ⟨fieldsOf_165, trivial, trivial⟩⟩, ⟨fieldsOf_175, ⟨fieldsOf_174, trivial, trivial⟩, trivial⟩⟩⟩⟩
  places := ⟨placesL_90, ⟨placesL_25, ⟨placesL_14, ⟨placesL_8, ⟨placesL_7, trivial, trivial⟩, ⟨placesL_13, trivial, trivial⟩⟩, ⟨placesL_19, ⟨placesL_18, trivial, trivial⟩, ⟨placesL_24, trivial, trivial⟩⟩⟩, ⟨placesL_65, ⟨placesL_61, ⟨placesL_60, trivial, trivial⟩, ⟨placesL_64, trivial, trivial⟩⟩, ⟨placesL_87, ⟨placesL_86, trivial, trivial⟩, trivial⟩⟩⟩, ⟨placesL_110, ⟨placesL_106, ⟨placesL_102, ⟨placesL_91, trivial, trivial⟩, ⟨placesL_103, trivial, trivial⟩⟩, ⟨placesL_109, ⟨placesL_107, trivial, trivial⟩, trivial⟩⟩, ⟨placesL_166, ⟨placesL_163, ⟨placesL_162, trivial, trivial⟩, ⟨placesL_165, trivial, trivial⟩⟩, ⟨placesL_175, ⟨placesL_174, trivial, trivial⟩, trivial⟩⟩⟩⟩
  placesN := ⟨placesA_88, ⟨placesA_63, ⟨placesA_42, trivial, trivial⟩, trivial⟩, ⟨placesA_164, ⟨placesA_89, trivial, trivial⟩, trivial⟩⟩
  map := ⟨mapTy_128, ⟨mapTy_111, trivial, trivial⟩, trivial⟩
  eq := ⟨eqTy_65, ⟨eqTy_60, ⟨eqTy_8, ⟨eqTy_7, trivial, trivial⟩, ⟨eqTy_42, trivial, trivial⟩⟩, ⟨eqTy_63, ⟨eqTy_61, trivial, trivial⟩, ⟨eqTy_64, trivial, trivial⟩⟩⟩, ⟨eqTy_89, ⟨eqTy_87, ⟨eqTy_86, trivial, trivial⟩, ⟨eqTy_88, trivial, trivial⟩⟩, ⟨eqTy_110, ⟨eqTy_109, trivial, trivial⟩, trivial⟩⟩⟩
  und := ⟨⟨_, _, und_111⟩, ⟨und_10, ⟨und_5, ⟨und_3, ⟨und_2, trivial, trivial⟩, trivial⟩, ⟨und_9, ⟨und_6, trivial, trivial⟩, trivial⟩⟩, ⟨und_21, ⟨und_12, ⟨und_11, trivial, trivial⟩, trivial⟩, ⟨und_26, trivial, trivial⟩⟩⟩, ⟨und_152, ⟨und_142, ⟨und_140, ⟨⟨_, _, und_128⟩, trivial, trivial⟩, trivial⟩, ⟨und_151, ⟨und_149, trivial, trivial⟩, trivial⟩⟩, ⟨und_172, ⟨und_169, ⟨und_168, trivial, trivial⟩, trivial⟩, ⟨und_173, trivial, trivial⟩⟩⟩⟩
theorem mixed : Try.prog.follows .mixedOrders = true := by kernel_rfl
end Go.Proofs.Ytmggofcaeolaiaa
namespace Go.Proofs.Ytmggofcaeolaiaa
open Go.Am Go.Proofs Go
structure Fig where
  name : ByteArray
  has : Int
  broken : Bool
  wants : Int
deriving DecidableEq
structure Stp where
  a : Int
  b : Int
deriving DecidableEq
structure Row where
  figs : List Fig
  beside : List Stp
  bench : Int
def intA (n : Int) : AV := .v (.int .i64 n)
def boolA (b : Bool) : AV := .v (.bool b)
def strA (s : ByteArray) : AV := .v (.string s)
def figA (f : Fig) : AV := .agg [strA f.name, intA f.has, boolA f.broken, intA f.wants]
def stpA (s : Stp) : AV := .agg [intA s.a, intA s.b]
def figsA (l : List Fig) : AV := .slice 4 (l.map figA) .no
def stpsA (l : List Stp) : AV := .slice 2 (l.map stpA) .no
def intsA (l : List Int) : AV := .slice 1 (l.map intA) .no
def rowA (r : Row) : AV := .agg [figsA r.figs, stpsA r.beside, intA r.bench]
end Go.Proofs.Ytmggofcaeolaiaa
namespace Go.Am
open Go
def Wk (x x' : AV) : Prop := ∀ (w : World) (imm : Nat → Nat → Prop) (y : Value), PRel w imm x y → PRel w imm x' y
theorem Wk.refl (x : AV) : Wk x x := fun _ _ _ h => h
def nilS : AV := .slice 0 [] .no
theorem Wk.nil (sz : Nat) : Wk nilS (.slice sz [] .no) := fun w imm y h => by
  unfold nilS at h
  cases h with
  | nil => exact .nil sz .no (.inl rfl)
  | slice ys hcap ht hm hsz hc hp =>
    exact PRel.slice (es := []) (fun _ _ => .bool false) (Nat.zero_le _) (.inl rfl) hm (fun i e h => by simp at h) (fun i e c x h => by simp at h) (fun i e c x h => by simp at h)
def WkL : List AV → List AV → Prop
  | [], [] => True
  | x :: xs, y :: ys => Wk x y ∧ WkL xs ys
  | _, _ => False
theorem WkL.refl : ∀ l : List AV, WkL l l
  | [] => trivial
  | x :: xs => ⟨Wk.refl x, WkL.refl xs⟩
theorem WkL.cons {x x' : AV} {l l' : List AV} (h : Wk x x') (t : WkL l l') : WkL (x :: l) (x' :: l') := ⟨h, t⟩
theorem WkL.get : ∀ {l l' : List AV}, WkL l l' → l.length = l'.length ∧ ∀ (i : Nat) (x' : AV), l'[i]? = some x' → ∃ x, l[i]? = some x ∧ Wk x x'
  | [], [], _ => ⟨rfl, fun i x' h => by simp at h⟩
  | x :: xs, y :: ys, h => by
    obtain ⟨h1, h2⟩ := WkL.get h.2
    refine ⟨by simp [h1], fun i x' hx => ?_⟩
    cases i with
    | zero => simp at hx; subst hx; exact ⟨x, rfl, h.1⟩
    | succ i => exact h2 i x' (by simpa using hx)
theorem Wk.tuple {l l' : List AV} (h : WkL l l') : Wk (.tuple l) (.tuple l') := fun w imm y hy => by
  obtain ⟨h1, h2⟩ := h.get
  cases hy with
  | tuple hl hp =>
    refine .tuple (by rw [hl, h1]) fun i x y hx hy => ?_
    obtain ⟨u, hu, hw⟩ := h2 i x hx
    exact hw _ _ _ (hp i u y hu hy)
theorem Wk.agg {l l' : List AV} (h : WkL l l') : Wk (.agg l) (.agg l') := fun w imm y hy => by
  obtain ⟨h1, h2⟩ := h.get
  cases hy with
  | agg hl hp ho =>
    refine .agg (by rw [hl, h1]) (fun i x y hx hy => ?_) ho
    obtain ⟨u, hu, hw⟩ := h2 i x hx
    exact hw _ _ _ (hp i u y hu hy)
theorem PureA.wk {P : Program} {f : FuncId} {args : List AV} {res res' : AV} (h : PureA P f args res) (hw : Wk res res') : PureA P f args res' :=
  ⟨h.1, fun w imm cargs hi hr => (h.2 w imm cargs hi hr).mono fun _ _ ⟨y, imm', he, h1, h2, h3⟩ => ⟨y, imm', he, h1, hw _ _ _ h2, h3⟩⟩
theorem PureF.wk {P : Program} {f : FuncId} {args : List AV} {res res' : AV} (h : PureF P f args res) (hw : Wk res res') : PureF P f args res' :=
  ⟨h.1, fun w imm cargs hi hr => (h.2 w imm cargs hi hr).mono fun _ _ ⟨y, imm', he, h1, h2, h3⟩ => ⟨y, imm', he, h1, hw _ _ _ h2, h3⟩⟩
theorem PRels.wk {w : World} {imm : Nat → Nat → Prop} {args args' : List AV} {cargs : Array Value} (h : PRels w imm args cargs) (hw : WkL args args') : PRels w imm args' cargs := by
  obtain ⟨h1, h2⟩ := hw.get
  refine ⟨by rw [h.1, h1], fun i x y hx hy => ?_⟩
  obtain ⟨u, hu, hk⟩ := h2 i x hx
  exact hk _ _ _ (h.2 i u y hu hy)
theorem PureA.args {P : Program} {f : FuncId} {args args' : List AV} {res : AV} (h : PureA P f args' res) (hw : WkL args args') : PureA P f args res :=
  ⟨h.1, fun w imm cargs hi hr => h.2 w imm cargs hi (hr.wk hw)⟩
theorem PRels.put {w : World} {imm : Nat → Nat → Prop} {pre post : List AV} {x x' : AV} {cargs : Array Value} (h : PRels w imm (pre ++ x :: post) cargs)
    (hx : ∀ y, PRel w imm x y → cargs[pre.length]? = some y → PRel w imm x' y) : PRels w imm (pre ++ x' :: post) cargs := by
  refine ⟨by rw [h.1]; simp, fun i u y hu hy => ?_⟩
  by_cases hi : i = pre.length
  · subst hi
    have hu' : u = x' := by simpa using hu.symm
    subst hu'
    exact hx y (h.2 pre.length x y (by simp) hy) hy
  · refine h.2 i u y ?_ hy
    rw [List.getElem?_append] at hu ⊢
    by_cases hl : i < pre.length
    · simpa [hl] using hu
    · simp only [if_neg hl] at hu ⊢
      obtain ⟨j, hj⟩ : ∃ j, i - pre.length = j + 1 := ⟨i - pre.length - 1, by omega⟩
      rw [hj] at hu ⊢
      simpa using hu
theorem PureA.empty {P : Program} {f : FuncId} {pre post : List AV} {sz : Nat} {tok : Tok} {res : AV} (hn : PureA P f (pre ++ .v (.slice none 0 0) :: post) res)
    (hs : ∀ b o c, c ≤ maxLen → PureA P f (pre ++ .v (.slice (some ⟨b, o, none⟩) 0 c) :: post) res) : PureA P f (pre ++ .slice sz [] tok :: post) res := by
  refine ⟨hn.1, fun w imm cargs hi hr => ?_⟩
  obtain ⟨y, hy⟩ : ∃ y, cargs[pre.length]? = some y := by
    have : pre.length < cargs.size := by rw [hr.1]; simp
    exact ⟨cargs[pre.length], by simp [this]⟩
  have hp := hr.2 pre.length (.slice sz [] tok) y (by simp) hy
  cases hp with
  | nil => exact hn.2 w imm cargs hi (hr.put fun y' _ hy' => by rw [hy] at hy'; cases hy'; exact .v _)
  | slice ys hcap ht hm => exact (hs _ _ _ hm).2 w imm cargs hi (hr.put fun y' _ hy' => by rw [hy] at hy'; cases hy'; exact .v _)
def AV.bare : AV → Bool
  | .slice _ _ (.own _ _) => false
  | .slice _ _ _ => true
  | .v _ => true
  | _ => false
theorem BoxA.pure {P : Program} {f : FuncId} {args : List AV} {res : AV} (h : BoxA P (.fn f) [] args res []) (hb : res.bare = true) : PureA P f args res := by
  refine ⟨h.1, fun w imm cargs hi hr => ?_⟩
  let C : Ctx := { w, imm, own := fun _ => none, gb := fun _ => 0, jb := fun _ => 0, gt := fun _ => 0, hw := fun _ => 0 }
  have hR : Rel 0 (fun b => b < w.heap.size ∧ C.own b = none) w (preSt []) C ⟨#[], []⟩ w := {
    cw := rfl, size := rfl, defers := Marks.nil _ _, slot := fun i hi => absurd hi (by omega)
    gb := fun k => rfl, gt := fun k => rfl, hw := fun k => rfl
    box := fun k sz es h => by simp [preSt, lookE] at h
    ownBox := fun b k h => by simp [C] at h
    immLt := hi
    ownLt := fun b o h => by simp [C] at h
    below := Bel.refl _ _
    base := fun b h => h.1 }
  refine (h.2 C w cargs hR (fun b o h => by simp [C] at h) ⟨hr.1, fun i x y hx hy => .pure (hr.2 i x y hx hy)⟩).mono ?_
  rintro e w' ⟨y, S', C', rfl, hle, hR', hk, _⟩
  refine ⟨y, C'.imm, rfl, fun b i hb' => ⟨hR'.immLt b i hb', fun hl => ?_⟩, ?_, below_of (hR'.below.mono fun b hb => ⟨hb, rfl⟩)⟩
  · rcases hle.immOld b i hl hb' with h | ⟨k, h⟩ | ⟨k, h, _⟩
    · exact h
    · simp [C] at h
    · simp [C] at h
  · rw [← hR'.cw]
    cases hk with
    | pure h => exact h
    | _ => simp [AV.bare] at hb
def bareC (w : World) (imm : Nat → Nat → Prop) : Ctx := { w, imm, own := fun _ => none, gb := fun _ => 0, jb := fun _ => 0, gt := fun _ => 0, hw := fun _ => 0 }
theorem bareC_rel {w : World} {imm : Nat → Nat → Prop} (hi : ∀ b i, imm b i → b < w.heap.size) : Rel 0 (fun b => b < w.heap.size ∧ (bareC w imm).own b = none) w (preSt []) (bareC w imm) ⟨#[], []⟩ w where
  cw := rfl
  size := rfl
  defers := Marks.nil _ _
  slot := fun i hi => absurd hi (by omega)
  gb := fun k => rfl
  gt := fun k => rfl
  hw := fun k => rfl
  box := fun k sz es h => by simp [preSt, lookE] at h
  ownBox := fun b k h => by simp [bareC] at h
  immLt := hi
  ownLt := fun b o h => by simp [bareC] at h
  below := Bel.refl _ _
  base := fun b h => h.1
theorem KRel.tuple2 {C : Ctx} {a b : AV} {y : Value} (h : KRel C (.tuple [a, b]) y) : ∃ u v, y = .tuple #[u, v] ∧ KRel C a u ∧ KRel C b v := by
  have key : ∀ {vs : Array Value}, vs.size = 2 → (∀ (i : Nat) (x : AV) (y : Value), [a, b][i]? = some x → vs[i]? = some y → KRel C x y) → ∃ u v, (Value.tuple vs) = .tuple #[u, v] ∧ KRel C a u ∧ KRel C b v := by
    intro vs h1 h2
    obtain ⟨l⟩ := vs
    match l, h1 with
    | [u, v], _ => exact ⟨u, v, rfl, h2 0 a u rfl rfl, h2 1 b v rfl rfl⟩
  cases h with
  | pure hp => cases hp with
    | tuple hl hp => exact key hl fun i x y h1 h2 => .pure (hp i x y h1 h2)
  | tuple hl hp => exact key hl hp
theorem BoxA.fresh {P : Program} {f : FuncId} {args : List AV} {k : Key} {g sz cap : Nat} {es : List AV} {u : Value} (hs0 : sz ≠ 0) (hv : ∀ e ∈ es, ∀ x ∈ e.cells, ∃ z, x = .v z)
    (h : BoxA P (.fn f) [] args (.tuple [.own k g sz es.length cap, .v u]) [(k, g, sz, es)]) : PureF P f args (.tuple [.slice sz es .no, .v u]) := by
  refine ⟨h.1, fun w imm cargs hi hr => ?_⟩
  refine (h.2 (bareC w imm) w cargs (bareC_rel hi) (fun b o h => by simp [bareC] at h) ⟨hr.1, fun i x y hx hy => .pure (hr.2 i x y hx hy)⟩).mono ?_
  rintro e w' ⟨y, S', C', rfl, hle, hR', hk, hp⟩
  have hbox := hp _ (List.mem_singleton.2 rfl)
  simp only at hbox
  obtain ⟨y0, y1, rfl, hk0, hk1⟩ := hk.tuple2
  have hgb : C'.gb k = g := by rw [hR'.gb, hbox]
  have hbk := hR'.box k sz es (by rw [hbox])
  have hbel : RowKit.Below w.heap.size w w' := below_of (hR'.below.mono fun b hb => ⟨hb, rfl⟩)
  have two : ∀ imm' : Nat → Nat → Prop, PRel w' imm' (.slice sz es .no) y0 → PRel w' imm' (.tuple [.slice sz es .no, .v u]) (.tuple #[y0, y1]) := by
    intro imm' h0
    have h1 : y1 = u := hk1.val rfl
    subst h1
    refine .tuple rfl fun i x y hx hy => ?_
    match i with
    | 0 => simp at hx hy; subst hx hy; exact h0
    | 1 => simp at hx hy; subst hx hy; exact .v _
    | i + 2 => simp at hx
  by_cases hne : es = []
  · subst hne
    refine ⟨_, fun _ _ => False, rfl, fun b i hb => hb.elim, two _ ?_, hbel⟩
    cases hk0 with
    | pure hp => cases hp
    | ownOld hlt => omega
    | own hn hm => exact PRel.slice (es := []) (fun _ _ => .bool false) hn (.inl rfl) hm (fun i e h => by simp at h) (fun i e c x h => by simp at h) (fun i e c x h => by simp at h)
    | ownNil hb =>
      rcases hb with rfl | ⟨x, z, rfl⟩
      · exact .nil sz .no (.inl rfl)
      · exact PRel.slice (es := []) (fun _ _ => .bool false) (Nat.le_refl _) (.inl rfl) (Nat.zero_le _) (fun i e h => by simp at h) (fun i e c x h => by simp at h) (fun i e c x h => by simp at h)
  · obtain ⟨ho, arr, et, ha, hl, hc⟩ := hbk.own hs0 hne
    have hnew := hR'.ownLt _ _ ho
    refine ⟨_, fun b i => b = C'.jb k ∧ i < arr.size, rfl, fun b i hb => ?_, two _ ?_, hbel⟩
    · obtain ⟨rfl, _⟩ := hb
      exact ⟨hnew.2, fun hlt => hnew.1 ⟨hlt, rfl⟩⟩
    · have hn0 : es.length ≠ 0 := fun e => hne (List.length_eq_zero_iff.1 e)
      generalize hN : es.length = N at hk0
      cases hk0 with
      | pure hp => cases hp
      | ownOld hlt => omega
      | own hn hm =>
        subst hN
        rw [hR'.cw] at ha
        refine PRel.slice (fun i c => (arr[i * sz + c]?).getD (.bool false)) hn (.inl rfl) hm (fun i e he => hbk.wid hs0 i e he) (fun i e c x he hx => ?_) (fun i e c x he hx => ?_)
        · obtain ⟨y, hy, _, h1⟩ := hc i e c x he hx
          have hlt := (Array.getElem?_eq_some_iff.1 hy).1
          refine ⟨?_, ⟨rfl, by omega⟩, by rw [hy]; exact h1⟩
          rw [Nat.zero_add, hy, Option.getD_some]
          unfold World.cell?
          simp only [ha]
          simpa using hy
        · obtain ⟨y, hy, hk, _⟩ := hc i e c x he hx
          obtain ⟨z, rfl⟩ := hv e (List.mem_of_getElem? he) x (List.mem_of_getElem? hx)
          rw [hy, Option.getD_some, hk.val rfl]
          exact .v _
      | ownNil hb => exact absurd hN hn0
theorem BoxA.fresh0 {P : Program} {f : FuncId} {args : List AV} {u : Value} (h : BoxA P (.fn f) [] args (.tuple [.slice 0 [] .tight, .v u]) []) : PureF P f args (.tuple [nilS, .v u]) := by
  refine ⟨h.1, fun w imm cargs hi hr => ?_⟩
  refine (h.2 (bareC w imm) w cargs (bareC_rel hi) (fun b o h => by simp [bareC] at h) ⟨hr.1, fun i x y hx hy => .pure (hr.2 i x y hx hy)⟩).mono ?_
  rintro e w' ⟨y, S', C', rfl, hle, hR', hk, hp⟩
  obtain ⟨y0, y1, rfl, hk0, hk1⟩ := hk.tuple2
  refine ⟨_, fun _ _ => False, rfl, fun b i hb => hb.elim, ?_, below_of (hR'.below.mono fun b hb => ⟨hb, rfl⟩)⟩
  have h1 : y1 = u := hk1.val rfl
  subst h1
  refine .tuple rfl fun i x y hx hy => ?_
  match i with
  | 0 =>
    simp at hx hy; subst hx hy
    cases hk0 with
    | pure hp => cases hp with
      | nil => exact .nil 0 .no (.inl rfl)
      | slice ys hcap ht hm => exact PRel.slice (es := []) (fun _ _ => .bool false) hcap (.inl rfl) hm (fun i e h => by simp at h) (fun i e c x h => by simp at h) (fun i e c x h => by simp at h)
  | 1 => simp at hx hy; subst hx hy; exact .v _
  | i + 2 => simp at hx
theorem BoxA.fresh1 {P : Program} {f : FuncId} {args : List AV} {u : Value} (h : BoxA P (.fn f) [] args (.tuple [.slice 0 [] .no, .v u]) []) : PureF P f args (.tuple [nilS, .v u]) := by
  refine ⟨h.1, fun w imm cargs hi hr => ?_⟩
  refine (h.2 (bareC w imm) w cargs (bareC_rel hi) (fun b o h => by simp [bareC] at h) ⟨hr.1, fun i x y hx hy => .pure (hr.2 i x y hx hy)⟩).mono ?_
  rintro e w' ⟨y, S', C', rfl, hle, hR', hk, hp⟩
  obtain ⟨y0, y1, rfl, hk0, hk1⟩ := hk.tuple2
  refine ⟨_, fun _ _ => False, rfl, fun b i hb => hb.elim, ?_, below_of (hR'.below.mono fun b hb => ⟨hb, rfl⟩)⟩
  have h1 : y1 = u := hk1.val rfl
  subst h1
  refine .tuple rfl fun i x y hx hy => ?_
  match i with
  | 0 =>
    simp at hx hy; subst hx hy
    cases hk0 with
    | pure hp => cases hp with
      | nil => exact .nil 0 .no (.inl rfl)
      | slice ys hcap ht hm => exact PRel.slice (es := []) (fun _ _ => .bool false) hcap (.inl rfl) hm (fun i e h => by simp at h) (fun i e c x h => by simp at h) (fun i e c x h => by simp at h)
  | 1 => simp at hx hy; subst hx hy; exact .v _
  | i + 2 => simp at hx
end Go.Am
namespace Go.Proofs.Ytmggofcaeolaiaa
open Go.Am Go.Proofs Go
def idxFrom {α : Type} (p : α → Bool) : Nat → List α → Int
  | _, [] => -1
  | i, x :: xs => if p x then i else idxFrom p (i + 1) xs
def idx {α : Type} (p : α → Bool) (l : List α) : Int := idxFrom p 0 l
theorem idxFrom_any {α : Type} (p : α → Bool) : ∀ (l : List α) (i : Nat), decide (0 ≤ idxFrom p i l) = l.any p
  | [], i => by simp [idxFrom]
  | x :: xs, i => by
    simp only [idxFrom, List.any_cons]
    by_cases h : p x = true
    · simp [h]
    · simp only [h]
      have := idxFrom_any p xs (i + 1)
      simpa using this
theorem idx_any {α : Type} (p : α → Bool) (l : List α) : decide (0 ≤ idx p l) = l.any p := idxFrom_any p l 0
def Fig.right (f : Fig) : Bool := f.wants == -1 || (f.has == f.wants && !f.broken)
def within (n l m : Int) : Bool := l ≤ n && n ≤ m
def outside (l m n : Int) : Bool := n < l || m < n
theorem stp_eqL (x s : Stp) : eqL [.int .i64 x.a, .int .i64 x.b] [.int .i64 s.a, .int .i64 s.b] = (x == s) := by
  cases x; cases s
  rw [Bool.eq_iff_iff]
  simp [eqL, eqC]
theorem within_c (n l m : Int) : PureA Try.prog 61 [intA n, intA l, intA m] (boolA (within n l m)) := by
  refine pureA_codeB tabOk { l := 0, f := 61 } mixed call_61 Try.func61 (by kernel_rfl) ?_
  conv => whnf
  repeat (any_goals (first | exact falseI | (refine brP_dec (fun _ => ?_) (fun _ => ?_) <;> first | (exfalso; omega) | conv => whnf) | (refine brP_ndec (fun _ => ?_) (fun _ => ?_) <;> first | (exfalso; omega) | conv => whnf) | ((first | refine And.intro (DrawOk.mk (by kernel_rfl)) ?_ | refine okI ?_ | refine brP_true (Nat.beq_refl _) ?_ | refine brP_intro (fun _ => ?_) (fun _ => ?_) | refine bndI ?_ | intro _) <;> conv => whnf)))
  all_goals (refine ⟨⟨?_⟩, trivial⟩; simp [*, within, oneOf, boolA])
theorem within1_c (n l m : Int) : PureA Try.prog 94 [intA n, intA l, intA m] (boolA (within n l m)) := by
  refine pureA_codeB tabOk { l := 0, f := 94 } mixed call_94 Try.func94 (by kernel_rfl) ?_
  conv => whnf
  repeat (any_goals (first | exact falseI | (refine brP_dec (fun _ => ?_) (fun _ => ?_) <;> first | (exfalso; omega) | conv => whnf) | (refine brP_ndec (fun _ => ?_) (fun _ => ?_) <;> first | (exfalso; omega) | conv => whnf) | ((first | refine And.intro (DrawOk.mk (by kernel_rfl)) ?_ | refine okI ?_ | refine brP_true (Nat.beq_refl _) ?_ | refine brP_intro (fun _ => ?_) (fun _ => ?_) | refine bndI ?_ | intro _) <;> conv => whnf)))
  all_goals (refine ⟨⟨?_⟩, trivial⟩; simp [*, within, oneOf, boolA])
theorem right_c (f : Fig) : PureA Try.prog 82 [figA f] (boolA f.right) := by
  refine pureA_codeB tabOk { l := 0, f := 82 } mixed call_82 Try.func82 (by kernel_rfl) ?_
  conv => whnf
  repeat (any_goals (first | exact falseI | (refine brP_dec (fun _ => ?_) (fun _ => ?_) <;> first | (exfalso; omega) | conv => whnf) | (refine brP_ndec (fun _ => ?_) (fun _ => ?_) <;> first | (exfalso; omega) | conv => whnf) | ((first | refine And.intro (DrawOk.mk (by kernel_rfl)) ?_ | refine okI ?_ | refine brP_true (Nat.beq_refl _) ?_ | refine brP_intro (fun _ => ?_) (fun _ => ?_) | refine bndI ?_ | intro _) <;> conv => whnf)))
  all_goals (refine ⟨⟨?_⟩, trivial⟩; simp [*, Fig.right, oneOf, boolA])
theorem outside_c (n l m : Int) : PureA Try.prog 85 [intA n, .cptr [intA l], .cptr [intA m]] (boolA (outside l m n)) := by
  refine pureA_codeB tabOk { l := 0, f := 85 } mixed call_85 Try.func85 (by kernel_rfl) ?_
  conv => whnf
  repeat (any_goals (first | exact falseI | (refine brP_dec (fun _ => ?_) (fun _ => ?_) <;> first | (exfalso; omega) | conv => whnf) | (refine brP_ndec (fun _ => ?_) (fun _ => ?_) <;> first | (exfalso; omega) | conv => whnf) | ((first | refine And.intro (DrawOk.mk (by kernel_rfl)) ?_ | refine okI ?_ | refine brP_true (Nat.beq_refl _) ?_ | refine brP_intro (fun _ => ?_) (fun _ => ?_) | refine bndI ?_ | intro _) <;> conv => whnf)))
  all_goals (refine ⟨⟨?_⟩, trivial⟩; simp [*, outside, oneOf, boolA])
theorem idxFrom_cons {α : Type} {p : α → Bool} {l : List α} {i : Nat} {x : α} (hd : l.drop i = x :: l.drop (i + 1)) (H : idx p l = idxFrom p i (l.drop i)) :
    idx p l = if p x then (i : Int) else idxFrom p (i + 1) (l.drop (i + 1)) := by rw [H, hd]; rfl
theorem index_c (l : List Stp) (s : Stp) (hl : l.length ≤ 1048576) : PureA Try.prog 86 [stpsA l, stpA s] (intA (idx (s == ·) l)) := by
  refine pureA_codeB tabOk { l := 0, f := 86 } mixed call_86 Try.func86 (by kernel_rfl) ?_
  conv => whnf
  refine loopK tabOk { l := 0, f := 86 } mixed (fun i : Nat => [(8, intA i)]) (fun _ => []) (fun _ => []) (fun i => i ≤ l.length ∧ idx (s == ·) l = idxFrom (s == ·) i (l.drop i)) (fun i => l.length - i) 0 (by kernel_rfl)
    ⟨Nat.zero_le _, rfl⟩ ?_
  conv => whnf
  refine ⟨⟨slotsLe_cons rfl trivial, trivial, trivial⟩, ?_⟩
  intro i ⟨hi, H⟩
  conv => whnf
  refine brP_dec (fun h1 => ?_) (fun h1 => ?_)
  · simp only [List.length_map] at h1
    obtain ⟨x, hx, hd⟩ := drop_cons (l := l) (i := i) (by omega)
    have H' := idxFrom_cons hd H
    conv => whnf
    repeat (any_goals (first | exact falseI | (refine brP_dec (fun _ => ?_) (fun _ => ?_) <;> first | (exfalso; omega) | conv => whnf) | (refine brP_ndec (fun _ => ?_) (fun _ => ?_) <;> first | (exfalso; omega) | conv => whnf) | ((first | refine optP_map hx rfl ?_ | refine And.intro (DrawOk.mk (by kernel_rfl)) ?_ | refine okI ?_ | refine brP_true (Nat.beq_refl _) ?_ | refine brP_intro (fun _ => ?_) (fun _ => ?_) | refine bndI ?_ | intro _) <;> conv => whnf)))
    · rename_i he
      rw [stp_eqL] at he
      refine ⟨⟨?_⟩, trivial⟩
      simp only [he, if_true] at H'; simp [oneOf, intA, H']
    · rename_i he
      rw [stp_eqL] at he
      simp only [he, Bool.false_eq_true, if_false] at H'
      refine ⟨i + 1, ⟨by omega, H'⟩, by omega, ?_⟩
      conv => whnf
      refine ⟨?_, ?_, ?_⟩
      · repeat (first | exact trivial | refine slotsLe_cons rfl ?_)
      · repeat (first | exact trivial | refine keysLe_none ?_ | refine keysLe_cons rfl ?_)
      · repeat (first | exact trivial | refine keysLe_none ?_ | refine keysLe_cons rfl ?_)
  · conv => whnf
    simp only [List.length_map] at h1
    have : i = l.length := by omega
    subst this
    refine ⟨⟨?_⟩, trivial⟩
    simp [oneOf, intA, H, idxFrom]
theorem contains_c (l : List Stp) (s : Stp) (hl : l.length ≤ 1048576) : PureA Try.prog 59 [stpsA l, stpA s] (boolA (l.any (s == ·))) := by
  refine pureA_codeB tabOk { l := 0, f := 59 } mixed call_59 Try.func59 (by kernel_rfl) ?_
  conv => whnf
  refine callP_a (index_c l s hl) ?_
  conv => whnf
  refine ⟨⟨?_⟩, trivial⟩
  rw [← idx_any]; rfl
theorem ioutside_c (l : List Int) (lo hi : Int) (hl : l.length ≤ 1048576) : PureA Try.prog 93 [intsA l, .func (.func 85) [] [.cptr [intA lo], .cptr [intA hi]]] (intA (idx (outside lo hi) l)) := by
  refine pureA_codeB tabOk { l := 0, f := 93 } mixed call_93 Try.func93 (by kernel_rfl) ?_
  conv => whnf
  refine loopK tabOk { l := 0, f := 93 } mixed (fun i : Nat => [(8, intA i)]) (fun _ => []) (fun _ => []) (fun i => i ≤ l.length ∧ idx (outside lo hi) l = idxFrom (outside lo hi) i (l.drop i)) (fun i => l.length - i) 0 (by kernel_rfl)
    ⟨Nat.zero_le _, rfl⟩ ?_
  conv => whnf
  refine ⟨⟨slotsLe_cons rfl trivial, trivial, trivial⟩, ?_⟩
  intro i ⟨hi, H⟩
  conv => whnf
  refine brP_dec (fun h1 => ?_) (fun h1 => ?_)
  · simp only [List.length_map] at h1
    obtain ⟨x, hx, hd⟩ := drop_cons (l := l) (i := i) (by omega)
    have H' := idxFrom_cons hd H
    conv => whnf
    repeat (any_goals (first | exact falseI | (refine brP_dec (fun _ => ?_) (fun _ => ?_) <;> first | (exfalso; omega) | conv => whnf) | (refine brP_ndec (fun _ => ?_) (fun _ => ?_) <;> first | (exfalso; omega) | conv => whnf) | ((first | refine optP_map hx rfl ?_ | refine callP_a (outside_c x lo _) ?_ | refine And.intro (DrawOk.mk (by kernel_rfl)) ?_ | refine okI ?_ | refine brP_true (Nat.beq_refl _) ?_ | refine brP_intro (fun _ => ?_) (fun _ => ?_) | refine bndI ?_ | intro _) <;> conv => whnf)))
    · rename_i he
      simp only [he, if_true] at H'
      refine ⟨⟨?_⟩, trivial⟩
      simp [oneOf, intA, H']
    · rename_i he
      simp only [he, Bool.false_eq_true, if_false] at H'
      refine ⟨i + 1, ⟨by omega, H'⟩, by omega, ?_⟩
      conv => whnf
      refine ⟨?_, ?_, ?_⟩
      · repeat (first | exact trivial | refine slotsLe_cons rfl ?_)
      · repeat (first | exact trivial | refine keysLe_none ?_ | refine keysLe_cons rfl ?_)
      · repeat (first | exact trivial | refine keysLe_none ?_ | refine keysLe_cons rfl ?_)
  · conv => whnf
    simp only [List.length_map] at h1
    have : i = l.length := by omega
    subst this
    refine ⟨⟨?_⟩, trivial⟩
    simp [oneOf, intA, H, idxFrom]
theorem anyOutside_c (l : List Int) (lo hi : Int) (hl : l.length ≤ 1048576) : PureA Try.prog 84 [intsA l, .func (.func 85) [] [.cptr [intA lo], .cptr [intA hi]]] (boolA (l.any (outside lo hi))) := by
  refine pureA_codeB tabOk { l := 0, f := 84 } mixed call_84 Try.func84 (by kernel_rfl) ?_
  conv => whnf
  refine callP_a (ioutside_c l lo hi hl) ?_
  conv => whnf
  refine ⟨⟨?_⟩, trivial⟩
  rw [← idx_any]; rfl
theorem beyond_c (l : List Int) (lo hi : Int) (hl : l.length ≤ 1048576) : PureA Try.prog 56 [intA lo, intA hi, intsA l] (boolA (l.any (outside lo hi))) := by
  refine pureA_codeB tabOk { l := 0, f := 56 } mixed call_56 Try.func56 (by kernel_rfl) ?_
  conv => whnf
  refine callP_f (anyOutside_c l lo hi hl) rfl ?_
  conv => whnf
  refine ⟨⟨?_⟩, trivial⟩
  rfl
end Go.Proofs.Ytmggofcaeolaiaa
namespace Go.Proofs.Ytmggofcaeolaiaa
open Go.Am Go.Proofs Go
def bLetter (b : UInt8) : Bool := 97 ≤ b.toNat && b.toNat ≤ 122
def bOther (b : UInt8) : Bool := (48 ≤ b.toNat && b.toNat ≤ 57) || b.toNat == 46
def nameL : Bool → List UInt8 → Bool
  | _, [] => true
  | first, b :: bs => (bLetter b || (!first && bOther b)) && nameL false bs
def nameOk (s : ByteArray) : Bool := decide (s.data.toList ≠ []) && decide (s.data.toList.length ≤ 16) && nameL true s.data.toList
theorem byteAt_of {s : ByteArray} {i : Nat} {b : UInt8} (h : s.data.toList[i]? = some b) : byteAt s i = b.toNat := by
  unfold byteAt
  rw [Array.getD_eq_getD_getElem?, ← Array.getElem?_toList, h]; rfl
theorem size_eq (s : ByteArray) : s.size = s.data.toList.length := by simp
theorem nameL_ne {s : ByteArray} (h : s.size ≠ 0) (h2 : s.size ≤ 16) : nameOk s = nameL true s.data.toList := by
  have e := size_eq s
  have h1 : s.data.toList ≠ [] := fun e' => h (by rw [e, e']; rfl)
  unfold nameOk
  rw [decide_eq_true h1, decide_eq_true (by omega)]
  simp
theorem letter_w (b : UInt8) : within (b.toNat : Int) 97 122 = bLetter b := by rw [Bool.eq_iff_iff]; simp [within, bLetter]; omega
theorem other_w (b : UInt8) : bOther b = (within (b.toNat : Int) 48 57 || b.toNat == 46) := by
  have : within (b.toNat : Int) 48 57 = (48 ≤ b.toNat && b.toNat ≤ 57) := by rw [Bool.eq_iff_iff]; simp [within]; omega
  simp [bOther, this]
theorem refName_c (s : ByteArray) : PureA Try.prog 87 [strA s] (boolA (nameOk s)) := by
  have hsz := size_eq s
  refine pureA_codeB tabOk { l := 0, f := 87 } mixed call_87 Try.func87 (by kernel_rfl) ?_
  conv => whnf
  repeat (any_goals (first | exact falseI | (refine brP_dec (fun _ => ?_) (fun _ => ?_) <;> first | (exfalso; omega) | conv => whnf) | (refine brP_ndec (fun _ => ?_) (fun _ => ?_) <;> first | (exfalso; omega) | conv => whnf) | ((first | refine And.intro (DrawOk.mk (by kernel_rfl)) ?_ | refine okI ?_ | refine brP_true (Nat.beq_refl _) ?_ | refine brP_intro (fun _ => ?_) (fun _ => ?_) | refine bndI ?_ | intro _) <;> conv => whnf)))
  · rename_i h
    have : s.data.toList = [] := List.eq_nil_of_length_eq_zero (by omega)
    (refine ⟨⟨?_⟩, trivial⟩; simp [oneOf, boolA, nameOk, this])
  · rename_i h1 h2
    have : ¬ s.data.toList.length ≤ 16 := by omega
    (refine ⟨⟨?_⟩, trivial⟩; simp [oneOf, boolA, nameOk]; simp at this; omega)
  · rename_i h1 h2
    have e0 := nameL_ne (s := s) (by omega) (by omega)
    have hle : s.size ≤ 16 := by omega
    clear h1 h2
    refine loopK tabOk { l := 0, f := 87 } mixed (fun i : Nat => [(3, intA i)]) (fun _ => []) (fun _ => []) (fun i => i ≤ s.size ∧ nameOk s = nameL (i == 0) (s.data.toList.drop i)) (fun i => s.size - i) 0 (by kernel_rfl)
      ⟨Nat.zero_le _, e0⟩ ?_
    conv => whnf
    refine ⟨⟨slotsLe_cons rfl trivial, trivial, trivial⟩, ?_⟩
    intro i ⟨hi, H⟩
    conv => whnf
    refine brP_dec (fun h1 => ?_) (fun h1 => ?_)
    · obtain ⟨b, hb, hd⟩ := drop_cons (l := s.data.toList) (i := i) (by omega)
      have hba : byteAt s i = b.toNat := byteAt_of hb
      have hlt := b.toNat_lt
      have hL : PureA Try.prog 94 [intA (byteAt s (i : Int).toNat), intA 97, intA 122] (boolA (bLetter b)) := by rw [Int.toNat_natCast, hba, ← letter_w]; exact within1_c _ _ _
      have hD : PureA Try.prog 94 [intA (byteAt s (i : Int).toNat), intA 48, intA 57] (boolA (within b.toNat 48 57)) := by rw [Int.toNat_natCast, hba]; exact within1_c _ _ _
      have h46 : (byteAt s (i : Int).toNat = 46) = (b.toNat = 46) := by rw [Int.toNat_natCast, hba]; exact propext ⟨fun h => by omega, fun h => by omega⟩
      have hin : inI (byteAt s (i : Int).toNat) := by rw [Int.toNat_natCast, hba]; unfold inI; omega
      rw [hd] at H
      simp only [nameL, other_w] at H
      clear hlt hb hd hba e0
      conv => whnf
      repeat (any_goals (first | exact falseI | (refine brP_dec (fun _ => ?_) (fun _ => ?_) <;> first | (exfalso; omega) | conv => whnf) | (refine brP_ndec (fun _ => ?_) (fun _ => ?_) <;> first | (exfalso; omega) | conv => whnf) | ((first | refine callP_a hL ?_ | refine callP_a hD ?_ | refine And.intro hin ?_ | refine And.intro (DrawOk.mk (by kernel_rfl)) ?_ | refine okI ?_ | refine brP_true (Nat.beq_refl _) ?_ | refine brP_intro (fun _ => ?_) (fun _ => ?_) | refine bndI ?_ | intro _) <;> conv => whnf)))
      all_goals clear hL hD hin
      all_goals first
        | (refine ⟨⟨?_⟩, trivial⟩; simp_all [oneOf, boolA]; done)
        | (refine ⟨i + 1, ⟨by omega, by simp_all⟩, by omega, ?_⟩; (conv => whnf); refine ⟨?_, ?_, ?_⟩ <;> repeat (first | exact trivial | refine slotsLe_cons rfl ?_ | refine keysLe_none ?_ | refine keysLe_cons rfl ?_))
    · conv => whnf
      have : s.data.toList.drop i = [] := List.drop_eq_nil_of_le (by omega)
      rw [this] at H
      (refine ⟨⟨?_⟩, trivial⟩; simp [oneOf, boolA, H, nameL])
theorem get_at {s : ByteArray} {i : Nat} {b : UInt8} (h : s.data.toList[i]? = some b) : s.get! i = b := by
  have : s.data[i]? = some b := by rw [← Array.getElem?_toList]; exact h
  show s.data[i]! = b
  rw [getElem!_def, this]
theorem decode_low {s : ByteArray} {i : Nat} {b : UInt8} (h : s.data.toList[i]? = some b) (hb : b.toNat < 128) : Utf8.decode s i = (b.toNat, 1) := by
  unfold Utf8.decode
  simp only [Nat.add_zero, get_at h, if_pos hb]
theorem decode_high {s : ByteArray} {i : Nat} {b : UInt8} (h : s.data.toList[i]? = some b) (hb : ¬ b.toNat < 128) : 128 ≤ (Utf8.decode s i).1 := by
  unfold Utf8.decode
  simp only [Nat.add_zero, get_at h, if_neg hb]
  repeat (first | split | (simp only [Utf8.runeError]; omega) | (simp only [Bool.and_eq_true, decide_eq_true_eq] at *; omega))
theorem name_c (s : ByteArray) (hl : s.size ≤ 1048576) : PureA Try.prog 53 [strA s] (boolA (nameOk s)) := by
  have hsz := size_eq s
  refine pureA_codeB tabOk { l := 0, f := 53 } mixed call_53 Try.func53 (by kernel_rfl) ?_
  conv => whnf
  refine loopK tabOk { l := 0, f := 53 } mixed (fun _ : Nat => []) (fun i => [(⟨0, 53, 7⟩, (1, some (0, [strA s, intA i])))]) (fun _ => []) (fun i => i ≤ s.size ∧ nameL true s.data.toList = nameL (i == 0) (s.data.toList.drop i)) (fun i => s.size - i) 0 (by kernel_rfl)
    ⟨Nat.zero_le _, rfl⟩ ?_
  conv => whnf
  refine ⟨⟨trivial, keysLe_cons rfl trivial, trivial⟩, ?_⟩
  intro i ⟨hi, H⟩
  conv => whnf
  refine brP_dec (fun h1 => ?_) (fun h1 => ?_)
  · obtain ⟨b, hb, hd⟩ := drop_cons (l := s.data.toList) (i := i) (by omega)
    rw [hd] at H
    simp only [nameL] at H
    have hlt := b.toNat_lt
    by_cases h128 : b.toNat < 128
    · have hdec : Utf8.decode s (i : Int).toNat = (b.toNat, 1) := by rw [Int.toNat_natCast]; exact decode_low hb h128
      have hc : ((Utf8.decode s (i : Int).toNat).1 : Int) = b.toNat := by rw [hdec]
      conv => whnf
      repeat (any_goals (first | exact falseI | (refine brP_dec (fun _ => ?_) (fun _ => ?_) <;> first | (exfalso; omega) | conv => whnf) | (refine brP_ndec (fun _ => ?_) (fun _ => ?_) <;> first | (exfalso; omega) | conv => whnf) | ((first | refine And.intro (DrawOk.mk (by kernel_rfl)) ?_ | refine okI ?_ | refine brP_true (Nat.beq_refl _) ?_ | refine brP_intro (fun _ => ?_) (fun _ => ?_) | refine bndI ?_ | intro _) <;> conv => whnf)))
      all_goals first
        | omega
        | (refine ⟨⟨?_⟩, trivial⟩; have hf : nameL true s.data.toList = false := (by rw [H]; first | (simp [bLetter, bOther]; done) | (simp [bLetter, bOther]; omega)); simp [nameOk, hf, oneOf, boolA]; done)
        | (refine ⟨i + 1, ⟨by omega, by (rw [H]; first | (simp [bLetter, bOther]; done) | (simp [bLetter, bOther]; omega))⟩, by omega, ?_⟩; (conv => whnf); exact ⟨by repeat (first | exact trivial | refine slotsLe_cons rfl ?_), keysLe_cons (by simp only [hdec]; rfl) trivial, trivial⟩)
    · have hdec : 128 ≤ (Utf8.decode s (i : Int).toNat).1 := by rw [Int.toNat_natCast]; exact decode_high hb h128
      have hf : nameL true s.data.toList = false := by
        have h1 : bLetter b = false := by simp [bLetter]; omega
        have h2 : bOther b = false := by simp [bOther]; omega
        rw [H, h1, h2]; simp
      conv => whnf
      repeat (any_goals (first | exact falseI | (refine brP_dec (fun _ => ?_) (fun _ => ?_) <;> first | (exfalso; omega) | conv => whnf) | (refine brP_ndec (fun _ => ?_) (fun _ => ?_) <;> first | (exfalso; omega) | conv => whnf) | ((first | refine And.intro (DrawOk.mk (by kernel_rfl)) ?_ | refine okI ?_ | refine brP_true (Nat.beq_refl _) ?_ | refine brP_intro (fun _ => ?_) (fun _ => ?_) | refine bndI ?_ | intro _) <;> conv => whnf)))
      all_goals first
        | omega
        | (refine ⟨⟨?_⟩, trivial⟩; simp [nameOk, hf, oneOf, boolA]; done)
  · conv => whnf
    have hdr : s.data.toList.drop i = [] := List.drop_eq_nil_of_le (by omega)
    rw [hdr] at H
    repeat (any_goals (first | exact falseI | (refine brP_dec (fun _ => ?_) (fun _ => ?_) <;> first | (exfalso; omega) | conv => whnf) | (refine brP_ndec (fun _ => ?_) (fun _ => ?_) <;> first | (exfalso; omega) | conv => whnf) | ((first | refine And.intro (DrawOk.mk (by kernel_rfl)) ?_ | refine okI ?_ | refine brP_true (Nat.beq_refl _) ?_ | refine brP_intro (fun _ => ?_) (fun _ => ?_) | refine bndI ?_ | intro _) <;> conv => whnf)))
    · rename_i h
      (refine ⟨⟨?_⟩, trivial⟩; simp [nameOk, oneOf, boolA, h])
    · rename_i h
      have hne : s.data.toList ≠ [] := fun e => h (by cases s with | mk a => simp at e; simp [e])
      have h16 : decide ((s.size : Int) ≤ 16) = decide (s.data.toList.length ≤ 16) := by rw [hsz, Bool.eq_iff_iff, decide_eq_true_eq, decide_eq_true_eq]; omega
      refine ⟨⟨?_⟩, trivial⟩
      rw [h16]
      simp only [nameOk, oneOf, boolA, H, nameL, decide_eq_true hne, Bool.and_true, Bool.true_and]
end Go.Proofs.Ytmggofcaeolaiaa
namespace Go.Proofs.Ytmggofcaeolaiaa
open Go.Am Go.Proofs Go
def figErr (before : List Fig) (f : Fig) : Int :=
  if nameOk f.name = false then 6 else if before.any (fun x => decide (x.name = f.name)) = true then 5 else if (outside 0 5 f.has || outside (-1) 5 f.wants) = true then 7 else 0
def stpErr (last : Int) (before : List Stp) (s : Stp) : Int :=
  if (outside 0 last s.a || outside 0 last s.b) = true then 4 else if s.b ≤ s.a then 2 else if before.any (s == ·) = true then 5 else 0
def firstFrom {α : Type} (g : Nat → α → Int) : Nat → List α → Int × Int
  | _, [] => (0, 0)
  | i, x :: xs => if g i x = 0 then firstFrom g (i + 1) xs else (i, g i x)
def Row.figsErr (r : Row) : Int × Int := firstFrom (fun i f => figErr (r.figs.take i) f) 0 r.figs
def Row.last (r : Row) : Int := r.figs.length - 1
def Row.stpsErr (r : Row) : Int × Int := firstFrom (fun i s => stpErr r.last (r.beside.take i) s) 0 r.beside
def Row.check (r : Row) : Int × Int × Int :=
  if (5 : Int) < r.figs.length then (1, 0, 3) else if r.figsErr.2 ≠ 0 then (1, r.figsErr.1, r.figsErr.2) else if r.stpsErr.2 ≠ 0 then (2, r.stpsErr.1, r.stpsErr.2)
  else if outside (-1) r.last r.bench = true then (3, 0, 4) else (0, 0, 0)
def Row.small (r : Row) : Prop := r.figs.length ≤ 1048576 ∧ r.beside.length ≤ 1048576 ∧ ∀ f ∈ r.figs, f.name.size ≤ 1048576
def triA (x : Int × Int × Int) : AV := .tuple [intA x.1, intA x.2.1, intA x.2.2]
theorem sameName_c (x f : Fig) : PureA Try.prog 55 [figA x, .cptr [strA f.name, intA f.has, boolA f.broken, intA f.wants]] (boolA (decide (x.name = f.name))) := by
  refine pureA_codeB tabOk { l := 0, f := 55 } mixed call_55 Try.func55 (by kernel_rfl) ?_
  conv => whnf
  (refine ⟨⟨?_⟩, trivial⟩; rfl)
theorem iname_c (l : List Fig) (f : Fig) (hl : l.length ≤ 1048576) : PureA Try.prog 83 [figsA l, .func (.func 55) [] [.cptr [strA f.name, intA f.has, boolA f.broken, intA f.wants]]] (intA (idx (fun x => decide (x.name = f.name)) l)) := by
  refine pureA_codeB tabOk { l := 0, f := 83 } mixed call_83 Try.func83 (by kernel_rfl) ?_
  conv => whnf
  refine loopK tabOk { l := 0, f := 83 } mixed (fun i : Nat => [(8, intA i)]) (fun _ => []) (fun _ => []) (fun i => i ≤ l.length ∧ idx (fun x : Fig => decide (x.name = f.name)) l = idxFrom (fun x : Fig => decide (x.name = f.name)) i (l.drop i)) (fun i => l.length - i) 0 (by kernel_rfl)
    ⟨Nat.zero_le _, rfl⟩ ?_
  conv => whnf
  refine ⟨⟨slotsLe_cons rfl trivial, trivial, trivial⟩, ?_⟩
  intro i ⟨hi, H⟩
  conv => whnf
  refine brP_dec (fun h1 => ?_) (fun h1 => ?_)
  · simp only [List.length_map] at h1
    obtain ⟨x, hx, hd⟩ := drop_cons (l := l) (i := i) (by omega)
    have H' := idxFrom_cons hd H
    conv => whnf
    repeat (any_goals (first | exact falseI | (refine brP_dec (fun _ => ?_) (fun _ => ?_) <;> first | (exfalso; omega) | conv => whnf) | (refine brP_ndec (fun _ => ?_) (fun _ => ?_) <;> first | (exfalso; omega) | conv => whnf) | ((first | refine optP_map hx rfl ?_ | refine callP_a (sameName_c x f) ?_ | refine And.intro (DrawOk.mk (by kernel_rfl)) ?_ | refine okI ?_ | refine brP_true (Nat.beq_refl _) ?_ | refine brP_intro (fun _ => ?_) (fun _ => ?_) | refine bndI ?_ | intro _) <;> conv => whnf)))
    · rename_i he
      simp only [he, if_true] at H'
      (refine ⟨⟨?_⟩, trivial⟩; simp [oneOf, intA, H'])
    · rename_i he
      simp only [he, Bool.false_eq_true, if_false] at H'
      (refine ⟨i + 1, ⟨by omega, H'⟩, by omega, ?_⟩; (conv => whnf); refine ⟨?_, ?_, ?_⟩ <;> repeat (first | exact trivial | refine slotsLe_cons rfl ?_ | refine keysLe_none ?_ | refine keysLe_cons rfl ?_))
  · conv => whnf
    simp only [List.length_map] at h1
    have : i = l.length := by omega
    subst this
    (refine ⟨⟨?_⟩, trivial⟩; simp [oneOf, intA, H, idxFrom])
theorem anyName_c (l : List Fig) (f : Fig) (hl : l.length ≤ 1048576) : PureA Try.prog 54 [figsA l, .func (.func 55) [] [.cptr [strA f.name, intA f.has, boolA f.broken, intA f.wants]]] (boolA (l.any (fun x => decide (x.name = f.name)))) := by
  refine pureA_codeB tabOk { l := 0, f := 54 } mixed call_54 Try.func54 (by kernel_rfl) ?_
  conv => whnf
  refine callP_a (iname_c l f hl) ?_
  conv => whnf
  (refine ⟨⟨?_⟩, trivial⟩; rw [← idx_any]; rfl)
theorem figErr_c (r : Row) (i : Nat) (f : Fig) (hr : r.small) (hi : i ≤ r.figs.length) (hf : f.name.size ≤ 1048576) :
    PureA Try.prog 52 [intA i, figA f, .cptr [figsA r.figs, stpsA r.beside, intA r.bench]] (intA (figErr (r.figs.take i) f)) := by
  obtain ⟨h1, h2, _⟩ := hr
  refine pureA_codeB tabOk { l := 0, f := 52 } mixed call_52 Try.func52 (by kernel_rfl) ?_
  conv => whnf
  have hn := name_c f.name hf
  have ha : PureA Try.prog 54 [.slice 4 ((r.figs.map figA).take (i : Int).toNat) .no, .func (.func 55) [] [.cptr [strA f.name, intA f.has, boolA f.broken, intA f.wants]]] (boolA ((r.figs.take i).any (fun x => decide (x.name = f.name)))) := by
    have := anyName_c (r.figs.take i) f (by simp; omega)
    simpa [figsA, List.map_take] using this
  have hb1 := beyond_c [f.has] 0 5 (by simp)
  have hb2 := beyond_c [f.wants] (-1) 5 (by simp)
  simp only [List.any_cons, List.any_nil, Bool.or_false] at hb1 hb2
  unfold figErr
  generalize nameOk f.name = b1 at *
  generalize (r.figs.take i).any (fun x => decide (x.name = f.name)) = b2 at *
  generalize outside 0 5 f.has = b3 at *
  generalize outside (-1) 5 f.wants = b4 at *
  cases b1 <;> cases b2 <;> cases b3 <;> cases b4
  all_goals
    repeat (any_goals (first | exact falseI | (refine brP_dec (fun _ => ?_) (fun _ => ?_) <;> first | (exfalso; omega) | conv => whnf) | (refine brP_ndec (fun _ => ?_) (fun _ => ?_) <;> first | (exfalso; omega) | conv => whnf) | ((first | refine callP_a hn ?_ | refine callP_f ha rfl ?_ | refine callP_a hb1 ?_ | refine callP_a hb2 ?_ | refine And.intro (DrawOk.mk (by kernel_rfl)) ?_ | refine okI ?_ | refine brP_true (Nat.beq_refl _) ?_ | refine brP_intro (fun _ => ?_) (fun _ => ?_) | refine bndI ?_ | intro _) <;> conv => whnf)))
  all_goals (refine ⟨⟨?_⟩, trivial⟩; rfl)
end Go.Proofs.Ytmggofcaeolaiaa
namespace Go.Proofs.Ytmggofcaeolaiaa
open Go.Am Go.Proofs Go
theorem stpErr_c (r : Row) (i : Nat) (s : Stp) (last : Int) (hr : r.small) (hi : i ≤ r.beside.length) :
    PureA Try.prog 58 [intA i, stpA s, .cptr [intA last], .cptr [figsA r.figs, stpsA r.beside, intA r.bench]] (intA (stpErr last (r.beside.take i) s)) := by
  obtain ⟨h1, h2, _⟩ := hr
  refine pureA_codeB tabOk { l := 0, f := 58 } mixed call_58 Try.func58 (by kernel_rfl) ?_
  conv => whnf
  have hb1 := beyond_c [s.a, s.b] 0 last (by simp)
  have hc : PureA Try.prog 59 [.slice 2 ((r.beside.map stpA).take (i : Int).toNat) .no, stpA s] (boolA ((r.beside.take i).any (s == ·))) := by
    have := contains_c (r.beside.take i) s (by simp; omega)
    simpa [stpsA, List.map_take] using this
  simp only [List.any_cons, List.any_nil, Bool.or_false] at hb1
  unfold stpErr
  generalize (r.beside.take i).any (s == ·) = b2 at *
  generalize (outside 0 last s.a || outside 0 last s.b) = b1 at *
  cases b1 <;> cases b2
  all_goals
    repeat (any_goals (first | exact falseI | (refine brP_dec (fun _ => ?_) (fun _ => ?_) <;> first | (exfalso; omega) | conv => whnf) | (refine brP_ndec (fun _ => ?_) (fun _ => ?_) <;> first | (exfalso; omega) | conv => whnf) | ((first | refine callP_a hb1 ?_ | refine callP_a hc ?_ | refine And.intro (DrawOk.mk (by kernel_rfl)) ?_ | refine okI ?_ | refine brP_true (Nat.beq_refl _) ?_ | refine brP_intro (fun _ => ?_) (fun _ => ?_) | refine bndI ?_ | intro _) <;> conv => whnf)))
  all_goals (refine ⟨⟨?_⟩, trivial⟩; simp_all [oneOf, intA])
theorem firstFig_c (r : Row) (l : List Fig) (g : Nat → Fig → Int) (hl : l.length ≤ 1048576)
    (h : ∀ (i : Nat) x, l[i]? = some x → PureA Try.prog 52 ([intA i, figA x, .cptr [figsA r.figs, stpsA r.beside, intA r.bench]]) (intA (g i x))) :
    PureA Try.prog 51 [figsA l, .func (.func 52) [] [.cptr [figsA r.figs, stpsA r.beside, intA r.bench]]] (.tuple [intA (firstFrom g 0 l).1, intA (firstFrom g 0 l).2]) := by
  refine pureA_codeB tabOk { l := 0, f := 51 } mixed call_51 Try.func51 (by kernel_rfl) ?_
  conv => whnf
  refine loopK tabOk { l := 0, f := 51 } mixed (fun i : Nat => [(11, intA i)]) (fun _ => []) (fun _ => []) (fun i => i ≤ l.length ∧ firstFrom g 0 l = firstFrom g i (l.drop i)) (fun i => l.length - i) 0 (by kernel_rfl)
    ⟨Nat.zero_le _, rfl⟩ ?_
  conv => whnf
  refine ⟨⟨slotsLe_cons rfl trivial, trivial, trivial⟩, ?_⟩
  intro i ⟨hi, H⟩
  conv => whnf
  refine brP_dec (fun h1 => ?_) (fun h1 => ?_)
  · simp only [List.length_map] at h1
    obtain ⟨x, hx, hd⟩ := drop_cons (l := l) (i := i) (by omega)
    rw [hd] at H
    have hg := h i x hx
    generalize hy : g i x = y at *
    simp only [firstFrom, hy] at H
    conv => whnf
    repeat (any_goals (first | exact falseI | (refine brP_dec (fun _ => ?_) (fun _ => ?_) <;> first | (exfalso; omega) | conv => whnf) | (refine brP_ndec (fun _ => ?_) (fun _ => ?_) <;> first | (exfalso; omega) | conv => whnf) | ((first | refine optP_map hx rfl ?_ | refine callP_a hg ?_ | refine And.intro (DrawOk.mk (by kernel_rfl)) ?_ | refine okI ?_ | refine brP_true (Nat.beq_refl _) ?_ | refine brP_intro (fun _ => ?_) (fun _ => ?_) | refine bndI ?_ | intro _) <;> conv => whnf)))
    · rename_i h2
      rw [if_pos h2] at H
      (refine ⟨i + 1, ⟨by omega, H⟩, by omega, ?_⟩; (conv => whnf); refine ⟨?_, ?_, ?_⟩ <;> repeat (first | exact trivial | refine slotsLe_cons rfl ?_ | refine keysLe_none ?_ | refine keysLe_cons rfl ?_))
    · rename_i h2
      rw [if_neg h2] at H
      (refine ⟨⟨?_⟩, trivial⟩; simp [oneOf, intA, H])
  · conv => whnf
    simp only [List.length_map] at h1
    have : i = l.length := by omega
    subst this
    (refine ⟨⟨?_⟩, trivial⟩; simp [oneOf, intA, H, firstFrom])
theorem firstStp_c (r : Row) (l : List Stp) (g : Nat → Stp → Int) (last : Int) (hl : l.length ≤ 1048576)
    (h : ∀ (i : Nat) x, l[i]? = some x → PureA Try.prog 58 ([intA i, stpA x, .cptr [intA last], .cptr [figsA r.figs, stpsA r.beside, intA r.bench]]) (intA (g i x))) :
    PureA Try.prog 57 [stpsA l, .func (.func 58) [] [.cptr [intA last], .cptr [figsA r.figs, stpsA r.beside, intA r.bench]]] (.tuple [intA (firstFrom g 0 l).1, intA (firstFrom g 0 l).2]) := by
  refine pureA_codeB tabOk { l := 0, f := 57 } mixed call_57 Try.func57 (by kernel_rfl) ?_
  conv => whnf
  refine loopK tabOk { l := 0, f := 57 } mixed (fun i : Nat => [(11, intA i)]) (fun _ => []) (fun _ => []) (fun i => i ≤ l.length ∧ firstFrom g 0 l = firstFrom g i (l.drop i)) (fun i => l.length - i) 0 (by kernel_rfl)
    ⟨Nat.zero_le _, rfl⟩ ?_
  conv => whnf
  refine ⟨⟨slotsLe_cons rfl trivial, trivial, trivial⟩, ?_⟩
  intro i ⟨hi, H⟩
  conv => whnf
  refine brP_dec (fun h1 => ?_) (fun h1 => ?_)
  · simp only [List.length_map] at h1
    obtain ⟨x, hx, hd⟩ := drop_cons (l := l) (i := i) (by omega)
    rw [hd] at H
    have hg := h i x hx
    generalize hy : g i x = y at *
    simp only [firstFrom, hy] at H
    conv => whnf
    repeat (any_goals (first | exact falseI | (refine brP_dec (fun _ => ?_) (fun _ => ?_) <;> first | (exfalso; omega) | conv => whnf) | (refine brP_ndec (fun _ => ?_) (fun _ => ?_) <;> first | (exfalso; omega) | conv => whnf) | ((first | refine optP_map hx rfl ?_ | refine callP_a hg ?_ | refine And.intro (DrawOk.mk (by kernel_rfl)) ?_ | refine okI ?_ | refine brP_true (Nat.beq_refl _) ?_ | refine brP_intro (fun _ => ?_) (fun _ => ?_) | refine bndI ?_ | intro _) <;> conv => whnf)))
    · rename_i h2
      rw [if_pos h2] at H
      (refine ⟨i + 1, ⟨by omega, H⟩, by omega, ?_⟩; (conv => whnf); refine ⟨?_, ?_, ?_⟩ <;> repeat (first | exact trivial | refine slotsLe_cons rfl ?_ | refine keysLe_none ?_ | refine keysLe_cons rfl ?_))
    · rename_i h2
      rw [if_neg h2] at H
      (refine ⟨⟨?_⟩, trivial⟩; simp [oneOf, intA, H])
  · conv => whnf
    simp only [List.length_map] at h1
    have : i = l.length := by omega
    subst this
    (refine ⟨⟨?_⟩, trivial⟩; simp [oneOf, intA, H, firstFrom])
theorem check_c (r : Row) (hr : r.small) : PureA Try.prog 16 [rowA r] (triA r.check) := by
  have hr' := hr
  obtain ⟨h1, h2, h3⟩ := hr'
  have hf := firstFig_c r r.figs (fun i f => figErr (r.figs.take i) f) h1 (fun i x hx => figErr_c r i x hr (by have := (List.getElem?_eq_some_iff.1 hx).1; omega) (h3 x (List.mem_of_getElem? hx)))
  have hs := firstStp_c r r.beside (fun i s => stpErr r.last (r.beside.take i) s) r.last h2 (fun i x hx => stpErr_c r i x r.last hr (by have := (List.getElem?_eq_some_iff.1 hx).1; omega))
  have hb := beyond_c [r.bench] (-1) r.last (by simp)
  simp only [List.any_cons, List.any_nil, Bool.or_false] at hb
  unfold Row.check Row.figsErr Row.stpsErr
  generalize firstFrom (fun i f => figErr (r.figs.take i) f) 0 r.figs = a at *
  generalize firstFrom (fun i s => stpErr r.last (r.beside.take i) s) 0 r.beside = b at *
  generalize outside (-1) r.last r.bench = c at *
  have hl : r.last = ((r.figs.map figA).length : Int) - 1 := by simp [Row.last]
  rw [hl] at hs hb
  obtain ⟨a1, a2⟩ := a
  obtain ⟨b1, b2⟩ := b
  refine pureA_codeB tabOk { l := 0, f := 16 } mixed call_16 Try.func16 (by kernel_rfl) ?_
  conv => whnf
  repeat (any_goals (first | exact falseI | (refine brP_dec (fun _ => ?_) (fun _ => ?_) <;> first | (exfalso; omega) | conv => whnf) | (refine brP_ndec (fun _ => ?_) (fun _ => ?_) <;> first | (exfalso; omega) | conv => whnf) | ((first | refine callP_b hf rfl ?_ | refine callP_b hs rfl ?_ | refine callP_a hb ?_ | refine And.intro (DrawOk.mk (by kernel_rfl)) ?_ | refine okI ?_ | refine brP_true (Nat.beq_refl _) ?_ | refine brP_intro (fun _ => ?_) (fun _ => ?_) | refine bndI ?_ | intro _) <;> conv => whnf)))
  all_goals (clear hf hs hb hl; simp only [List.length_map] at *)
  all_goals (refine ⟨⟨?_⟩, trivial⟩; simp [oneOf, triA, intA, *])
end Go.Proofs.Ytmggofcaeolaiaa
namespace Go.Proofs.Ytmggofcaeolaiaa
open Go.Am Go.Proofs Go
def strsA (l : List ByteArray) : AV := .slice 1 (l.map strA) .no
theorem strIdx_c (l : List ByteArray) (s : ByteArray) (hl : l.length ≤ 1048576) : PureA Try.prog 88 [strsA l, strA s] (intA (idx (fun x => decide (x = s)) l)) := by
  refine pureA_codeB tabOk { l := 0, f := 88 } mixed call_88 Try.func88 (by kernel_rfl) ?_
  conv => whnf
  refine loopK tabOk { l := 0, f := 88 } mixed (fun i : Nat => [(5, intA i)]) (fun _ => []) (fun _ => []) (fun i => i ≤ l.length ∧ idx (fun x : ByteArray => decide (x = s)) l = idxFrom (fun x : ByteArray => decide (x = s)) i (l.drop i)) (fun i => l.length - i) 0 (by kernel_rfl)
    ⟨Nat.zero_le _, rfl⟩ ?_
  conv => whnf
  refine ⟨⟨slotsLe_cons rfl trivial, trivial, trivial⟩, ?_⟩
  intro i ⟨hi, H⟩
  conv => whnf
  refine brP_dec (fun h1 => ?_) (fun h1 => ?_)
  · simp only [List.length_map] at h1
    obtain ⟨x, hx, hd⟩ := drop_cons (l := l) (i := i) (by omega)
    have H' := idxFrom_cons hd H
    conv => whnf
    repeat (any_goals (first | exact falseI | (refine brP_dec (fun _ => ?_) (fun _ => ?_) <;> first | (exfalso; omega) | conv => whnf) | (refine brP_ndec (fun _ => ?_) (fun _ => ?_) <;> first | (exfalso; omega) | conv => whnf) | ((first | refine optP_map hx rfl ?_ | refine And.intro (DrawOk.mk (by kernel_rfl)) ?_ | refine okI ?_ | refine brP_true (Nat.beq_refl _) ?_ | refine brP_intro (fun _ => ?_) (fun _ => ?_) | refine bndI ?_ | intro _) <;> conv => whnf)))
    · rename_i he
      simp only [he, decide_true, if_true] at H'
      (refine ⟨⟨?_⟩, trivial⟩; simp [oneOf, intA, H'])
    · rename_i he
      simp only [he, decide_false, Bool.false_eq_true, if_false] at H'
      (refine ⟨i + 1, ⟨by omega, H'⟩, by omega, ?_⟩; (conv => whnf); refine ⟨?_, ?_, ?_⟩ <;> repeat (first | exact trivial | refine slotsLe_cons rfl ?_ | refine keysLe_none ?_ | refine keysLe_cons rfl ?_))
  · conv => whnf
    simp only [List.length_map] at h1
    have : i = l.length := by omega
    subst this
    (refine ⟨⟨?_⟩, trivial⟩; simp [oneOf, intA, H, idxFrom])
def newErr (s : ByteArray) (l : List ByteArray) : Int := if nameOk s = false then 6 else if l.any (fun x => decide (x = s)) = true then 5 else 0
theorem new_c (l : List ByteArray) (s : ByteArray) (hl : l.length ≤ 1048576) : PureA Try.prog 60 [strA s, strsA l] (intA (newErr s l)) := by
  have hn := refName_c s
  have hi := strIdx_c l s hl
  have hx := idx_any (fun x => decide (x = s)) l
  unfold newErr
  rw [← hx]
  generalize nameOk s = b at *
  generalize idx (fun x => decide (x = s)) l = n at *
  refine pureA_codeB tabOk { l := 0, f := 60 } mixed call_60 Try.func60 (by kernel_rfl) ?_
  conv => whnf
  cases b
  · repeat (any_goals (first | exact falseI | (refine brP_dec (fun _ => ?_) (fun _ => ?_) <;> first | (exfalso; omega) | conv => whnf) | (refine brP_ndec (fun _ => ?_) (fun _ => ?_) <;> first | (exfalso; omega) | conv => whnf) | ((first | refine callP_a hn ?_ | refine callP_a hi ?_ | refine And.intro (DrawOk.mk (by kernel_rfl)) ?_ | refine okI ?_ | refine brP_true (Nat.beq_refl _) ?_ | refine brP_intro (fun _ => ?_) (fun _ => ?_) | refine bndI ?_ | intro _) <;> conv => whnf)))
    all_goals (refine ⟨⟨?_⟩, trivial⟩; simp [oneOf, intA, *])
  · repeat (any_goals (first | exact falseI | (refine brP_dec (fun _ => ?_) (fun _ => ?_) <;> first | (exfalso; omega) | conv => whnf) | (refine brP_ndec (fun _ => ?_) (fun _ => ?_) <;> first | (exfalso; omega) | conv => whnf) | ((first | refine callP_a hn ?_ | refine callP_a hi ?_ | refine And.intro (DrawOk.mk (by kernel_rfl)) ?_ | refine okI ?_ | refine brP_true (Nat.beq_refl _) ?_ | refine brP_intro (fun _ => ?_) (fun _ => ?_) | refine bndI ?_ | intro _) <;> conv => whnf)))
    all_goals (refine ⟨⟨?_⟩, trivial⟩; simp [oneOf, intA, *])
theorem has_c (l : List Stp) (s : Stp) (hl : l.length ≤ 1048576) : PureA Try.prog 50 [stpsA l, stpA s] (boolA (l.any (s == ·))) := by
  refine pureA_codeB tabOk { l := 0, f := 50 } mixed call_50 Try.func50 (by kernel_rfl) ?_
  conv => whnf
  refine loopK tabOk { l := 0, f := 50 } mixed (fun i : Nat => [(5, intA i)]) (fun _ => []) (fun _ => []) (fun i => i ≤ l.length ∧ l.any (s == ·) = (l.drop i).any (s == ·)) (fun i => l.length - i) 0 (by kernel_rfl)
    ⟨Nat.zero_le _, rfl⟩ ?_
  conv => whnf
  refine ⟨⟨slotsLe_cons rfl trivial, trivial, trivial⟩, ?_⟩
  intro i ⟨hi, H⟩
  conv => whnf
  refine brP_dec (fun h1 => ?_) (fun h1 => ?_)
  · simp only [List.length_map] at h1
    obtain ⟨x, hx, hd⟩ := drop_cons (l := l) (i := i) (by omega)
    rw [hd, List.any_cons] at H
    have e : eqL [.int .i64 x.a, .int .i64 x.b] [.int .i64 s.a, .int .i64 s.b] = (s == x) := by rw [stp_eqL]; exact Bool.beq_comm
    conv => whnf
    repeat (any_goals (first | exact falseI | (refine brP_dec (fun _ => ?_) (fun _ => ?_) <;> first | (exfalso; omega) | conv => whnf) | (refine brP_ndec (fun _ => ?_) (fun _ => ?_) <;> first | (exfalso; omega) | conv => whnf) | ((first | refine optP_map hx rfl ?_ | refine And.intro (DrawOk.mk (by kernel_rfl)) ?_ | refine okI ?_ | refine brP_true (Nat.beq_refl _) ?_ | refine brP_intro (fun _ => ?_) (fun _ => ?_) | refine bndI ?_ | intro _) <;> conv => whnf)))
    · rename_i he
      have he : (s == x) = true := e ▸ he
      rw [he, Bool.true_or] at H
      (refine ⟨⟨?_⟩, trivial⟩; simp [oneOf, boolA, H])
    · rename_i he
      have he : (s == x) = false := e ▸ he
      rw [he, Bool.false_or] at H
      (refine ⟨i + 1, ⟨by omega, H⟩, by omega, ?_⟩; (conv => whnf); refine ⟨?_, ?_, ?_⟩ <;> repeat (first | exact trivial | refine slotsLe_cons rfl ?_ | refine keysLe_none ?_ | refine keysLe_cons rfl ?_))
  · conv => whnf
    simp only [List.length_map] at h1
    have : i = l.length := by omega
    subst this
    (refine ⟨⟨?_⟩, trivial⟩; simp [oneOf, boolA, H])
theorem figErr_new (l : List Fig) (f : Fig) : figErr l f = if newErr f.name (l.map (·.name)) = 0 then (if (!within f.has 0 5 || !within f.wants (-1) 5) = true then 7 else 0) else newErr f.name (l.map (·.name)) := by
  have e : ∀ a b c, (!within a b c) = outside b c a := by intro a b c; rw [Bool.eq_iff_iff]; simp [within, outside] <;> omega
  unfold figErr newErr
  rw [e, e, List.any_map]
  simp only [Function.comp_def]
  split
  · simp
  · split <;> simp_all
theorem stpErr_ref (last : Int) (l : List Stp) (s : Stp) : stpErr last l s = if (!within s.a 0 last || !within s.b 0 last) = true then 4 else if s.b ≤ s.a then 2 else if l.any (s == ·) = true then 5 else 0 := by
  have e : ∀ a b c, (!within a b c) = outside b c a := by intro a b c; rw [Bool.eq_iff_iff]; simp [within, outside] <;> omega
  unfold stpErr
  rw [e, e]
theorem refCheck_c (r : Row) (hr : r.small) : PureA Try.prog 17 [rowA r] (triA r.check) := by
  obtain ⟨h1, h2, h3⟩ := hr
  refine pureA_codeB tabOk { l := 0, f := 17 } mixed call_17 Try.func17 (by kernel_rfl) ?_
  conv => whnf
  refine brP_dec (fun h => ?_) (fun h => ?_) <;> conv => whnf
  · simp only [List.length_map] at h
    (refine ⟨⟨?_⟩, trivial⟩; simp [Row.check, h, oneOf, triA, intA])
  refine loopTok 5 1 ⟨0, 17, 54⟩ ?_
  conv => whnf
  refine loopK tabOk { l := 0, f := 17 } mixed (fun i : Nat => [(6, intA i), (5, .slice 1 ((r.figs.take i).map (fun f => strA f.name)) (.own ⟨0, 17, 54⟩ 1))]) (fun _ => []) (fun i => [(⟨0, 17, 54⟩, some (1, i))]) (fun i => i ≤ r.figs.length ∧ r.figsErr = firstFrom (fun i f => figErr (r.figs.take i) f) i (r.figs.drop i)) (fun i => r.figs.length - i) 0 (by kernel_rfl)
    ⟨Nat.zero_le _, rfl⟩ ?_
  conv => whnf
  refine ⟨⟨slotsLe_cons rfl (slotsLe_cons rfl trivial), trivial, keysLe_cons rfl trivial⟩, ?_⟩
  intro i ⟨hi, H⟩
  conv => whnf
  refine brP_dec (fun h1 => ?_) (fun h1 => ?_)
  · simp only [List.length_map] at h1
    obtain ⟨x, hx, hd⟩ := drop_cons (l := r.figs) (i := i) (by omega)
    rw [hd] at H
    have hnw : PureA Try.prog 60 [strA x.name, .slice 1 ((r.figs.take i).map (fun f => strA f.name)) .no] (intA (newErr x.name ((r.figs.take i).map (·.name)))) := by
      have := new_c ((r.figs.take i).map (·.name)) x.name (by simp; omega)
      simpa [strsA, List.map_map, Function.comp_def] using this
    have ht : r.figs.take (i + 1) = r.figs.take i ++ [x] := by rw [List.take_add_one, hx]; rfl
    simp only [firstFrom, figErr_new (r.figs.take i) x] at H
    have w1 := within_c x.has 0 5
    have w2 := within_c x.wants (-1) 5
    generalize newErr x.name ((r.figs.take i).map (·.name)) = e at *
    generalize within x.has 0 5 = b1 at *
    generalize within x.wants (-1) 5 = b2 at *
    simp only [List.length_map] at h
    by_cases he : e = 0
    · subst he
      rw [if_pos rfl] at H
      cases b1 <;> cases b2
      all_goals
        conv => whnf
        repeat (any_goals (first | exact falseI | (refine brP_dec (fun _ => ?_) (fun _ => ?_) <;> first | (exfalso; omega) | conv => whnf) | (refine brP_ndec (fun _ => ?_) (fun _ => ?_) <;> first | (exfalso; omega) | conv => whnf) | ((first | refine optP_map hx rfl ?_ | refine callP_a hnw ?_ | refine callP_a w1 ?_ | refine callP_a w2 ?_ | refine And.intro (DrawOk.mk (by kernel_rfl)) ?_ | refine okI ?_ | refine brP_true (Nat.beq_refl _) ?_ | refine brP_intro (fun _ => ?_) (fun _ => ?_) | refine bndI ?_ | intro _) <;> conv => whnf)))
      all_goals first | ((refine ⟨⟨?_⟩, trivial⟩; simp [oneOf, triA, intA, Row.check, h, H])) | (exfalso; simp_all; omega) | skip
      (refine ⟨i + 1, ⟨by omega, H⟩, by omega, ?_⟩; (conv => whnf); refine ⟨?_, ?_, ?_⟩ <;> repeat (first | exact trivial | refine slotsLe_cons rfl ?_ | refine keysLe_none ?_ | refine keysLe_cons rfl ?_ | refine slotsLe_cons (by first | (simp only [ht, List.map_append]; rfl) | ((conv => lhs; whnf); simp; omega)) ?_ | refine keysLe_cons (by first | (simp only [ht, List.map_append]; rfl) | ((conv => lhs; whnf); simp; omega)) ?_))
    · rw [if_neg he, if_neg he] at H
      conv => whnf
      repeat (any_goals (first | exact falseI | (refine brP_dec (fun _ => ?_) (fun _ => ?_) <;> first | (exfalso; omega) | conv => whnf) | (refine brP_ndec (fun _ => ?_) (fun _ => ?_) <;> first | (exfalso; omega) | conv => whnf) | ((first | refine optP_map hx rfl ?_ | refine callP_a hnw ?_ | refine And.intro (DrawOk.mk (by kernel_rfl)) ?_ | refine okI ?_ | refine brP_true (Nat.beq_refl _) ?_ | refine brP_intro (fun _ => ?_) (fun _ => ?_) | refine bndI ?_ | intro _) <;> conv => whnf)))
      (refine ⟨⟨?_⟩, trivial⟩; simp [oneOf, triA, intA, Row.check, h, H, he])
  · conv => whnf
    simp only [List.length_map] at h1
    have : i = r.figs.length := by omega
    subst this
    simp only [List.drop_length, firstFrom] at H
    simp only [List.length_map] at h
    clear h1 hi
    repeat (any_goals (first | exact falseI | (refine brP_dec (fun _ => ?_) (fun _ => ?_) <;> first | (exfalso; omega) | conv => whnf) | (refine brP_ndec (fun _ => ?_) (fun _ => ?_) <;> first | (exfalso; omega) | conv => whnf) | ((first | refine And.intro (DrawOk.mk (by kernel_rfl)) ?_ | refine okI ?_ | refine brP_true (Nat.beq_refl _) ?_ | refine brP_intro (fun _ => ?_) (fun _ => ?_) | refine bndI ?_ | intro _) <;> conv => whnf)))
    have hl : r.last = ((r.figs.map figA).length : Int) - 1 := by simp [Row.last]
    have H0 := H
    clear H
    refine loopK tabOk { l := 0, f := 17 } mixed (fun i : Nat => [(10, intA i)]) (fun _ => []) (fun _ => []) (fun i => i ≤ r.beside.length ∧ r.stpsErr = firstFrom (fun i s => stpErr r.last (r.beside.take i) s) i (r.beside.drop i)) (fun i => r.beside.length - i) 0 (by kernel_rfl)
      ⟨Nat.zero_le _, rfl⟩ ?_
    conv => whnf
    refine ⟨⟨slotsLe_cons rfl trivial, trivial, trivial⟩, ?_⟩
    intro i ⟨hi, H⟩
    conv => whnf
    refine brP_dec (fun h1 => ?_) (fun h1 => ?_)
    · simp only [List.length_map] at h1
      obtain ⟨x, hx, hd⟩ := drop_cons (l := r.beside) (i := i) (by omega)
      rw [hd] at H
      simp only [firstFrom, stpErr_ref r.last (r.beside.take i) x] at H
      have w1 := within_c x.a 0 r.last
      have w2 := within_c x.b 0 r.last
      have hc : PureA Try.prog 50 [.slice 2 ((r.beside.map stpA).take (i : Int).toNat) .no, stpA x] (boolA ((r.beside.take i).any (x == ·))) := by
        have := has_c (r.beside.take i) x (by simp; omega)
        simpa [stpsA, List.map_take] using this
      have hE : ∀ e : Int, r.stpsErr = ((i : Int), e) → e ≠ 0 → r.check = (2, (i : Int), e) := by
        intro e he h0
        simp [Row.check, h, H0, he, h0]
      generalize within x.a 0 r.last = b1 at *
      generalize within x.b 0 r.last = b2 at *
      generalize (r.beside.take i).any (x == ·) = b3 at *
      rw [hl] at w1 w2
      by_cases hba : x.b ≤ x.a <;> cases b1 <;> cases b2 <;> cases b3
      all_goals (simp only [Bool.not_false, Bool.not_true, Bool.or_true, Bool.true_or, Bool.or_self, Bool.false_eq_true, if_true, if_false, hba] at H)
      all_goals
        conv => whnf
        repeat (any_goals (first | exact falseI | (refine brP_dec (fun _ => ?_) (fun _ => ?_) <;> first | (exfalso; omega) | conv => whnf) | (refine brP_ndec (fun _ => ?_) (fun _ => ?_) <;> first | (exfalso; omega) | conv => whnf) | ((first | refine optP_map hx rfl ?_ | refine callP_a w1 ?_ | refine callP_a w2 ?_ | refine callP_a hc ?_ | refine And.intro (DrawOk.mk (by kernel_rfl)) ?_ | refine okI ?_ | refine brP_true (Nat.beq_refl _) ?_ | refine brP_intro (fun _ => ?_) (fun _ => ?_) | refine bndI ?_ | intro _) <;> conv => whnf)))
      all_goals first | ((refine ⟨⟨?_⟩, trivial⟩; simp [hE _ H, oneOf, triA, intA])) | skip
      (refine ⟨i + 1, ⟨by omega, H⟩, by omega, ?_⟩; (conv => whnf); refine ⟨?_, ?_, ?_⟩ <;> repeat (first | exact trivial | refine slotsLe_cons rfl ?_ | refine keysLe_none ?_ | refine keysLe_cons rfl ?_))
    · conv => whnf
      simp only [List.length_map] at h1
      have : i = r.beside.length := by omega
      subst this
      simp only [List.drop_length, firstFrom] at H
      have w1 := within_c r.bench (-1) r.last
      rw [hl] at w1
      have e : ∀ a b c, (!within a b c) = outside b c a := by intro a b c; rw [Bool.eq_iff_iff]; simp [within, outside] <;> omega
      have hE : r.check = if (!within r.bench (-1) r.last) = true then (3, 0, 4) else (0, 0, 0) := by
        rw [e]
        simp [Row.check, h, H0, H]
      rw [hl] at hE
      generalize within r.bench (-1) ((r.figs.map figA).length - 1) = b at *
      cases b
      · repeat (any_goals (first | exact falseI | (refine brP_dec (fun _ => ?_) (fun _ => ?_) <;> first | (exfalso; omega) | conv => whnf) | (refine brP_ndec (fun _ => ?_) (fun _ => ?_) <;> first | (exfalso; omega) | conv => whnf) | ((first | refine callP_a w1 ?_ | refine And.intro (DrawOk.mk (by kernel_rfl)) ?_ | refine okI ?_ | refine brP_true (Nat.beq_refl _) ?_ | refine brP_intro (fun _ => ?_) (fun _ => ?_) | refine bndI ?_ | intro _) <;> conv => whnf)))
        (refine ⟨⟨?_⟩, trivial⟩; simp [hE, oneOf, triA, intA])
      · repeat (any_goals (first | exact falseI | (refine brP_dec (fun _ => ?_) (fun _ => ?_) <;> first | (exfalso; omega) | conv => whnf) | (refine brP_ndec (fun _ => ?_) (fun _ => ?_) <;> first | (exfalso; omega) | conv => whnf) | ((first | refine callP_a w1 ?_ | refine And.intro (DrawOk.mk (by kernel_rfl)) ?_ | refine okI ?_ | refine brP_true (Nat.beq_refl _) ?_ | refine brP_intro (fun _ => ?_) (fun _ => ?_) | refine bndI ?_ | intro _) <;> conv => whnf)))
        (refine ⟨⟨?_⟩, trivial⟩; simp [hE, oneOf, triA, intA])
end Go.Proofs.Ytmggofcaeolaiaa
namespace Go.Proofs.Ytmggofcaeolaiaa
open Go.Am Go.Proofs Go
structure Part where
  kind : Int
  broken : Bool
deriving DecidableEq
def partC (q : Part) : List AV := [intA q.kind, boolA q.broken]
def partsC : List Part → List AV
  | [] => []
  | q :: l => intA q.kind :: boolA q.broken :: partsC l
def partsA (p : List Part) : AV := .agg (partsC p)
def Fig.part (f : Fig) : Part := ⟨f.has, f.broken⟩
def zeroP : Part := ⟨0, false⟩
def partsTo (l : List Fig) (i : Nat) : List Part := (l.take i).map Fig.part ++ List.replicate (5 - i) zeroP
def Row.parts (r : Row) : List Part := partsTo r.figs r.figs.length
def rowX (r : Row) (p : List Part) : AV := .agg (figsA r.figs :: stpsA r.beside :: intA r.bench :: partsC p)
def kRow : Key := ⟨0, 62, 21⟩
theorem forceL_to {l l' : List AV} {K : List AV → Prop} (h : l = l') (k : K l') : forceL l K := by rw [forceL_eq, h]; exact k
theorem partsC_get : ∀ (p : List Part) (i : Nat) (q : Part), p[i]? = some q → ((partsC p).drop (i * 2)).take 2 = partC q
  | [], i, q, h => by simp at h
  | x :: l, 0, q, h => by simp at h; simp [partsC, partC, h]
  | x :: l, i + 1, q, h => by
    have := partsC_get l i q (by simpa using h)
    rw [show (i + 1) * 2 = i * 2 + 1 + 1 by omega]
    simpa [partsC] using this
theorem list5 {α : Type} {p : List α} (h : p.length = 5) : ∃ a b c d e, p = [a, b, c, d, e] :=
  match p, h with
  | [a, b, c, d, e], _ => ⟨a, b, c, d, e, rfl⟩
theorem lt5 {i : Nat} (h : i < 5) : i = 0 ∨ i = 1 ∨ i = 2 ∨ i = 3 ∨ i = 4 := by omega
theorem partsTo_len (l : List Fig) (i : Nat) (h : i ≤ l.length) (h5 : l.length ≤ 5) : (partsTo l i).length = 5 := by
  simp [partsTo]; omega
theorem partsTo_succ (l : List Fig) (i : Nat) (x : Fig) (hx : l[i]? = some x) (h5 : l.length ≤ 5) : (partsTo l i).set i x.part = partsTo l (i + 1) := by
  have hi := (List.getElem?_eq_some_iff.1 hx).1
  have ht : l.take (i + 1) = l.take i ++ [x] := by rw [List.take_add_one, hx]; rfl
  have hr : List.replicate (5 - i) zeroP = zeroP :: List.replicate (5 - (i + 1)) zeroP := by
    rw [show 5 - i = (5 - (i + 1)) + 1 by omega, List.replicate_succ]
  simp only [partsTo, ht, hr, List.map_append, List.append_assoc, List.map_cons, List.map_nil]
  rw [List.set_append_right _ _ (by simp; omega)]
  simp only [List.length_map, List.length_take, Nat.min_eq_left (Nat.le_of_lt hi), Nat.sub_self, List.set_cons_zero]
  rfl
theorem check_len {r : Row} (h : r.check.2.2 = 0) : r.figs.length ≤ 5 := by
  by_cases h5 : (5 : Int) < r.figs.length
  · simp [Row.check, h5] at h
  · omega
theorem lookOk_c (r : Row) (hr : r.small) (hc : r.check.2.2 = 0) : BoxA Try.prog (.fn 62) [] [rowA r] (.tuple [.ptr kRow 1 13 0 0, intA 0]) [(kRow, 1, 13, [rowX r r.parts])] := by
  have h5 := check_len hc
  have hk := check_c r hr
  unfold triA at hk
  rw [hc] at hk
  refine boxA_codeB tabOk { l := 0, f := 62 } mixed call_62 Try.func62 (by kernel_rfl) ?_
  conv => whnf
  repeat (any_goals (first | exact falseI | (refine brP_dec (fun _ => ?_) (fun _ => ?_) <;> first | (exfalso; omega) | conv => whnf) | (refine brP_ndec (fun _ => ?_) (fun _ => ?_) <;> first | (exfalso; omega) | conv => whnf) | ((first | refine callP_a hk ?_ | refine And.intro (DrawOk.mk (by kernel_rfl)) ?_ | refine okI ?_ | refine brP_true (Nat.beq_refl _) ?_ | refine brP_intro (fun _ => ?_) (fun _ => ?_) | refine bndI ?_ | intro _) <;> conv => whnf)))
  refine loopK tabOk { l := 0, f := 62 } mixed (fun i : Nat => [(25, intA i)]) (fun i => [(kRow, some (1, some (13, [rowX r (partsTo r.figs i)])))]) (fun _ => []) (fun i => i ≤ r.figs.length) (fun i => r.figs.length - i) 0 (by kernel_rfl)
    (Nat.zero_le _) ?_
  conv => whnf
  refine ⟨⟨slotsLe_cons rfl trivial, keysLe_cons rfl trivial, trivial⟩, ?_⟩
  intro i hi
  conv => whnf
  refine brP_dec (fun h1 => ?_) (fun h1 => ?_)
  · simp only [List.length_map] at h1
    obtain ⟨x, hx, hd⟩ := drop_cons (l := r.figs) (i := i) (by omega)
    conv => whnf
    have hp := partsTo_len r.figs i hi h5
    have hs := partsTo_succ r.figs i x hx h5
    generalize partsTo r.figs i = p at *
    obtain ⟨p0, p1, p2, p3, p4, rfl⟩ := list5 hp
    clear hd hp hk hc hr
    rcases lt5 (by omega : i < 5) with rfl | rfl | rfl | rfl | rfl
    · repeat (any_goals (first | exact falseI | (refine brP_dec (fun _ => ?_) (fun _ => ?_) <;> first | (exfalso; omega) | conv => whnf) | (refine brP_ndec (fun _ => ?_) (fun _ => ?_) <;> first | (exfalso; omega) | conv => whnf) | ((first | refine optP_map hx rfl ?_ | refine And.intro (DrawOk.mk (by kernel_rfl)) ?_ | refine okI ?_ | refine brP_true (Nat.beq_refl _) ?_ | refine brP_intro (fun _ => ?_) (fun _ => ?_) | refine bndI ?_ | intro _) <;> conv => whnf)))
      (refine ⟨1, (by omega), by omega, ?_⟩; (conv => whnf); refine ⟨?_, ?_, ?_⟩ <;> repeat (first | exact trivial | refine slotsLe_cons rfl ?_ | refine keysLe_none ?_ | refine keysLe_cons rfl ?_ | refine slotsLe_cons (by (rw [← hs]; rfl)) ?_ | refine keysLe_cons (by (rw [← hs]; rfl)) ?_))
    · repeat (any_goals (first | exact falseI | (refine brP_dec (fun _ => ?_) (fun _ => ?_) <;> first | (exfalso; omega) | conv => whnf) | (refine brP_ndec (fun _ => ?_) (fun _ => ?_) <;> first | (exfalso; omega) | conv => whnf) | ((first | refine optP_map hx rfl ?_ | refine And.intro (DrawOk.mk (by kernel_rfl)) ?_ | refine okI ?_ | refine brP_true (Nat.beq_refl _) ?_ | refine brP_intro (fun _ => ?_) (fun _ => ?_) | refine bndI ?_ | intro _) <;> conv => whnf)))
      (refine ⟨2, (by omega), by omega, ?_⟩; (conv => whnf); refine ⟨?_, ?_, ?_⟩ <;> repeat (first | exact trivial | refine slotsLe_cons rfl ?_ | refine keysLe_none ?_ | refine keysLe_cons rfl ?_ | refine slotsLe_cons (by (rw [← hs]; rfl)) ?_ | refine keysLe_cons (by (rw [← hs]; rfl)) ?_))
    · repeat (any_goals (first | exact falseI | (refine brP_dec (fun _ => ?_) (fun _ => ?_) <;> first | (exfalso; omega) | conv => whnf) | (refine brP_ndec (fun _ => ?_) (fun _ => ?_) <;> first | (exfalso; omega) | conv => whnf) | ((first | refine optP_map hx rfl ?_ | refine And.intro (DrawOk.mk (by kernel_rfl)) ?_ | refine okI ?_ | refine brP_true (Nat.beq_refl _) ?_ | refine brP_intro (fun _ => ?_) (fun _ => ?_) | refine bndI ?_ | intro _) <;> conv => whnf)))
      (refine ⟨3, (by omega), by omega, ?_⟩; (conv => whnf); refine ⟨?_, ?_, ?_⟩ <;> repeat (first | exact trivial | refine slotsLe_cons rfl ?_ | refine keysLe_none ?_ | refine keysLe_cons rfl ?_ | refine slotsLe_cons (by (rw [← hs]; rfl)) ?_ | refine keysLe_cons (by (rw [← hs]; rfl)) ?_))
    · repeat (any_goals (first | exact falseI | (refine brP_dec (fun _ => ?_) (fun _ => ?_) <;> first | (exfalso; omega) | conv => whnf) | (refine brP_ndec (fun _ => ?_) (fun _ => ?_) <;> first | (exfalso; omega) | conv => whnf) | ((first | refine optP_map hx rfl ?_ | refine And.intro (DrawOk.mk (by kernel_rfl)) ?_ | refine okI ?_ | refine brP_true (Nat.beq_refl _) ?_ | refine brP_intro (fun _ => ?_) (fun _ => ?_) | refine bndI ?_ | intro _) <;> conv => whnf)))
      (refine ⟨4, (by omega), by omega, ?_⟩; (conv => whnf); refine ⟨?_, ?_, ?_⟩ <;> repeat (first | exact trivial | refine slotsLe_cons rfl ?_ | refine keysLe_none ?_ | refine keysLe_cons rfl ?_ | refine slotsLe_cons (by (rw [← hs]; rfl)) ?_ | refine keysLe_cons (by (rw [← hs]; rfl)) ?_))
    · repeat (any_goals (first | exact falseI | (refine brP_dec (fun _ => ?_) (fun _ => ?_) <;> first | (exfalso; omega) | conv => whnf) | (refine brP_ndec (fun _ => ?_) (fun _ => ?_) <;> first | (exfalso; omega) | conv => whnf) | ((first | refine optP_map hx rfl ?_ | refine And.intro (DrawOk.mk (by kernel_rfl)) ?_ | refine okI ?_ | refine brP_true (Nat.beq_refl _) ?_ | refine brP_intro (fun _ => ?_) (fun _ => ?_) | refine bndI ?_ | intro _) <;> conv => whnf)))
      (refine ⟨5, (by omega), by omega, ?_⟩; (conv => whnf); refine ⟨?_, ?_, ?_⟩ <;> repeat (first | exact trivial | refine slotsLe_cons rfl ?_ | refine keysLe_none ?_ | refine keysLe_cons rfl ?_ | refine slotsLe_cons (by (rw [← hs]; rfl)) ?_ | refine keysLe_cons (by (rw [← hs]; rfl)) ?_))
  · conv => whnf
    simp only [List.length_map] at h1
    have : i = r.figs.length := by omega
    subst this
    refine And.intro ?_ ?_
    · conv => whnf
      refine ⟨⟨?_⟩, trivial⟩
      rfl
    · repeat (first | exact trivial | refine And.intro rfl ?_ | refine And.intro (by skip) ?_)
def nilPtr : AV := .v (.pointer none)
theorem lookBad_c (r : Row) (hr : r.small) (hc : r.check.2.2 ≠ 0) : BoxA Try.prog (.fn 62) [] [rowA r] (.tuple [nilPtr, intA r.check.2.2]) [] := by
  have hk := check_c r hr
  unfold triA at hk
  generalize r.check = c at *
  obtain ⟨c1, c2, c3⟩ := c
  refine boxA_codeB tabOk { l := 0, f := 62 } mixed call_62 Try.func62 (by kernel_rfl) ?_
  conv => whnf
  repeat (any_goals (first | exact falseI | (refine brP_dec (fun _ => ?_) (fun _ => ?_) <;> first | (exfalso; omega) | conv => whnf) | (refine brP_ndec (fun _ => ?_) (fun _ => ?_) <;> first | (exfalso; omega) | conv => whnf) | ((first | refine callP_a hk ?_ | refine And.intro (DrawOk.mk (by kernel_rfl)) ?_ | refine okI ?_ | refine brP_true (Nat.beq_refl _) ?_ | refine brP_intro (fun _ => ?_) (fun _ => ?_) | refine bndI ?_ | intro _) <;> conv => whnf)))
  refine And.intro ?_ ?_
  · conv => whnf
    refine ⟨⟨?_⟩, trivial⟩
    rfl
  · repeat (first | exact trivial | refine And.intro rfl ?_ | refine And.intro (by skip) ?_)
end Go.Proofs.Ytmggofcaeolaiaa
namespace Go.Proofs.Ytmggofcaeolaiaa
open Go.Am Go.Proofs Go Go.ChangeShapes Go.WideShapes Go.RowKit
theorem bulk_one {H : Type} (d : DataW H) : 1 ≤ Rows.uptoBulk d := by
  cases d with
  | lit l => cases l <;> simp [Rows.uptoBulk]
  | nil => simp [Rows.uptoBulk]
  | ptr d => simp [Rows.uptoBulk]
  | slice elems spare => simp [Rows.uptoBulk]
  | agg parts => simp [Rows.uptoBulk]
  | iface t d => simp [Rows.uptoBulk]
  | map entries => simp [Rows.uptoBulk]
  | held h => simp [Rows.uptoBulk]
theorem bulk_part {H : Type} {d : DataW H} {l : List (DataW H)} (h : d ∈ l) : Rows.uptoBulk d ≤ Rows.uptoBulkAll l := by
  induction l with
  | nil => cases h
  | cons x r ih =>
    simp only [Rows.uptoBulkAll]
    cases List.mem_cons.1 h with
    | inl e => subst e; omega
    | inr e => have := ih e; omega
theorem bulk_len {H : Type} (l : List (DataW H)) : l.length ≤ Rows.uptoBulkAll l := by
  induction l with
  | nil => simp [Rows.uptoBulkAll]
  | cons x r ih => have := bulk_one x; simp only [Rows.uptoBulkAll, List.length_cons]; omega
theorem bulk_agg {H : Type} (l : List (DataW H)) : Rows.uptoBulkAll l ≤ Rows.uptoBulk (.agg l) := by
  simp only [Rows.uptoBulk]; omega
theorem bulk_slice {H : Type} (l s : List (DataW H)) : Rows.uptoBulkAll l ≤ Rows.uptoBulk (.slice l s) := by
  simp only [Rows.uptoBulk]; omega
theorem bulk_bound {H : Type} {l : List (DataW H)} (hk : Rows.uptoSmall H l = true) : Rows.uptoBulkAll l ≤ 1048576 := of_decide_eq_true hk
section
variable {H : Type} {enc : TypeId × Value → H} {P : Program} {W : World} {sp : Nat → Bool} {held : Bool} {fuel : Nat} {cs : List Value} {x : DataW H × List MemPlace}
theorem four {α : Type} {l : List α} (h : l.length = 4) : ∃ a b c d, l = [a, b, c, d] :=
  match l, h with
  | [a, b, c, d], _ => ⟨a, b, c, d, rfl⟩
theorem three {α : Type} {l : List α} (h : l.length = 3) : ∃ a b c, l = [a, b, c] :=
  match l, h with
  | [a, b, c], _ => ⟨a, b, c, rfl⟩
theorem two {α : Type} {l : List α} (h : l.length = 2) : ∃ a b, l = [a, b] :=
  match l, h with
  | [a, b], _ => ⟨a, b, rfl⟩
theorem cells61 : Try.prog.cellsOf 61 = 4 := by kernel_rfl
theorem cells65 : Try.prog.cellsOf 65 = 2 := by kernel_rfl
theorem cells25 : Try.prog.cellsOf 25 = 3 := by kernel_rfl
theorem cells3 : Try.prog.cellsOf 3 = 1 := by kernel_rfl
theorem cells4 : Try.prog.cellsOf 4 = 1 := by kernel_rfl
theorem cells9 : Try.prog.cellsOf 9 = 1 := by kernel_rfl
theorem cells22 : Try.prog.cellsOf 22 = 1 := by kernel_rfl
theorem cells23 : Try.prog.cellsOf 23 = 1 := by kernel_rfl
def figV (f : Fig) : List Value := [.string f.name, .int .i64 f.has, .bool f.broken, .int .i64 f.wants]
theorem fig_open (h : DataW.trod enc Try.prog W 0 sp held fuel 61 cs = some x) : ∃ f : Fig, cs = figV f ∧ f.name.size ≤ Rows.uptoBulk x.1 := by
  obtain ⟨xs, n, rfl, rfl, hl, hx, hf⟩ := DataW.trod_struct Try.underlying61 h
  rw [cells61] at hl
  obtain ⟨c0, c1, c2, c3, rfl⟩ := four hl
  obtain ⟨x0, x1, x2, x3, rfl⟩ := four hx
  have h0 : DataW.trod enc Try.prog W 0 sp held n 9 (([c0, c1, c2, c3].drop 0).take (Try.prog.cellsOf 9)) = some x0 := hf 0 _ rfl
  have h1 : DataW.trod enc Try.prog W 0 sp held n 3 (([c0, c1, c2, c3].drop 1).take (Try.prog.cellsOf 3)) = some x1 := hf 1 _ rfl
  have h2 : DataW.trod enc Try.prog W 0 sp held n 4 (([c0, c1, c2, c3].drop 2).take (Try.prog.cellsOf 4)) = some x2 := hf 2 _ rfl
  have h3 : DataW.trod enc Try.prog W 0 sp held n 3 (([c0, c1, c2, c3].drop 3).take (Try.prog.cellsOf 3)) = some x3 := hf 3 _ rfl
  rw [cells9] at h0
  rw [cells3] at h1 h3
  rw [cells4] at h2
  obtain ⟨s, e0, rfl, _⟩ := DataW.trod_string Try.underlying9 h0
  obtain ⟨m, e1, rfl, _⟩ := DataW.trod_int Try.underlying3 h1
  obtain ⟨b, e2, rfl⟩ := DataW.trod_bool Try.underlying4 h2
  obtain ⟨w, e3, rfl, _⟩ := DataW.trod_int Try.underlying3 h3
  simp at e0 e1 e2 e3
  subst e0 e1 e2 e3
  refine ⟨⟨s, m, b, w⟩, rfl, ?_⟩
  simp only [Rows.uptoBulk, Rows.uptoBulkAll, List.map_cons, List.map_nil]
  simp
  omega
def stpV (s : Stp) : List Value := [.int .i64 s.a, .int .i64 s.b]
theorem stp_open (h : DataW.trod enc Try.prog W 0 sp held fuel 65 cs = some x) : ∃ s : Stp, cs = stpV s := by
  obtain ⟨xs, n, rfl, rfl, hl, hx, hf⟩ := DataW.trod_struct Try.underlying65 h
  rw [cells65] at hl
  obtain ⟨c0, c1, rfl⟩ := two hl
  obtain ⟨x0, x1, rfl⟩ := two hx
  have h0 : DataW.trod enc Try.prog W 0 sp held n 3 (([c0, c1].drop 0).take (Try.prog.cellsOf 3)) = some x0 := hf 0 _ rfl
  have h1 : DataW.trod enc Try.prog W 0 sp held n 3 (([c0, c1].drop 1).take (Try.prog.cellsOf 3)) = some x1 := hf 1 _ rfl
  rw [cells3] at h0 h1
  obtain ⟨m, e0, rfl, _⟩ := DataW.trod_int Try.underlying3 h0
  obtain ⟨w, e1, rfl, _⟩ := DataW.trod_int Try.underlying3 h1
  simp at e0 e1
  subst e0 e1
  exact ⟨⟨m, w⟩, rfl⟩
theorem slice_open {t e : TypeId} {n : Nat} {α : Type} (ht : P.underlying t = some (.slice e)) (hn : P.cellsOf e = n) {mk : α → List Value} {good : α → DataW H → Prop}
    (hel : ∀ {fuel : Nat} {cs : List Value} {x : DataW H × List MemPlace}, DataW.trod enc P W 0 sp held fuel e cs = some x → ∃ a, cs = mk a ∧ good a x.1) (h : DataW.trod enc P W 0 sp held fuel t cs = some x) :
    (cs = [.slice none 0 0] ∧ x.1 = .nil) ∨ ∃ (a : Addr) (cap : Nat) (l : List α) (elems rest : List (DataW H)), cs = [.slice (some a) l.length cap] ∧ l.length ≤ cap ∧ cap ≤ maxLen ∧ x.1 = .slice elems rest ∧ elems.length = l.length ∧
      (∀ (i : Nat) (y : α), l[i]? = some y → ∃ d, elems[i]? = some d ∧ good y d) ∧ ∀ (i : Nat) (y : α), l[i]? = some y → (mk y).length = n ∧ ∀ c v, (mk y)[c]? = some v → W.cell? ((a.add (i * n)).add c) = some v := by
  rcases DataW.trod_slice ht h with ⟨h1, h2⟩ | ⟨a, len, cap, elems, rest, m, rfl, rfl, rfl, _, hlc, hm, hlen, hE, _, _⟩
  · exact .inl ⟨h1, by rw [h2]⟩
  · rw [hn] at hE
    have each : ∀ i, i < len → ∃ y z, elems[i]? = some z ∧ good y z.1 ∧ (mk y).length = n ∧ ∀ c v, (mk y)[c]? = some v → W.cell? ((a.add (i * n)).add c) = some v := by
      intro i hi
      have := hE i hi
      have hz : elems[i]? = some (elems[i]'(by omega)) := List.getElem?_eq_getElem _
      rw [hz, Option.bind_eq_some_iff] at this
      obtain ⟨cs', hc, ht'⟩ := this
      obtain ⟨y, rfl, hg⟩ := hel ht'
      obtain ⟨_, hcl, hcc⟩ := World.cells?_some hc
      refine ⟨y, _, hz, hg, hcl, fun c v hv => ?_⟩
      have hcn : c < n := by rw [← hcl]; exact (List.getElem?_eq_some_iff.1 hv).1
      rw [hcc c hcn]; exact hv
    have build : ∀ k, k ≤ len → ∃ l : List α, l.length = k ∧ ∀ (i : Nat) (y : α), l[i]? = some y → ∃ z, elems[i]? = some z ∧ good y z.1 ∧ (mk y).length = n ∧ ∀ c v, (mk y)[c]? = some v → W.cell? ((a.add (i * n)).add c) = some v := by
      intro k
      induction k with
      | zero => exact fun _ => ⟨[], rfl, fun i y h => by simp at h⟩
      | succ k ih =>
        intro hk
        obtain ⟨l, hl, hi⟩ := ih (by omega)
        obtain ⟨y, z, hz, hg, h1, h2⟩ := each k (by omega)
        refine ⟨l ++ [y], by simp [hl], fun i u hu => ?_⟩
        by_cases hlt : i < l.length
        · rw [List.getElem?_append_left hlt] at hu
          exact hi i u hu
        · rw [List.getElem?_append_right (by omega)] at hu
          have : i - l.length = 0 := by
            have := (List.getElem?_eq_some_iff.1 hu).1
            simp at this; omega
          rw [this] at hu
          simp at hu; subst hu
          have : i = k := by omega
          subst this
          exact ⟨z, hz, hg, h1, h2⟩
    obtain ⟨l, hl, hi⟩ := build len (Nat.le_refl _)
    refine .inr ⟨a, cap, l, elems.map (·.1), rest.map (·.1), by rw [hl], by omega, hm, rfl, by simp [hlen, hl], fun i y hy => ?_, fun i y hy => ?_⟩
    · obtain ⟨z, hz, hg, _⟩ := hi i y hy
      exact ⟨z.1, by rw [List.getElem?_map, hz]; rfl, hg⟩
    · obtain ⟨z, hz, hg, h1, h2⟩ := hi i y hy
      exact ⟨h1, h2⟩
def lies (W : World) (b _ : Nat) : Prop := b < W.heap.size
theorem add_none {b off k : Nat} : (⟨b, off, none⟩ : Addr).add k = ⟨b, off + k, none⟩ := by
  unfold Addr.add
  split
  · subst_vars; rfl
  · rfl
theorem cell_lies {a : Addr} {v : Value} (h : W.cell? a = some v) : a.block < W.heap.size := by
  unfold World.cell? at h
  split at h
  · rename_i hb; exact (Array.getElem?_eq_some_iff.1 hb).1
  · simp at h
theorem slice_rel {α : Type} {A : α → AV} {mk : α → List Value} {n cap : Nat} {l : List α} {a : Addr} (hs : a.spot = none) (hcap : l.length ≤ cap) (hm : cap ≤ maxLen) (hA : ∀ y, (A y).cells = (mk y).map .v) (h1 : ∀ y, ∀ v ∈ mk y, v.oneCell' = true)
    (hc : ∀ (i : Nat) (y : α), l[i]? = some y → (mk y).length = n ∧ ∀ c v, (mk y)[c]? = some v → W.cell? ((a.add (i * n)).add c) = some v) : PRel W (lies W) (.slice n (l.map A) .no) (.slice (some a) l.length cap) := by
  obtain ⟨b, off, spot⟩ := a
  simp only at hs
  subst hs
  have := PRel.slice (w := W) (imm := lies W) (sz := n) (es := l.map A) (tok := .no) (b := b) (off := off) (cap := cap) (fun i c => ((l[i]?).bind fun y => (mk y)[c]?).getD (.bool false)) (by simpa using hcap) (.inl rfl) hm
    (fun i e he => by
      rw [List.getElem?_map, Option.map_eq_some_iff] at he
      obtain ⟨y, hy, rfl⟩ := he
      rw [hA, List.length_map]; exact (hc i y hy).1)
    (fun i e c u he hu => by
      rw [List.getElem?_map, Option.map_eq_some_iff] at he
      obtain ⟨y, hy, rfl⟩ := he
      rw [hA, List.getElem?_map, Option.map_eq_some_iff] at hu
      obtain ⟨v, hv, rfl⟩ := hu
      have := (hc i y hy).2 c v hv
      rw [add_none, add_none] at this
      simp only [hy, Option.bind_some, hv, Option.getD_some]
      exact ⟨this, cell_lies this, h1 y v (List.mem_of_getElem? hv)⟩)
    (fun i e c u he hu => by
      rw [List.getElem?_map, Option.map_eq_some_iff] at he
      obtain ⟨y, hy, rfl⟩ := he
      rw [hA, List.getElem?_map, Option.map_eq_some_iff] at hu
      obtain ⟨v, hv, rfl⟩ := hu
      simp only [hy, Option.bind_some, hv, Option.getD_some]
      exact .v _)
  rw [List.length_map] at this
  exact this
theorem spot_of {t e : TypeId} {r : Reach} {b0 len cap : Nat} {a : Addr} (ht : P.underlying t = some (.slice e)) (h : Cell.okWide P W r b0 t (.slice (some a) len cap)) : a.spot = none := by
  simp only [Cell.okWide, ht, Cell.ok, World.has] at h
  exact h.2.2.2.1
set_option maxRecDepth 100000 in
theorem figs_cell {r : Reach} {b0 : Nat} {c : Value} (hk : Cell.okWide Try.prog W r b0 22 c) (h : DataW.trod enc Try.prog W 0 sp held fuel 22 [c] = some x) :
    ∃ l : List Fig, l.length ≤ Rows.uptoBulk x.1 ∧ (∀ f ∈ l, f.name.size ≤ Rows.uptoBulk x.1) ∧ PRel W (lies W) (figsA l) c ∧ c.oneCell' = true := by
  rcases slice_open (good := fun (f : Fig) d => f.name.size ≤ Rows.uptoBulk d) Try.underlying22 cells61 (fun h => fig_open h) h with ⟨h1, h2⟩ | ⟨a, cap, l, elems, rest, h1, hc, hm, hx, hl, hg, he⟩
  · simp only [List.cons.injEq, and_true] at h1
    subst h1
    exact ⟨[], Nat.zero_le _, by simp, .nil 4 .no (.inl rfl), rfl⟩
  · simp only [List.cons.injEq, and_true] at h1
    subst h1
    rw [hx]
    have hb := bulk_slice elems rest
    have hsp : a.spot = none := spot_of (P := Try.prog) (W := W) (r := r) (b0 := b0) (len := l.length) (cap := cap) Try.underlying22 hk
    have hbl := bulk_len elems
    refine ⟨l, by omega, fun f hf => ?_, slice_rel (A := figA) (mk := figV) (n := 4) (l := l) hsp hc hm (fun y => rfl) (fun y v hv => ?_) he, rfl⟩
    · obtain ⟨j, hj⟩ := List.mem_iff_getElem?.1 hf
      obtain ⟨d, hd, hs⟩ := hg j f hj
      have := bulk_part (List.mem_of_getElem? hd)
      omega
    · simp [figV] at hv
      rcases hv with rfl | rfl | rfl | rfl <;> rfl
set_option maxRecDepth 100000 in
theorem stps_cell {r : Reach} {b0 : Nat} {c : Value} (hk : Cell.okWide Try.prog W r b0 23 c) (h : DataW.trod enc Try.prog W 0 sp held fuel 23 [c] = some x) :
    ∃ l : List Stp, l.length ≤ Rows.uptoBulk x.1 ∧ PRel W (lies W) (stpsA l) c ∧ c.oneCell' = true := by
  rcases slice_open (good := fun (f : Stp) d => True) Try.underlying23 cells65 (fun h => by obtain ⟨s, hs⟩ := stp_open h; exact ⟨s, hs, trivial⟩) h with ⟨h1, h2⟩ | ⟨a, cap, l, elems, rest, h1, hc, hm, hx, hl, hg, he⟩
  · simp only [List.cons.injEq, and_true] at h1
    subst h1
    exact ⟨[], Nat.zero_le _, .nil 2 .no (.inl rfl), rfl⟩
  · simp only [List.cons.injEq, and_true] at h1
    subst h1
    rw [hx]
    have hb := bulk_slice elems rest
    have hsp : a.spot = none := spot_of (P := Try.prog) (W := W) (r := r) (b0 := b0) (len := l.length) (cap := cap) Try.underlying23 hk
    have hbl := bulk_len elems
    refine ⟨l, by omega, slice_rel (A := stpA) (mk := stpV) (n := 2) (l := l) hsp hc hm (fun y => rfl) (fun y v hv => ?_) he, rfl⟩
    simp [stpV] at hv
    rcases hv with rfl | rfl <;> rfl
theorem types25 : Try.prog.cellTypes Try.prog.depth 25 = some [22, 23, 3] := by kernel_rfl
set_option maxRecDepth 100000 in
theorem row_read {r : Reach} {b0 : Nat} {v : Value} {d : DataW H} {ps : List MemPlace} (hk : Value.okWide Try.prog W r b0 25 v) (h : DataW.Trod enc Try.prog W 0 sp held 25 v d ps) :
    ∃ q : Row, (q.figs.length ≤ Rows.uptoBulk d ∧ q.beside.length ≤ Rows.uptoBulk d ∧ ∀ f ∈ q.figs, f.name.size ≤ Rows.uptoBulk d) ∧ inI q.bench ∧ PRel W (lies W) (rowA q) v := by
  simp only [Value.okWide, Try.underlying25] at hk
  obtain ⟨vs, rfl, hsz, ts, hts, _, hcell⟩ := hk
  rw [types25] at hts
  simp only [Option.some.injEq] at hts
  subst hts
  rw [cells25] at hsz
  obtain ⟨fuel, hf⟩ := h
  obtain ⟨l⟩ := vs
  obtain ⟨c0, c1, c2, rfl⟩ := three (by simpa using hsz)
  obtain ⟨xs, n, rfl, e, hl, hx, hfs⟩ := DataW.trod_struct Try.underlying25 hf
  obtain ⟨x0, x1, x2, rfl⟩ := three hx
  have h0 : DataW.trod enc Try.prog W 0 sp held n 22 (([c0, c1, c2].drop 0).take (Try.prog.cellsOf 22)) = some x0 := hfs 0 _ rfl
  have h1 : DataW.trod enc Try.prog W 0 sp held n 23 (([c0, c1, c2].drop 1).take (Try.prog.cellsOf 23)) = some x1 := hfs 1 _ rfl
  have h2 : DataW.trod enc Try.prog W 0 sp held n 3 (([c0, c1, c2].drop 2).take (Try.prog.cellsOf 3)) = some x2 := hfs 2 _ rfl
  rw [cells22] at h0
  rw [cells23] at h1
  rw [cells3] at h2
  obtain ⟨u0, hu0, k0⟩ := hcell 0 c0 rfl
  obtain ⟨u1, hu1, k1⟩ := hcell 1 c1 rfl
  simp at hu0 hu1
  subst hu0 hu1
  obtain ⟨fs, a1, a2, a3, a4⟩ := figs_cell k0 h0
  obtain ⟨bs, b1, b2, b3⟩ := stps_cell k1 h1
  obtain ⟨m, e2, rfl, hw⟩ := DataW.trod_int Try.underlying3 h2
  simp at e2
  subst e2
  simp only [Prod.mk.injEq] at e
  obtain ⟨rfl, _⟩ := e
  have hb := bulk_agg ([x0, x1, (.lit (.int .i64 m), [])].map (·.1))
  have p0 := bulk_part (d := x0.1) (l := [x0, x1, (.lit (.int .i64 m), [])].map (·.1)) (by simp)
  have p1 := bulk_part (d := x1.1) (l := [x0, x1, (.lit (.int .i64 m), [])].map (·.1)) (by simp)
  refine ⟨⟨fs, bs, m⟩, ⟨by simp only; omega, by simp only; omega, fun f hf => by have := a2 f hf; omega⟩, ?_, ?_⟩
  · have := bounds_i64 hw
    simp only [inI]; omega
  · refine PRel.agg rfl (fun i x y hx hy => ?_) (fun y hy => ?_)
    · match i with
      | 0 => simp at hx hy; subst hx hy; exact a3
      | 1 => simp at hx hy; subst hx hy; exact b2
      | 2 => simp at hx hy; subst hx hy; exact .v _
      | i + 3 => simp at hx
    · simp at hy
      rcases hy with rfl | rfl | rfl
      · exact a4
      · exact b3
      · rfl
end
theorem kept_of_below {W W' : World} {may : MemPlace → Prop} (h : Below W.heap.size W W') : W.keptBut W' may := by
  refine ⟨h.os, h.output, fun i hi => ?_⟩
  rw [h.block i hi]
  cases W.heap[i]? with
  | none => rfl
  | some o => cases o <;> first | rfl | exact ⟨rfl, rfl, rfl, fun _ _ => rfl⟩ | exact .inr ⟨rfl, rfl⟩
theorem laidOut : laidOutB Try.prog = true := by kernel_rfl
theorem own : ownKnob Try.prog.godebug = none := by kernel_rfl
theorem law_calls {f : FuncId} {args : List AV} {W : World} {cargs : Array Value} (h : PureA Try.prog f args (boolA true)) (hr : PRels W (lies W) args cargs) :
    Calls Try.prog f cargs W fun e W' => e = .returned (.bool true) ∧ Below W.heap.size W W' := by
  refine (h.2 W (lies W) cargs (fun b i hb => hb) hr).mono ?_
  rintro e W' ⟨y, imm', rfl, _, hy, hb⟩
  have : y = .bool true := by
    unfold boolA at hy
    cases hy
    rfl
  subst this
  exact ⟨rfl, hb⟩
end Go.Proofs.Ytmggofcaeolaiaa
namespace Go.Proofs.Ytmggofcaeolaiaa
open Go.Am Go.Proofs Go
def selFrom (g : Nat → Fig → Bool) : Nat → List Fig → List Int
  | _, [] => []
  | i, x :: xs => if g i x = true then (i : Int) :: selFrom g (i + 1) xs else selFrom g (i + 1) xs
theorem selFrom_len (g : Nat → Fig → Bool) : ∀ (i : Nat) (l : List Fig), (selFrom g i l).length ≤ l.length
  | _, [] => Nat.le_refl _
  | i, x :: xs => by
    have := selFrom_len g (i + 1) xs
    unfold selFrom
    split <;> simp <;> omega
def isWrong (f : Fig) (q : Part) : Bool := !(decide (f.wants = -1)) && !eqL [.int .i64 q.kind, .bool q.broken] [.int .i64 f.wants, .bool false]
def Row.wrong (r : Row) (p : List Part) : List Int := selFrom (fun i f => isWrong f (p.getD i zeroP)) 0 r.figs
def Row.bad (r : Row) : List Int := selFrom (fun _ f => !f.right) 0 r.figs
theorem bad_c (r : Row) (hr : r.small) : PureA Try.prog 44 [rowA r] (intsA r.bad) := by
  obtain ⟨h1, h2, h3⟩ := hr
  have hlen := selFrom_len (fun _ f => !f.right) 0 r.figs
  have hR : r.bad = selFrom (fun _ f => !f.right) 0 r.figs := rfl
  rw [← hR] at hlen
  generalize r.bad = R at *
  refine pureA_codeB tabOk { l := 0, f := 44 } mixed call_44 Try.func44 (by kernel_rfl) ?_
  conv => whnf
  refine loopTok 3 1 ⟨0, 44, 22⟩ ?_
  conv => whnf
  refine loopK tabOk { l := 0, f := 44 } mixed (fun a : Nat × List Int => [(4, intA a.1), (3, .slice 1 (a.2.map intA) (.own ⟨0, 44, 22⟩ 1))]) (fun _ => []) (fun a => [(⟨0, 44, 22⟩, some (1, a.2.length))]) (fun a => a.1 ≤ r.figs.length ∧ R = a.2 ++ selFrom (fun _ f => !f.right) a.1 (r.figs.drop a.1)) (fun a => r.figs.length - a.1) (0, []) (by kernel_rfl)
    ⟨Nat.zero_le _, hR⟩ ?_
  conv => whnf
  refine ⟨⟨slotsLe_cons rfl (slotsLe_cons rfl trivial), trivial, keysLe_cons rfl trivial⟩, ?_⟩
  intro ⟨i, acc⟩ ⟨hi, H⟩
  simp only at hi H
  conv => whnf
  refine brP_dec (fun h1 => ?_) (fun h1 => ?_)
  · simp only [List.length_map] at h1
    obtain ⟨x, hx, hd⟩ := drop_cons (l := r.figs) (i := i) (by omega)
    rw [hd] at H
    simp only [selFrom] at H
    have hx1 := right_c x
    have hl : acc.length ≤ 1048576 := by have := congrArg List.length H; simp at this; omega
    obtain ⟨b, hb⟩ : ∃ b, b = x.right := ⟨_, rfl⟩
    simp only [← hb] at H hx1
    clear hb
    conv => whnf
    cases b
    · repeat (any_goals (first | exact falseI | (refine brP_dec (fun _ => ?_) (fun _ => ?_) <;> first | (exfalso; omega) | conv => whnf) | (refine brP_ndec (fun _ => ?_) (fun _ => ?_) <;> first | (exfalso; omega) | conv => whnf) | ((first | refine optP_map hx rfl ?_ | refine callP_a hx1 ?_ | refine And.intro (DrawOk.mk (by kernel_rfl)) ?_ | refine okI ?_ | refine brP_true (Nat.beq_refl _) ?_ | refine brP_intro (fun _ => ?_) (fun _ => ?_) | refine bndI ?_ | intro _) <;> conv => whnf)))
      (refine ⟨(i + 1, acc ++ [(i : Int)]), ⟨by simp only; omega, by simpa using H⟩, (by simp only; omega), ?_⟩; (conv => whnf); refine ⟨?_, ?_, ?_⟩ <;> repeat (first | exact trivial | refine slotsLe_cons rfl ?_ | refine keysLe_none ?_ | refine keysLe_cons rfl ?_ | refine slotsLe_cons (by first | (simp only [List.map_append]; rfl) | ((conv => lhs; whnf); simp; done) | ((conv => lhs; whnf); simp; omega)) ?_ | refine keysLe_cons (by first | (simp only [List.map_append]; rfl) | ((conv => lhs; whnf); simp; done) | ((conv => lhs; whnf); simp; omega)) ?_))
    · repeat (any_goals (first | exact falseI | (refine brP_dec (fun _ => ?_) (fun _ => ?_) <;> first | (exfalso; omega) | conv => whnf) | (refine brP_ndec (fun _ => ?_) (fun _ => ?_) <;> first | (exfalso; omega) | conv => whnf) | ((first | refine optP_map hx rfl ?_ | refine callP_a hx1 ?_ | refine And.intro (DrawOk.mk (by kernel_rfl)) ?_ | refine okI ?_ | refine brP_true (Nat.beq_refl _) ?_ | refine brP_intro (fun _ => ?_) (fun _ => ?_) | refine bndI ?_ | intro _) <;> conv => whnf)))
      (refine ⟨(i + 1, acc), ⟨by simp only; omega, by simpa using H⟩, (by simp only; omega), ?_⟩; (conv => whnf); refine ⟨?_, ?_, ?_⟩ <;> repeat (first | exact trivial | refine slotsLe_cons rfl ?_ | refine keysLe_none ?_ | refine keysLe_cons rfl ?_))
  · conv => whnf
    simp only [List.length_map] at h1
    have : i = r.figs.length := by omega
    subst this
    simp only [List.drop_length, selFrom, List.append_nil] at H
    (refine ⟨⟨?_⟩, trivial⟩; rw [H]; rfl)
theorem wrong_c (r : Row) (p p' : List Part) (hp : p.length = 5) (h5 : r.figs.length ≤ 5) :
    BoxA Try.prog (.fn 63) [(kRow, 1, 13, [rowX r p'])] [.ptr kRow 1 13 0 0, partsA p] (.slice 1 ((r.wrong p).map intA) (.own ⟨0, 63, 33⟩ 1)) [(kRow, 1, 13, [rowX r p'])] := by
  have hlen := selFrom_len (fun i f => isWrong f (p.getD i zeroP)) 0 r.figs
  have hR : r.wrong p = selFrom (fun i f => isWrong f (p.getD i zeroP)) 0 r.figs := rfl
  rw [← hR] at hlen
  generalize r.wrong p = R at *
  obtain ⟨p0, p1, p2, p3, p4, hpe⟩ := list5 hp
  subst hpe
  refine boxA_codeB tabOk { l := 0, f := 63 } mixed call_63 Try.func63 (by kernel_rfl) ?_
  conv => whnf
  repeat (any_goals (first | exact falseI | (refine brP_dec (fun _ => ?_) (fun _ => ?_) <;> first | (exfalso; omega) | conv => whnf) | (refine brP_ndec (fun _ => ?_) (fun _ => ?_) <;> first | (exfalso; omega) | conv => whnf) | ((first | refine And.intro (DrawOk.mk (by kernel_rfl)) ?_ | refine okI ?_ | refine brP_true (Nat.beq_refl _) ?_ | refine brP_intro (fun _ => ?_) (fun _ => ?_) | refine bndI ?_ | intro _) <;> conv => whnf)))
  refine loopTok 4 1 ⟨0, 63, 33⟩ ?_
  conv => whnf
  repeat (any_goals (first | exact falseI | (refine brP_dec (fun _ => ?_) (fun _ => ?_) <;> first | (exfalso; omega) | conv => whnf) | (refine brP_ndec (fun _ => ?_) (fun _ => ?_) <;> first | (exfalso; omega) | conv => whnf) | ((first | refine And.intro (DrawOk.mk (by kernel_rfl)) ?_ | refine okI ?_ | refine brP_true (Nat.beq_refl _) ?_ | refine brP_intro (fun _ => ?_) (fun _ => ?_) | refine bndI ?_ | intro _) <;> conv => whnf)))
  refine loopK tabOk { l := 0, f := 63 } mixed (fun a : Nat × List Int => [(13, intA a.1), (4, .slice 1 (a.2.map intA) (.own ⟨0, 63, 33⟩ 1))]) (fun _ => []) (fun a => [(⟨0, 63, 33⟩, some (1, a.2.length))]) (fun a => a.1 ≤ r.figs.length ∧ R = a.2 ++ selFrom (fun i f => isWrong f ([p0, p1, p2, p3, p4].getD i zeroP)) a.1 (r.figs.drop a.1)) (fun a => r.figs.length - a.1) (0, []) (by kernel_rfl)
    ⟨Nat.zero_le _, hR⟩ ?_
  conv => whnf
  refine ⟨⟨slotsLe_cons rfl (slotsLe_cons rfl trivial), trivial, keysLe_cons rfl trivial⟩, ?_⟩
  intro ⟨i, acc⟩ ⟨hi, H⟩
  simp only at hi H
  conv => whnf
  refine brP_dec (fun h1 => ?_) (fun h1 => ?_)
  · simp only [List.length_map] at h1
    obtain ⟨x, hx, hd⟩ := drop_cons (l := r.figs) (i := i) (by omega)
    rw [hd] at H
    simp only [selFrom] at H
    have hl : acc.length ≤ 1048576 := by have := congrArg List.length H; simp at this; omega
    obtain ⟨q, hq⟩ : ∃ q, [p0, p1, p2, p3, p4][i]? = some q := ⟨[p0, p1, p2, p3, p4][i]'(by simp; omega), by simp⟩
    have hq' : [p0, p1, p2, p3, p4].getD i zeroP = q := by simp only [List.getD, hq]; rfl
    simp only [hq'] at H
    have hg : List.take 2 (List.drop (0 + (i : Int).toNat * 2) (partsC [p0, p1, p2, p3, p4])) = partC q := by simpa using partsC_get _ i q hq
    have hb : Nat.ble (0 + (i : Int).toNat * 2 + 2) 10 = true := by simp; omega
    conv => whnf
    repeat (any_goals (first | exact falseI | (refine brP_dec (fun _ => ?_) (fun _ => ?_) <;> first | (exfalso; omega) | conv => whnf) | (refine brP_ndec (fun _ => ?_) (fun _ => ?_) <;> first | (exfalso; omega) | conv => whnf) | ((first | refine optP_map hx rfl ?_ | refine okP_intro hb ?_ | refine forceL_to hg ?_ | refine And.intro (DrawOk.mk (by kernel_rfl)) ?_ | refine okI ?_ | refine brP_true (Nat.beq_refl _) ?_ | refine brP_intro (fun _ => ?_) (fun _ => ?_) | refine bndI ?_ | intro _) <;> conv => whnf)))
    · rename_i h2
      have hw : isWrong x q = false := by simp [isWrong, h2]
      simp only [hw, Bool.false_eq_true, if_false] at H
      (refine ⟨(i + 1, acc), ⟨by simp only; omega, by simpa using H⟩, (by simp only; omega), ?_⟩; (conv => whnf); refine ⟨?_, ?_, ?_⟩ <;> repeat (first | exact trivial | refine slotsLe_cons rfl ?_ | refine keysLe_none ?_ | refine keysLe_cons rfl ?_))
    · rename_i h2 h3 _
      have hw : isWrong x q = true := by simp only [isWrong, h2, h3, decide_false, Bool.not_false, Bool.and_self]
      simp only [hw, if_true] at H
      (refine ⟨(i + 1, acc ++ [(i : Int)]), ⟨by simp only; omega, by simpa using H⟩, (by simp only; omega), ?_⟩; (conv => whnf); refine ⟨?_, ?_, ?_⟩ <;> repeat (first | exact trivial | refine slotsLe_cons rfl ?_ | refine keysLe_none ?_ | refine keysLe_cons rfl ?_ | refine slotsLe_cons (by first | (simp only [List.map_append]; rfl) | ((conv => lhs; whnf); simp; done) | ((conv => lhs; whnf); simp; omega)) ?_ | refine keysLe_cons (by first | (simp only [List.map_append]; rfl) | ((conv => lhs; whnf); simp; done) | ((conv => lhs; whnf); simp; omega)) ?_))
    · rename_i h2 h3
      have hw : isWrong x q = false := by simp only [isWrong, h2, h3, decide_false, Bool.and_false]
      simp only [hw, Bool.false_eq_true, if_false] at H
      (refine ⟨(i + 1, acc), ⟨by simp only; omega, by simpa using H⟩, (by simp only; omega), ?_⟩; (conv => whnf); refine ⟨?_, ?_, ?_⟩ <;> repeat (first | exact trivial | refine slotsLe_cons rfl ?_ | refine keysLe_none ?_ | refine keysLe_cons rfl ?_))
  · conv => whnf
    simp only [List.length_map] at h1
    have : i = r.figs.length := by omega
    subst this
    simp only [List.drop_length, selFrom, List.append_nil] at H
    refine And.intro ?_ ?_
    · conv => whnf
      refine ⟨⟨?_⟩, trivial⟩
      (rw [H]; rfl)
    · repeat (first | exact trivial | refine And.intro rfl ?_ | refine And.intro (by skip) ?_)
def wrongA (r : Row) : AV := .tuple [intsA (if r.check.2.2 = 0 then r.wrong r.parts else []), intA r.check.2.2]
theorem Wrong_c (r : Row) (hr : r.small) : PureA Try.prog 18 [rowA r] (wrongA r) := by
  unfold wrongA
  by_cases hc : r.check.2.2 = 0
  · have hl := lookOk_c r hr hc
    have h5 := check_len hc
    have hp := partsTo_len r.figs _ (Nat.le_refl _) h5
    have hw := wrong_c r r.parts r.parts hp h5
    have e : partsTo r.figs r.figs.length = r.parts := rfl
    rw [e] at hp
    rw [hc]
    generalize r.parts = p at *
    clear e
    obtain ⟨p0, p1, p2, p3, p4, rfl⟩ := list5 hp
    refine pureA_codeB tabOk { l := 0, f := 18, mat := [62, 63] } mixed call_18 Try.func18 (by kernel_rfl) ?_
    conv => whnf
    repeat (any_goals (first | exact falseI | (refine brP_dec (fun _ => ?_) (fun _ => ?_) <;> first | (exfalso; omega) | conv => whnf) | (refine brP_ndec (fun _ => ?_) (fun _ => ?_) <;> first | (exfalso; omega) | conv => whnf) | ((first | refine And.intro (DrawOk.mk (by kernel_rfl)) ?_ | refine okI ?_ | refine brP_true (Nat.beq_refl _) ?_ | refine brP_intro (fun _ => ?_) (fun _ => ?_) | refine bndI ?_ | intro _) <;> conv => whnf)))
    refine ⟨[], ?_⟩
    conv => whnf
    refine ⟨_, _, hl, ?_⟩
    conv => whnf
    repeat (any_goals (first | exact falseI | (refine brP_dec (fun _ => ?_) (fun _ => ?_) <;> first | (exfalso; omega) | conv => whnf) | (refine brP_ndec (fun _ => ?_) (fun _ => ?_) <;> first | (exfalso; omega) | conv => whnf) | ((first | refine And.intro (DrawOk.mk (by kernel_rfl)) ?_ | refine okI ?_ | refine brP_true (Nat.beq_refl _) ?_ | refine brP_intro (fun _ => ?_) (fun _ => ?_) | refine bndI ?_ | intro _) <;> conv => whnf)))
    refine ⟨[kRow], ?_⟩
    conv => whnf
    refine ⟨_, _, hw, ?_⟩
    conv => whnf
    repeat (any_goals (first | exact falseI | (refine brP_dec (fun _ => ?_) (fun _ => ?_) <;> first | (exfalso; omega) | conv => whnf) | (refine brP_ndec (fun _ => ?_) (fun _ => ?_) <;> first | (exfalso; omega) | conv => whnf) | ((first | refine And.intro (DrawOk.mk (by kernel_rfl)) ?_ | refine okI ?_ | refine brP_true (Nat.beq_refl _) ?_ | refine brP_intro (fun _ => ?_) (fun _ => ?_) | refine bndI ?_ | intro _) <;> conv => whnf)))
    (refine ⟨⟨?_⟩, trivial⟩; simp [oneOf, intsA, intA])
  · have hl := lookBad_c r hr hc
    rw [if_neg hc]
    generalize r.check = c at *
    obtain ⟨c1, c2, c3⟩ := c
    simp only at hl hc
    refine PureA.wk (res := .tuple [nilS, intA c3]) ?_ (Wk.tuple (WkL.cons (Wk.nil 1) (WkL.refl _)))
    refine pureA_codeB tabOk { l := 0, f := 18, mat := [62, 63] } mixed call_18 Try.func18 (by kernel_rfl) ?_
    conv => whnf
    repeat (any_goals (first | exact falseI | (refine brP_dec (fun _ => ?_) (fun _ => ?_) <;> first | (exfalso; omega) | conv => whnf) | (refine brP_ndec (fun _ => ?_) (fun _ => ?_) <;> first | (exfalso; omega) | conv => whnf) | ((first | refine And.intro (DrawOk.mk (by kernel_rfl)) ?_ | refine okI ?_ | refine brP_true (Nat.beq_refl _) ?_ | refine brP_intro (fun _ => ?_) (fun _ => ?_) | refine bndI ?_ | intro _) <;> conv => whnf)))
    refine ⟨[], ?_⟩
    conv => whnf
    refine ⟨_, _, hl, ?_⟩
    conv => whnf
    repeat (any_goals (first | exact falseI | (refine brP_dec (fun _ => ?_) (fun _ => ?_) <;> first | (exfalso; omega) | conv => whnf) | (refine brP_ndec (fun _ => ?_) (fun _ => ?_) <;> first | (exfalso; omega) | conv => whnf) | ((first | refine And.intro (DrawOk.mk (by kernel_rfl)) ?_ | refine okI ?_ | refine brP_true (Nat.beq_refl _) ?_ | refine brP_intro (fun _ => ?_) (fun _ => ?_) | refine bndI ?_ | intro _) <;> conv => whnf)))
    (refine ⟨⟨?_⟩, trivial⟩; rfl)
end Go.Proofs.Ytmggofcaeolaiaa
namespace Go.Proofs.Ytmggofcaeolaiaa
open Go.Am Go.Proofs Go
theorem firstFrom_zero {α : Type} (g : Nat → α → Int) : ∀ (l : List α) (i : Nat), (firstFrom g i l).2 = 0 → ∀ j x, l[j]? = some x → g (i + j) x = 0
  | [], i, _, j, x, h => by simp at h
  | y :: l, i, h0, j, x, h => by
    simp only [firstFrom] at h0
    split at h0
    · rename_i hy
      cases j with
      | zero => simp at h; subst h; exact hy
      | succ j =>
        have := firstFrom_zero g l (i + 1) h0 j x (by simpa using h)
        rw [show i + (j + 1) = i + 1 + j by omega]; exact this
    · rename_i hy; exact absurd h0 hy
theorem outside_false {l m n : Int} : outside l m n = false ↔ l ≤ n ∧ n ≤ m := by
  unfold outside
  rw [Bool.or_eq_false_iff, decide_eq_false_iff_not, decide_eq_false_iff_not, Int.not_lt, Int.not_lt]
structure Row.Valid (r : Row) : Prop where
  len : r.figs.length ≤ 5
  fig : ∀ j f, r.figs[j]? = some f → figErr (r.figs.take j) f = 0
  stp : ∀ j s, r.beside[j]? = some s → stpErr r.last (r.beside.take j) s = 0
  bench : outside (-1) r.last r.bench = false
theorem Row.valid_iff (r : Row) : r.check.2.2 = 0 → r.Valid := by
  intro h
  have hl := check_len h
  have h5 : ¬ (5 : Int) < r.figs.length := by omega
  simp only [Row.check, h5, if_false] at h
  split at h
  · rename_i h1; exact absurd h h1
  · rename_i h1
    split at h
    · rename_i h2; exact absurd h h2
    · rename_i h2
      split at h
      · simp at h
      · rename_i h3
        have h1 : r.figsErr.2 = 0 := by simpa using h1
        have h2 : r.stpsErr.2 = 0 := by simpa using h2
        refine ⟨hl, fun j f hf => ?_, fun j s hs => ?_, by simpa using h3⟩
        · have := firstFrom_zero _ _ 0 h1 j f hf
          simpa using this
        · have := firstFrom_zero _ _ 0 h2 j s hs
          simpa using this
theorem Row.Valid.bound {r : Row} (h : r.Valid) {s : Stp} (hs : s ∈ r.beside) : 0 ≤ s.a ∧ s.a < s.b ∧ s.b < r.figs.length := by
  obtain ⟨j, hj⟩ := List.mem_iff_getElem?.1 hs
  have := h.stp j s hj
  unfold stpErr at this
  split at this
  · simp at this
  · rename_i h1
    split at this
    · simp at this
    · rename_i h2
      rw [Bool.not_eq_true, Bool.or_eq_false_iff, outside_false, outside_false] at h1
      unfold Row.last at h1
      omega
theorem Row.Valid.benchB {r : Row} (h : r.Valid) : r.bench = -1 ∨ (0 ≤ r.bench ∧ r.bench < r.figs.length) := by
  have := h.bench
  rw [outside_false] at this
  unfold Row.last at this
  omega
structure Row.Good (r : Row) : Prop where
  len : r.figs.length ≤ 5
  bound : ∀ s ∈ r.beside, 0 ≤ s.a ∧ s.a < s.b ∧ s.b < r.figs.length
  benchB : r.bench = -1 ∨ (0 ≤ r.bench ∧ r.bench < r.figs.length)
  blen : r.beside.length ≤ 1048576
theorem Row.Valid.good {r : Row} (h : r.Valid) (hr : r.small) : r.Good := ⟨h.len, fun _ hs => h.bound hs, h.benchB, hr.2.1⟩
def Row.stepP (r : Row) (p : List Part) (s : Stp) : List Part × Int :=
  if s.a = s.b ∧ s.a = r.bench ∧ r.bench ≠ -1 then
    if (p.getD s.a.toNat zeroP).broken = true then (p.set s.a.toNat ⟨(p.getD s.a.toNat zeroP).kind, false⟩, 0) else (p, 8)
  else if r.beside.any (s == ·) = true then ((p.set s.a.toNat (p.getD s.b.toNat zeroP)).set s.b.toNat (p.getD s.a.toNat zeroP), 0) else (p, 4)
def stepA (x : List Part × Int) : AV := .tuple [partsA x.1, intA x.2]
theorem int5 {n : Int} (h0 : 0 ≤ n) (h : n < 5) : n = 0 ∨ n = 1 ∨ n = 2 ∨ n = 3 ∨ n = 4 := by omega
theorem step_c (r : Row) (hv : r.Good) (p p' : List Part) (hp : p.length = 5) (hp' : p'.length = 5) (s : Stp) :
    PureA Try.prog 64 [.cptr (rowX r p').cells, partsA p, stpA s] (stepA (r.stepP p s)) := by
  obtain ⟨p0, p1, p2, p3, p4, rfl⟩ := list5 hp
  obtain ⟨q0, q1, q2, q3, q4, rfl⟩ := list5 hp'
  have hc := contains_c r.beside s hv.blen
  have hb : r.beside.any (s == ·) = true → 0 ≤ s.a ∧ s.a < s.b ∧ s.b < 5 := by
    intro h
    obtain ⟨x, hx, he⟩ := List.any_eq_true.1 h
    have := hv.bound s (by simpa [beq_iff_eq.1 he] using hx)
    have := hv.len
    omega
  have hbe := hv.benchB
  have h5 := hv.len
  clear hv
  obtain ⟨figs, beside, bench⟩ := r
  obtain ⟨a, b⟩ := s
  simp only at *
  unfold Row.stepP
  simp only
  by_cases h1 : a = b ∧ a = bench ∧ bench ≠ -1
  · rw [if_pos h1]
    obtain ⟨rfl, rfl, h3⟩ := h1
    clear hb hc
    rcases int5 (n := a) (by omega) (by omega) with rfl | rfl | rfl | rfl | rfl
    all_goals
      refine pureA_codeB tabOk { l := 0, f := 64 } mixed call_64 Try.func64 (by kernel_rfl) ?_
      conv => whnf
      repeat (any_goals (first | exact falseI | (refine brP_dec (fun _ => ?_) (fun _ => ?_) <;> first | (exfalso; omega) | conv => whnf) | (refine brP_ndec (fun _ => ?_) (fun _ => ?_) <;> first | (exfalso; omega) | conv => whnf) | ((first | refine And.intro (DrawOk.mk (by kernel_rfl)) ?_ | refine okI ?_ | refine brP_true (Nat.beq_refl _) ?_ | refine brP_intro (fun _ => ?_) (fun _ => ?_) | refine bndI ?_ | intro _) <;> conv => whnf)))
    all_goals ((refine ⟨⟨?_⟩, trivial⟩; simp_all [oneOf, stepA, partsA, partsC, intA, boolA]))
  · rw [if_neg h1]
    by_cases h2 : beside.any (⟨a, b⟩ == ·) = true
    · rw [if_pos h2]
      rw [h2] at hc
      obtain ⟨k1, k2, k3⟩ := hb h2
      clear hb h1 hbe
      rcases int5 (n := a) (by omega) (by omega) with rfl | rfl | rfl | rfl | rfl <;> rcases int5 (n := b) (by omega) (by omega) with rfl | rfl | rfl | rfl | rfl
      all_goals first | (exfalso; omega) | skip
      all_goals
        refine pureA_codeB tabOk { l := 0, f := 64 } mixed call_64 Try.func64 (by kernel_rfl) ?_
        conv => whnf
        repeat (any_goals (first | exact falseI | (refine brP_dec (fun _ => ?_) (fun _ => ?_) <;> first | (exfalso; omega) | conv => whnf) | (refine brP_ndec (fun _ => ?_) (fun _ => ?_) <;> first | (exfalso; omega) | conv => whnf) | ((first | refine callP_a hc ?_ | refine And.intro (DrawOk.mk (by kernel_rfl)) ?_ | refine okI ?_ | refine brP_true (Nat.beq_refl _) ?_ | refine brP_intro (fun _ => ?_) (fun _ => ?_) | refine bndI ?_ | intro _) <;> conv => whnf)))
      all_goals ((refine ⟨⟨?_⟩, trivial⟩; simp [oneOf, stepA, partsA, partsC, intA, boolA]))
    · rw [if_neg h2]
      have h2 : beside.any (⟨a, b⟩ == ·) = false := Bool.eq_false_iff.2 h2
      rw [h2] at hc
      clear hb hbe
      refine pureA_codeB tabOk { l := 0, f := 64 } mixed call_64 Try.func64 (by kernel_rfl) ?_
      conv => whnf
      repeat (any_goals (first | exact falseI | (refine brP_dec (fun _ => ?_) (fun _ => ?_) <;> first | (exfalso; omega) | conv => whnf) | (refine brP_ndec (fun _ => ?_) (fun _ => ?_) <;> first | (exfalso; omega) | conv => whnf) | ((first | refine callP_a hc ?_ | refine And.intro (DrawOk.mk (by kernel_rfl)) ?_ | refine okI ?_ | refine brP_true (Nat.beq_refl _) ?_ | refine brP_intro (fun _ => ?_) (fun _ => ?_) | refine bndI ?_ | intro _) <;> conv => whnf)))
      all_goals first | (exfalso; exact h1 ⟨by assumption, by assumption, by assumption⟩) | ((refine ⟨⟨?_⟩, trivial⟩; simp_all [oneOf, stepA, partsA, partsC, intA, boolA])) | trace_state
end Go.Proofs.Ytmggofcaeolaiaa
namespace Go.Proofs.Ytmggofcaeolaiaa
open Go.Am Go.Proofs Go
def Fig.take (f g : Fig) : Fig := ⟨f.name, g.has, g.broken, f.wants⟩
def zeroF : Fig := ⟨ByteArray.empty, 0, false, 0⟩
def Row.one (r : Row) (s : Stp) : Row × Int :=
  if s.a = r.bench ∧ s.b = r.bench ∧ r.bench ≠ -1 then
    if (r.figs.getD s.a.toNat zeroF).broken = true then ({ r with figs := r.figs.set s.a.toNat { r.figs.getD s.a.toNat zeroF with broken := false } }, 0) else (r, 8)
  else if r.beside.any (s == ·) = true then
    ({ r with figs := (r.figs.set s.a.toNat ((r.figs.getD s.a.toNat zeroF).take (r.figs.getD s.b.toNat zeroF))).set s.b.toNat ((r.figs.getD s.b.toNat zeroF).take (r.figs.getD s.a.toNat zeroF)) }, 0)
  else (r, 4)
def rowErrA (x : Row × Int) : AV := .tuple [rowA x.1, intA x.2]
theorem pureEs_map {α : Type} {f : α → AV} (h : ∀ a, pureE (f a) = some (f a)) : ∀ l : List α, pureEs (l.map f) = some (l.map f)
  | [] => rfl
  | x :: xs => by simp only [List.map_cons, pureEs, h, pureEs_map h xs]
theorem pureE_fig (f : Fig) : pureE (figA f) = some (figA f) := rfl
theorem pureEs_figs (l : List Fig) (n : Nat) (h : n = l.length) : pureEs ((l.map figA).take n) = some (l.map figA) := by
  rw [List.take_of_length_le (by simp [h]), pureEs_map pureE_fig]
theorem set_figs (l : List Fig) (a : Int) (n : Nat) (x : AV) (f : Fig) (ha : a = n) (hx : x = figA f) : (l.map figA).set a.toNat x = (l.set n f).map figA := by
  subst ha hx
  simp [List.map_set]
theorem one_c (r : Row) (hv : r.Good) (s : Stp) : PureA Try.prog 80 [rowA r, stpA s] (rowErrA (r.one s)) := by
  have hc := has_c r.beside s hv.blen
  have hb : r.beside.any (s == ·) = true → 0 ≤ s.a ∧ s.a < s.b ∧ s.b < r.figs.length := by
    intro h
    obtain ⟨x, hx, he⟩ := List.any_eq_true.1 h
    exact hv.bound s (by simpa [beq_iff_eq.1 he] using hx)
  have hbe := hv.benchB
  have h5 := hv.len
  clear hv
  unfold Row.one
  by_cases h1 : s.a = r.bench ∧ s.b = r.bench ∧ r.bench ≠ -1
  · rw [if_pos h1]
    obtain ⟨h1, h2, h3⟩ := h1
    clear hb hc
    obtain ⟨n, hn⟩ : ∃ n : Nat, s.a = n := ⟨s.a.toNat, by omega⟩
    obtain ⟨f, hf, hd⟩ := drop_cons (l := r.figs) (i := n) (by omega)
    have hg : r.figs.getD s.a.toNat zeroF = f := by simp [List.getD, hf, hn]
    rw [hg, show s.a.toNat = n by omega]
    have hs := set_figs r.figs s.a n (.agg [strA f.name, intA f.has, boolA false, intA f.wants]) { f with broken := false } hn rfl
    have hp := pureEs_figs (r.figs.set n { f with broken := false }) (r.figs.map figA).length (by simp)
    refine pureA_codeB tabOk { l := 0, f := 80, ow := [12] } mixed call_80 Try.func80 (by kernel_rfl) ?_
    conv => whnf
    repeat (any_goals (first | exact falseI | (refine brP_dec (fun _ => ?_) (fun _ => ?_) <;> first | (exfalso; omega) | conv => whnf) | (refine brP_ndec (fun _ => ?_) (fun _ => ?_) <;> first | (exfalso; omega) | conv => whnf) | ((first | refine optP_map hf hn ?_ | refine forceL_to hs ?_ | refine optP_intro hp ?_ | refine And.intro (DrawOk.mk (by kernel_rfl)) ?_ | refine okI ?_ | refine brP_true (Nat.beq_refl _) ?_ | refine brP_intro (fun _ => ?_) (fun _ => ?_) | refine bndI ?_ | intro _) <;> conv => whnf)))
    · rename_i hb
      have hb : f.broken = false := by simpa using hb
      (refine ⟨⟨?_⟩, trivial⟩; simp [oneOf, rowErrA, hb, rowA, figsA, stpsA, intA])
    · rename_i hb
      have hb : f.broken = true := by simpa using hb
      (refine ⟨⟨?_⟩, trivial⟩; simp [oneOf, rowErrA, hb, rowA, figsA, stpsA, intA])
  · rw [if_neg h1]
    by_cases h2 : r.beside.any (s == ·) = true
    · rw [if_pos h2]
      rw [h2] at hc
      obtain ⟨k1, k2, k3⟩ := hb h2
      clear hb hbe
      obtain ⟨n, hn⟩ : ∃ n : Nat, s.a = n := ⟨s.a.toNat, by omega⟩
      obtain ⟨m, hm⟩ : ∃ m : Nat, s.b = m := ⟨s.b.toNat, by omega⟩
      obtain ⟨f, hf, _⟩ := drop_cons (l := r.figs) (i := n) (by omega)
      obtain ⟨g, hg, _⟩ := drop_cons (l := r.figs) (i := m) (by omega)
      have hf' : r.figs.getD s.a.toNat zeroF = f := by simp [List.getD, hf, hn]
      have hg' : r.figs.getD s.b.toNat zeroF = g := by simp [List.getD, hg, hm]
      rw [hf', hg', show s.a.toNat = n by omega, show s.b.toNat = m by omega]
      have hs := set_figs r.figs s.a n (.agg [strA f.name, intA g.has, boolA g.broken, intA f.wants]) (f.take g) hn rfl
      have hs2 := set_figs (r.figs.set n (f.take g)) s.b m (.agg [strA g.name, intA f.has, boolA f.broken, intA g.wants]) (g.take f) hm rfl
      have hp := pureEs_figs ((r.figs.set n (f.take g)).set m (g.take f)) (r.figs.map figA).length (by simp)
      have hg2 : (r.figs.set n (f.take g))[m]? = some g := by rw [List.getElem?_set_ne (by omega), hg]
      refine pureA_codeB tabOk { l := 0, f := 80, ow := [12] } mixed call_80 Try.func80 (by kernel_rfl) ?_
      conv => whnf
      repeat (any_goals (first | exact falseI | (refine brP_dec (fun _ => ?_) (fun _ => ?_) <;> first | (exfalso; omega) | conv => whnf) | (refine brP_ndec (fun _ => ?_) (fun _ => ?_) <;> first | (exfalso; omega) | conv => whnf) | ((first | refine callP_a hc ?_ | refine optP_map hf hn ?_ | refine optP_map hg hm ?_ | refine optP_map hg2 hm ?_ | refine forceL_to hs ?_ | refine forceL_to hs2 ?_ | refine optP_intro hp ?_ | refine And.intro (DrawOk.mk (by kernel_rfl)) ?_ | refine okI ?_ | refine brP_true (Nat.beq_refl _) ?_ | refine brP_intro (fun _ => ?_) (fun _ => ?_) | refine bndI ?_ | intro _) <;> conv => whnf)))
      all_goals (refine ⟨⟨?_⟩, trivial⟩; simp [oneOf, rowErrA, rowA, figsA, stpsA, intA])
    · rw [if_neg h2]
      have h2 : r.beside.any (s == ·) = false := Bool.eq_false_iff.2 h2
      rw [h2] at hc
      clear hb hbe
      refine pureA_codeB tabOk { l := 0, f := 80, ow := [12] } mixed call_80 Try.func80 (by kernel_rfl) ?_
      conv => whnf
      repeat (any_goals (first | exact falseI | (refine brP_dec (fun _ => ?_) (fun _ => ?_) <;> first | (exfalso; omega) | conv => whnf) | (refine brP_ndec (fun _ => ?_) (fun _ => ?_) <;> first | (exfalso; omega) | conv => whnf) | ((first | refine callP_a hc ?_ | refine And.intro (DrawOk.mk (by kernel_rfl)) ?_ | refine okI ?_ | refine brP_true (Nat.beq_refl _) ?_ | refine brP_intro (fun _ => ?_) (fun _ => ?_) | refine bndI ?_ | intro _) <;> conv => whnf)))
      all_goals first | (exfalso; exact h1 ⟨by assumption, by assumption, by assumption⟩) | ((refine ⟨⟨?_⟩, trivial⟩; simp [oneOf, rowErrA, rowA, figsA, stpsA, intA])) | trace_state
structure Row.Kept (r r' : Row) : Prop where
  len : r'.figs.length = r.figs.length
  beside : r'.beside = r.beside
  bench : r'.bench = r.bench
  names : ∀ (i : Nat) (f' : Fig), r'.figs[i]? = some f' → ∃ f : Fig, r.figs[i]? = some f ∧ f'.name = f.name ∧ f'.wants = f.wants
theorem Row.Kept.refl (r : Row) : r.Kept r := ⟨rfl, rfl, rfl, fun i f h => ⟨f, h, rfl, rfl⟩⟩
theorem Row.Kept.trans {a b c : Row} (h : a.Kept b) (k : b.Kept c) : a.Kept c := by
  refine ⟨k.len.trans h.len, k.beside.trans h.beside, k.bench.trans h.bench, fun i f hf => ?_⟩
  obtain ⟨g, hg, e1, e2⟩ := k.names i f hf
  obtain ⟨x, hx, e3, e4⟩ := h.names i g hg
  exact ⟨x, hx, e1.trans e3, e2.trans e4⟩
theorem Row.Kept.good {a b : Row} (h : a.Kept b) (k : a.Good) : b.Good :=
  ⟨h.len ▸ k.len, fun s hs => h.len ▸ k.bound s (h.beside ▸ hs), by rw [h.bench, h.len]; exact k.benchB, h.beside ▸ k.blen⟩
theorem set_names {l : List Fig} {n : Nat} {g : Fig} (h1 : ∀ f, l[n]? = some f → g.name = f.name ∧ g.wants = f.wants) : ∀ (i : Nat) (x : Fig), (l.set n g)[i]? = some x → ∃ y : Fig, l[i]? = some y ∧ x.name = y.name ∧ x.wants = y.wants := by
  intro i x hx
  rw [List.getElem?_set] at hx
  split at hx
  · rename_i e
    subst e
    split at hx
    · rename_i hl
      cases hx
      exact ⟨l[n], by simp [hl], h1 _ (by simp [hl])⟩
    · cases hx
  · exact ⟨x, hx, rfl, rfl⟩
theorem getD_of {l : List Fig} {n : Nat} {f : Fig} (h : l[n]? = some f) : l.getD n zeroF = f := by simp [List.getD, h]
theorem Row.one_kept (r : Row) (s : Stp) : r.Kept (r.one s).1 := by
  unfold Row.one
  split
  · split
    · exact ⟨by simp, rfl, rfl, set_names fun f h => by rw [getD_of h]; exact ⟨rfl, rfl⟩⟩
    · exact .refl r
  · split
    · refine ⟨by simp, rfl, rfl, fun i x hx => ?_⟩
      have h2 : ∀ f : Fig, (r.figs.set s.a.toNat ((r.figs.getD s.a.toNat zeroF).take (r.figs.getD s.b.toNat zeroF)))[s.b.toNat]? = some f →
          ((r.figs.getD s.b.toNat zeroF).take (r.figs.getD s.a.toNat zeroF)).name = f.name ∧ ((r.figs.getD s.b.toNat zeroF).take (r.figs.getD s.a.toNat zeroF)).wants = f.wants := by
        intro f h
        obtain ⟨z, hz, e3, e4⟩ := set_names (l := r.figs) (fun f h => by rw [getD_of h]; exact ⟨rfl, rfl⟩) _ f h
        rw [getD_of hz, e3, e4]
        exact ⟨rfl, rfl⟩
      obtain ⟨y, hy, e1, e2⟩ := set_names h2 i x hx
      obtain ⟨z, hz, e3, e4⟩ := set_names (fun f h => by rw [getD_of h]; exact ⟨rfl, rfl⟩) i y hy
      exact ⟨z, hz, e1.trans e3, e2.trans e4⟩
    · exact .refl r
def Row.after : Row → List Stp → Row × Int
  | r, [] => (r, 0)
  | r, s :: l => if (r.one s).2 = 0 then (r.one s).1.after l else (⟨[], [], 0⟩, (r.one s).2)
theorem Row.after_err : ∀ (r : Row) (l : List Stp), (r.after l).2 ≠ 0 → (r.after l).1 = ⟨[], [], 0⟩
  | r, [], h => absurd rfl h
  | r, s :: l, h => by
    unfold Row.after at h ⊢
    split
    · rename_i h0
      rw [if_pos h0] at h
      exact Row.after_err _ l h
    · rfl
theorem after_c (r : Row) (hv : r.Good) (l : List Stp) (hl : l.length ≤ 1048576) : PureA Try.prog 43 [rowA r, stpsA l] (rowErrA (r.after l)) := by
  have hk := Row.Kept.refl r
  by_cases hz : (r.after l).2 = 0
  · refine pureA_codeB tabOk { l := 0, f := 43 } mixed call_43 Try.func43 (by kernel_rfl) ?_
    conv => whnf
    refine loopK tabOk { l := 0, f := 43 } mixed (fun a : Nat × Row => [(6, intA a.1)]) (fun a => [(⟨0, 43, 2⟩, some (1, some (3, [rowA a.2])))]) (fun _ => []) (fun a => a.1 ≤ l.length ∧ r.Kept a.2 ∧ r.after l = a.2.after (l.drop a.1)) (fun a => l.length - a.1) (0, r) (by kernel_rfl)
      ⟨Nat.zero_le _, .refl r, rfl⟩ ?_
    conv => whnf
    refine ⟨⟨slotsLe_cons rfl trivial, keysLe_cons rfl trivial, trivial⟩, ?_⟩
    intro ⟨i, x⟩ ⟨hi, hk, H⟩
    simp only at hi hk H
    conv => whnf
    refine brP_dec (fun h1 => ?_) (fun h1 => ?_)
    · simp only [List.length_map] at h1
      obtain ⟨s, hs, hd⟩ := drop_cons (l := l) (i := i) (by omega)
      rw [hd] at H
      have ho := one_c x (hk.good hv) s
      have hk' := x.one_kept s
      simp only [Row.after] at H
      rw [H] at hz
      by_cases hy : (x.one s).2 = 0
      · rw [if_pos hy] at H hz
        unfold rowErrA at ho
        rw [hy] at ho
        conv => whnf
        repeat (any_goals (first | exact falseI | (refine brP_dec (fun _ => ?_) (fun _ => ?_) <;> first | (exfalso; omega) | conv => whnf) | (refine brP_ndec (fun _ => ?_) (fun _ => ?_) <;> first | (exfalso; omega) | conv => whnf) | ((first | refine optP_map hs rfl ?_ | refine callP_a ho ?_ | refine And.intro (DrawOk.mk (by kernel_rfl)) ?_ | refine okI ?_ | refine brP_true (Nat.beq_refl _) ?_ | refine brP_intro (fun _ => ?_) (fun _ => ?_) | refine bndI ?_ | intro _) <;> conv => whnf)))
        (refine ⟨(i + 1, (x.one s).1), ⟨by simp only; omega, hk.trans hk', H⟩, (by simp only; omega), ?_⟩; (conv => whnf); refine ⟨?_, ?_, ?_⟩ <;> repeat (first | exact trivial | refine slotsLe_cons rfl ?_ | refine keysLe_none ?_ | refine keysLe_cons rfl ?_))
      · rw [if_neg hy] at hz
        exact absurd hz hy
    · conv => whnf
      simp only [List.length_map] at h1
      have : i = l.length := by omega
      subst this
      simp only [List.drop_length, Row.after] at H
      repeat (any_goals (first | exact falseI | (refine brP_dec (fun _ => ?_) (fun _ => ?_) <;> first | (exfalso; omega) | conv => whnf) | (refine brP_ndec (fun _ => ?_) (fun _ => ?_) <;> first | (exfalso; omega) | conv => whnf) | ((first | refine And.intro (DrawOk.mk (by kernel_rfl)) ?_ | refine okI ?_ | refine brP_true (Nat.beq_refl _) ?_ | refine brP_intro (fun _ => ?_) (fun _ => ?_) | refine bndI ?_ | intro _) <;> conv => whnf)))
      (refine ⟨⟨?_⟩, trivial⟩; rw [H]; rfl)
  · have hres : (r.after l).1 = ⟨[], [], 0⟩ := Row.after_err r l hz
    unfold rowErrA
    rw [hres]
    refine PureA.wk (res := .tuple [.agg [nilS, nilS, intA 0], intA (r.after l).2]) ?_ (Wk.tuple (WkL.cons (Wk.agg (WkL.cons (Wk.nil 4) (WkL.cons (Wk.nil 2) (WkL.refl _)))) (WkL.refl _)))
    refine pureA_codeB tabOk { l := 0, f := 43 } mixed call_43 Try.func43 (by kernel_rfl) ?_
    conv => whnf
    refine loopK tabOk { l := 0, f := 43 } mixed (fun a : Nat × Row => [(6, intA a.1)]) (fun a => [(⟨0, 43, 2⟩, some (1, some (3, [rowA a.2])))]) (fun _ => []) (fun a => a.1 ≤ l.length ∧ r.Kept a.2 ∧ r.after l = a.2.after (l.drop a.1)) (fun a => l.length - a.1) (0, r) (by kernel_rfl)
      ⟨Nat.zero_le _, .refl r, rfl⟩ ?_
    conv => whnf
    refine ⟨⟨slotsLe_cons rfl trivial, keysLe_cons rfl trivial, trivial⟩, ?_⟩
    intro ⟨i, x⟩ ⟨hi, hk, H⟩
    simp only at hi hk H
    conv => whnf
    refine brP_dec (fun h1 => ?_) (fun h1 => ?_)
    · simp only [List.length_map] at h1
      obtain ⟨s, hs, hd⟩ := drop_cons (l := l) (i := i) (by omega)
      rw [hd] at H
      have ho := one_c x (hk.good hv) s
      have hk' := x.one_kept s
      simp only [Row.after] at H
      unfold rowErrA at ho
      by_cases hy : (x.one s).2 = 0
      · rw [if_pos hy] at H
        rw [hy] at ho
        conv => whnf
        repeat (any_goals (first | exact falseI | (refine brP_dec (fun _ => ?_) (fun _ => ?_) <;> first | (exfalso; omega) | conv => whnf) | (refine brP_ndec (fun _ => ?_) (fun _ => ?_) <;> first | (exfalso; omega) | conv => whnf) | ((first | refine optP_map hs rfl ?_ | refine callP_a ho ?_ | refine And.intro (DrawOk.mk (by kernel_rfl)) ?_ | refine okI ?_ | refine brP_true (Nat.beq_refl _) ?_ | refine brP_intro (fun _ => ?_) (fun _ => ?_) | refine bndI ?_ | intro _) <;> conv => whnf)))
        (refine ⟨(i + 1, (x.one s).1), ⟨by simp only; omega, hk.trans hk', H⟩, (by simp only; omega), ?_⟩; (conv => whnf); refine ⟨?_, ?_, ?_⟩ <;> repeat (first | exact trivial | refine slotsLe_cons rfl ?_ | refine keysLe_none ?_ | refine keysLe_cons rfl ?_))
      · rw [if_neg hy] at H
        rw [H]
        conv => whnf
        repeat (any_goals (first | exact falseI | (refine brP_dec (fun _ => ?_) (fun _ => ?_) <;> first | (exfalso; omega) | conv => whnf) | (refine brP_ndec (fun _ => ?_) (fun _ => ?_) <;> first | (exfalso; omega) | conv => whnf) | ((first | refine optP_map hs rfl ?_ | refine callP_a ho ?_ | refine And.intro (DrawOk.mk (by kernel_rfl)) ?_ | refine okI ?_ | refine brP_true (Nat.beq_refl _) ?_ | refine brP_intro (fun _ => ?_) (fun _ => ?_) | refine bndI ?_ | intro _) <;> conv => whnf)))
        (refine ⟨⟨?_⟩, trivial⟩; rfl)
    · exfalso
      simp only [List.length_map] at h1
      have : i = l.length := by omega
      subst this
      simp only [List.drop_length, Row.after] at H
      rw [H] at hz
      exact hz rfl
end Go.Proofs.Ytmggofcaeolaiaa
namespace Go.Proofs.Ytmggofcaeolaiaa
open Go.Am Go.Proofs Go
def eqAll {α : Type} (p : α → α → Bool) : List α → List α → Bool
  | [], [] => true
  | x :: xs, y :: ys => p x y && eqAll p xs ys
  | _, _ => false
theorem eqAll_len {α : Type} (p : α → α → Bool) : ∀ a b : List α, a.length ≠ b.length → eqAll p a b = false
  | [], [], h => absurd rfl h
  | [], y :: ys, _ => rfl
  | x :: xs, [], _ => rfl
  | x :: xs, y :: ys, h => by simp only [eqAll, eqAll_len p xs ys (by simpa using h), Bool.and_false]
theorem eqAll_dec {α : Type} (p : α → α → Bool) (a b : List α) : eqAll p a b = (decide ((a.length : Int) = b.length) && eqAll p a b) := by
  by_cases h : a.length = b.length
  · simp [h]
  · rw [eqAll_len _ a b h, Bool.and_false]
theorem ints_c (a b : List Int) (ha : a.length ≤ 1048576) (hb : b.length ≤ 1048576) : PureA Try.prog 20 [intsA a, intsA b] (boolA (eqAll (fun x y : Int => decide (x = y)) a b)) := by
  have hlen : decide ((a.length : Int) = b.length) = true → a.length = b.length := by simp; omega
  obtain ⟨R, hRe⟩ : ∃ R, R = eqAll (fun x y : Int => decide (x = y)) a b := ⟨_, rfl⟩
  rw [← hRe]
  have hR : R = (decide ((a.length : Int) = b.length) && eqAll (fun x y : Int => decide (x = y)) a b) := by rw [hRe]; exact eqAll_dec (fun x y : Int => decide (x = y)) a b
  clear hRe
  refine pureA_codeB tabOk { l := 0, f := 20 } mixed call_20 Try.func20 (by kernel_rfl) ?_
  conv => whnf
  refine loopK tabOk { l := 0, f := 20 } mixed (fun x : Nat × Bool => [(6, intA x.1), (5, boolA x.2)]) (fun _ => []) (fun _ => []) (fun x => x.1 ≤ a.length ∧ (x.2 = true → a.length = b.length) ∧ R = (x.2 && eqAll (fun x y : Int => decide (x = y)) (a.drop x.1) (b.drop x.1))) (fun x => a.length - x.1) (0, decide ((a.length : Int) = b.length)) (by kernel_rfl)
    ⟨Nat.zero_le _, hlen, hR⟩ ?_
  conv => whnf
  refine ⟨⟨slotsLe_cons rfl (slotsLe_cons (by conv => lhs; whnf
                                              simp [boolA]) trivial), trivial, trivial⟩, ?_⟩
  intro ⟨i, same⟩ ⟨hi, hs, H⟩
  simp only at hi hs H
  cases same
  · conv => whnf
    repeat (any_goals (first | exact falseI | (refine brP_dec (fun _ => ?_) (fun _ => ?_) <;> first | (exfalso; omega) | conv => whnf) | (refine brP_ndec (fun _ => ?_) (fun _ => ?_) <;> first | (exfalso; omega) | conv => whnf) | ((first | refine And.intro (DrawOk.mk (by kernel_rfl)) ?_ | refine okI ?_ | refine brP_true (Nat.beq_refl _) ?_ | refine brP_intro (fun _ => ?_) (fun _ => ?_) | refine bndI ?_ | intro _) <;> conv => whnf)))
    (refine ⟨⟨?_⟩, trivial⟩; rw [H]; rfl)
  · have hs := hs rfl
    rw [Bool.true_and] at H
    conv => whnf
    refine brP_dec (fun h1 => ?_) (fun h1 => ?_)
    · simp only [List.length_map] at h1
      obtain ⟨x, hx, hd⟩ := drop_cons (l := a) (i := i) (by omega)
      obtain ⟨y, hy, he⟩ := drop_cons (l := b) (i := i) (by omega)
      rw [hd, he] at H
      simp only [eqAll] at H
      skip
      conv => whnf
      repeat (any_goals (first | exact falseI | (refine brP_dec (fun _ => ?_) (fun _ => ?_) <;> first | (exfalso; omega) | conv => whnf) | (refine brP_ndec (fun _ => ?_) (fun _ => ?_) <;> first | (exfalso; omega) | conv => whnf) | ((first | refine optP_map hx rfl ?_ | refine optP_map hy rfl ?_  | refine And.intro (DrawOk.mk (by kernel_rfl)) ?_ | refine okI ?_ | refine brP_true (Nat.beq_refl _) ?_ | refine brP_intro (fun _ => ?_) (fun _ => ?_) | refine bndI ?_ | intro _) <;> conv => whnf)))
      (refine ⟨(i + 1, (fun x y : Int => decide (x = y)) x y), ⟨by simp only; omega, fun _ => hs, H⟩, (by simp only; omega), ?_⟩; (conv => whnf); refine ⟨?_, ?_, ?_⟩ <;> repeat (first | exact trivial | refine slotsLe_cons rfl ?_ | refine keysLe_none ?_ | refine keysLe_cons rfl ?_ | refine slotsLe_cons (by rfl) ?_ | refine keysLe_cons (by rfl) ?_))
    · conv => whnf
      simp only [List.length_map] at h1
      have : i = a.length := by omega
      subst this
      rw [hs, List.drop_length, ← hs, List.drop_length] at H
      (refine ⟨⟨?_⟩, trivial⟩; rw [H]; rfl)
theorem equal_c (a b : List Stp) (ha : a.length ≤ 1048576) (hb : b.length ≤ 1048576) : PureA Try.prog 27 [stpsA a, stpsA b] (boolA (eqAll (fun x y : Stp => x == y) a b)) := by
  have hlen : decide ((a.length : Int) = b.length) = true → a.length = b.length := by simp; omega
  obtain ⟨R, hRe⟩ : ∃ R, R = eqAll (fun x y : Stp => x == y) a b := ⟨_, rfl⟩
  rw [← hRe]
  have hR : R = (decide ((a.length : Int) = b.length) && eqAll (fun x y : Stp => x == y) a b) := by rw [hRe]; exact eqAll_dec (fun x y : Stp => x == y) a b
  clear hRe
  refine pureA_codeB tabOk { l := 0, f := 27 } mixed call_27 Try.func27 (by kernel_rfl) ?_
  conv => whnf
  refine loopK tabOk { l := 0, f := 27 } mixed (fun x : Nat × Bool => [(6, intA x.1), (5, boolA x.2)]) (fun _ => []) (fun _ => []) (fun x => x.1 ≤ a.length ∧ (x.2 = true → a.length = b.length) ∧ R = (x.2 && eqAll (fun x y : Stp => x == y) (a.drop x.1) (b.drop x.1))) (fun x => a.length - x.1) (0, decide ((a.length : Int) = b.length)) (by kernel_rfl)
    ⟨Nat.zero_le _, hlen, hR⟩ ?_
  conv => whnf
  refine ⟨⟨slotsLe_cons rfl (slotsLe_cons (by conv => lhs; whnf
                                              simp [boolA]) trivial), trivial, trivial⟩, ?_⟩
  intro ⟨i, same⟩ ⟨hi, hs, H⟩
  simp only at hi hs H
  cases same
  · conv => whnf
    repeat (any_goals (first | exact falseI | (refine brP_dec (fun _ => ?_) (fun _ => ?_) <;> first | (exfalso; omega) | conv => whnf) | (refine brP_ndec (fun _ => ?_) (fun _ => ?_) <;> first | (exfalso; omega) | conv => whnf) | ((first | refine And.intro (DrawOk.mk (by kernel_rfl)) ?_ | refine okI ?_ | refine brP_true (Nat.beq_refl _) ?_ | refine brP_intro (fun _ => ?_) (fun _ => ?_) | refine bndI ?_ | intro _) <;> conv => whnf)))
    (refine ⟨⟨?_⟩, trivial⟩; rw [H]; rfl)
  · have hs := hs rfl
    rw [Bool.true_and] at H
    conv => whnf
    refine brP_dec (fun h1 => ?_) (fun h1 => ?_)
    · simp only [List.length_map] at h1
      obtain ⟨x, hx, hd⟩ := drop_cons (l := a) (i := i) (by omega)
      obtain ⟨y, hy, he⟩ := drop_cons (l := b) (i := i) (by omega)
      rw [hd, he] at H
      simp only [eqAll] at H
      skip
      conv => whnf
      repeat (any_goals (first | exact falseI | (refine brP_dec (fun _ => ?_) (fun _ => ?_) <;> first | (exfalso; omega) | conv => whnf) | (refine brP_ndec (fun _ => ?_) (fun _ => ?_) <;> first | (exfalso; omega) | conv => whnf) | ((first | refine optP_map hx rfl ?_ | refine optP_map hy rfl ?_  | refine And.intro (DrawOk.mk (by kernel_rfl)) ?_ | refine okI ?_ | refine brP_true (Nat.beq_refl _) ?_ | refine brP_intro (fun _ => ?_) (fun _ => ?_) | refine bndI ?_ | intro _) <;> conv => whnf)))
      (refine ⟨(i + 1, (fun x y : Stp => x == y) x y), ⟨by simp only; omega, fun _ => hs, H⟩, (by simp only; omega), ?_⟩; (conv => whnf); refine ⟨?_, ?_, ?_⟩ <;> repeat (first | exact trivial | refine slotsLe_cons rfl ?_ | refine keysLe_none ?_ | refine keysLe_cons rfl ?_ | refine slotsLe_cons (by (show _ = some (boolA (x == y)); rw [← stp_eqL]; rfl)) ?_ | refine keysLe_cons (by (show _ = some (boolA (x == y)); rw [← stp_eqL]; rfl)) ?_))
    · conv => whnf
      simp only [List.length_map] at h1
      have : i = a.length := by omega
      subst this
      rw [hs, List.drop_length, ← hs, List.drop_length] at H
      (refine ⟨⟨?_⟩, trivial⟩; rw [H]; rfl)
def intssA (l : List (List Int)) : AV := .slice 1 (l.map intsA) .no
theorem lists_c (a b : List (List Int)) (ha : a.length ≤ 1048576) (hb : b.length ≤ 1048576)(hn : ∀ x ∈ a, x.length ≤ 1048576) (hm : ∀ x ∈ b, x.length ≤ 1048576) : PureA Try.prog 36 [intssA a, intssA b] (boolA (eqAll (eqAll (fun x y : Int => decide (x = y))) a b)) := by
  have hlen : decide ((a.length : Int) = b.length) = true → a.length = b.length := by simp; omega
  obtain ⟨R, hRe⟩ : ∃ R, R = eqAll (eqAll (fun x y : Int => decide (x = y))) a b := ⟨_, rfl⟩
  rw [← hRe]
  have hR : R = (decide ((a.length : Int) = b.length) && eqAll (eqAll (fun x y : Int => decide (x = y))) a b) := by rw [hRe]; exact eqAll_dec (eqAll (fun x y : Int => decide (x = y))) a b
  clear hRe
  refine pureA_codeB tabOk { l := 0, f := 36 } mixed call_36 Try.func36 (by kernel_rfl) ?_
  conv => whnf
  refine loopK tabOk { l := 0, f := 36 } mixed (fun x : Nat × Bool => [(6, intA x.1), (5, boolA x.2)]) (fun _ => []) (fun _ => []) (fun x => x.1 ≤ a.length ∧ (x.2 = true → a.length = b.length) ∧ R = (x.2 && eqAll (eqAll (fun x y : Int => decide (x = y))) (a.drop x.1) (b.drop x.1))) (fun x => a.length - x.1) (0, decide ((a.length : Int) = b.length)) (by kernel_rfl)
    ⟨Nat.zero_le _, hlen, hR⟩ ?_
  conv => whnf
  refine ⟨⟨slotsLe_cons rfl (slotsLe_cons (by conv => lhs; whnf
                                              simp [boolA]) trivial), trivial, trivial⟩, ?_⟩
  intro ⟨i, same⟩ ⟨hi, hs, H⟩
  simp only at hi hs H
  cases same
  · conv => whnf
    repeat (any_goals (first | exact falseI | (refine brP_dec (fun _ => ?_) (fun _ => ?_) <;> first | (exfalso; omega) | conv => whnf) | (refine brP_ndec (fun _ => ?_) (fun _ => ?_) <;> first | (exfalso; omega) | conv => whnf) | ((first | refine And.intro (DrawOk.mk (by kernel_rfl)) ?_ | refine okI ?_ | refine brP_true (Nat.beq_refl _) ?_ | refine brP_intro (fun _ => ?_) (fun _ => ?_) | refine bndI ?_ | intro _) <;> conv => whnf)))
    (refine ⟨⟨?_⟩, trivial⟩; rw [H]; rfl)
  · have hs := hs rfl
    rw [Bool.true_and] at H
    conv => whnf
    refine brP_dec (fun h1 => ?_) (fun h1 => ?_)
    · simp only [List.length_map] at h1
      obtain ⟨x, hx, hd⟩ := drop_cons (l := a) (i := i) (by omega)
      obtain ⟨y, hy, he⟩ := drop_cons (l := b) (i := i) (by omega)
      rw [hd, he] at H
      simp only [eqAll] at H
      have hc := ints_c x y (hn x (List.mem_of_getElem? hx)) (hm y (List.mem_of_getElem? hy))
      conv => whnf
      repeat (any_goals (first | exact falseI | (refine brP_dec (fun _ => ?_) (fun _ => ?_) <;> first | (exfalso; omega) | conv => whnf) | (refine brP_ndec (fun _ => ?_) (fun _ => ?_) <;> first | (exfalso; omega) | conv => whnf) | ((first | refine optP_map hx rfl ?_ | refine optP_map hy rfl ?_ | refine callP_a hc ?_ | refine And.intro (DrawOk.mk (by kernel_rfl)) ?_ | refine okI ?_ | refine brP_true (Nat.beq_refl _) ?_ | refine brP_intro (fun _ => ?_) (fun _ => ?_) | refine bndI ?_ | intro _) <;> conv => whnf)))
      (refine ⟨(i + 1, (eqAll (fun x y : Int => decide (x = y))) x y), ⟨by simp only; omega, fun _ => hs, H⟩, (by simp only; omega), ?_⟩; (conv => whnf); refine ⟨?_, ?_, ?_⟩ <;> repeat (first | exact trivial | refine slotsLe_cons rfl ?_ | refine keysLe_none ?_ | refine keysLe_cons rfl ?_ | refine slotsLe_cons (by rfl) ?_ | refine keysLe_cons (by rfl) ?_))
    · conv => whnf
      simp only [List.length_map] at h1
      have : i = a.length := by omega
      subst this
      rw [hs, List.drop_length, ← hs, List.drop_length] at H
      (refine ⟨⟨?_⟩, trivial⟩; rw [H]; rfl)
def figEq (x y : Fig) : Bool := eqL [.string x.name, .int .i64 x.has, .bool x.broken, .int .i64 x.wants] [.string y.name, .int .i64 y.has, .bool y.broken, .int .i64 y.wants]
def Row.same (a b : Row) : Bool := ((decide ((a.figs.length : Int) = b.figs.length) && decide (a.bench = b.bench)) && eqAll (fun x y : Stp => x == y) a.beside b.beside) && eqAll figEq a.figs b.figs
end Go.Proofs.Ytmggofcaeolaiaa
namespace Go.Proofs.Ytmggofcaeolaiaa
open Go.Am Go.Proofs Go
def lookFrom : Int → List Fig → Int
  | n, [] => n
  | n, f :: l => lookFrom (12 * n + 2 * f.has + if f.broken = true then 1 else 0) l
def Row.look (r : Row) : Int := lookFrom 0 r.figs
end Go.Proofs.Ytmggofcaeolaiaa
namespace Go.Proofs.Ytmggofcaeolaiaa
open Go.Am Go.Proofs Go
theorem has67_c (r : Row) (hl : r.figs.length ≤ 1048576) : PureA Try.prog 67 [rowA r] (.tuple [intsA (r.figs.map (·.has)), boolA (r.figs.all (fun f => !f.broken))]) := by
  obtain ⟨R, hR⟩ : ∃ R, R = r.figs.all (fun f => !f.broken) := ⟨_, rfl⟩
  rw [← hR]
  refine pureA_codeB tabOk { l := 0, f := 67 } mixed call_67 Try.func67 (by kernel_rfl) ?_
  conv => whnf
  refine loopTok 4 1 ⟨0, 67, 22⟩ ?_
  conv => whnf
  refine loopK tabOk { l := 0, f := 67 } mixed (fun a : Nat × Bool => [(6, intA a.1), (5, boolA a.2), (4, .slice 1 ((r.figs.take a.1).map (fun f => intA f.has)) (.own ⟨0, 67, 22⟩ 1))]) (fun _ => []) (fun a => [(⟨0, 67, 22⟩, some (1, a.1))]) (fun a => a.1 ≤ r.figs.length ∧ R = (a.2 && (r.figs.drop a.1).all (fun f => !f.broken))) (fun a => r.figs.length - a.1) (0, true) (by kernel_rfl)
    ⟨Nat.zero_le _, by rw [hR]; rfl⟩ ?_
  conv => whnf
  refine ⟨⟨slotsLe_cons rfl (slotsLe_cons rfl (slotsLe_cons rfl trivial)), trivial, keysLe_cons rfl trivial⟩, ?_⟩
  intro ⟨i, w⟩ ⟨hi, H⟩
  simp only at hi H
  conv => whnf
  refine brP_dec (fun h1 => ?_) (fun h1 => ?_)
  · simp only [List.length_map] at h1
    obtain ⟨x, hx, hd⟩ := drop_cons (l := r.figs) (i := i) (by omega)
    rw [hd, List.all_cons] at H
    have ht : r.figs.take (i + 1) = r.figs.take i ++ [x] := by rw [List.take_add_one, hx]; rfl
    cases w
    · conv => whnf
      repeat (any_goals (first | exact falseI | (refine brP_dec (fun _ => ?_) (fun _ => ?_) <;> first | (exfalso; omega) | conv => whnf) | (refine brP_ndec (fun _ => ?_) (fun _ => ?_) <;> first | (exfalso; omega) | conv => whnf) | ((first | refine optP_map hx rfl ?_ | refine And.intro (DrawOk.mk (by kernel_rfl)) ?_ | refine okI ?_ | refine brP_true (Nat.beq_refl _) ?_ | refine brP_intro (fun _ => ?_) (fun _ => ?_) | refine bndI ?_ | intro _) <;> conv => whnf)))
      (refine ⟨(i + 1, false), ⟨by simp only; omega, by simpa using H⟩, (by simp only; omega), ?_⟩; (conv => whnf); refine ⟨?_, ?_, ?_⟩ <;> repeat (first | exact trivial | refine slotsLe_cons rfl ?_ | refine keysLe_none ?_ | refine keysLe_cons rfl ?_ | refine slotsLe_cons (by first | (simp only [ht, List.map_append]; rfl) | ((conv => lhs; whnf); simp; omega)) ?_ | refine keysLe_cons (by first | (simp only [ht, List.map_append]; rfl) | ((conv => lhs; whnf); simp; omega)) ?_))
    · rw [Bool.true_and] at H
      conv => whnf
      repeat (any_goals (first | exact falseI | (refine brP_dec (fun _ => ?_) (fun _ => ?_) <;> first | (exfalso; omega) | conv => whnf) | (refine brP_ndec (fun _ => ?_) (fun _ => ?_) <;> first | (exfalso; omega) | conv => whnf) | ((first | refine optP_map hx rfl ?_ | refine And.intro (DrawOk.mk (by kernel_rfl)) ?_ | refine okI ?_ | refine brP_true (Nat.beq_refl _) ?_ | refine brP_intro (fun _ => ?_) (fun _ => ?_) | refine bndI ?_ | intro _) <;> conv => whnf)))
      (refine ⟨(i + 1, !x.broken), ⟨by simp only; omega, H⟩, (by simp only; omega), ?_⟩; (conv => whnf); refine ⟨?_, ?_, ?_⟩ <;> repeat (first | exact trivial | refine slotsLe_cons rfl ?_ | refine keysLe_none ?_ | refine keysLe_cons rfl ?_ | refine slotsLe_cons (by first | (simp only [ht, List.map_append]; rfl) | ((conv => lhs; whnf); simp; omega)) ?_ | refine keysLe_cons (by first | (simp only [ht, List.map_append]; rfl) | ((conv => lhs; whnf); simp; omega)) ?_))
  · conv => whnf
    simp only [List.length_map] at h1
    have : i = r.figs.length := by omega
    subst this
    rw [List.drop_length, List.all_nil, Bool.and_true] at H
    (refine ⟨⟨?_⟩, trivial⟩; rw [H, List.take_length]; simp [oneOf, intsA, boolA, List.map_map, Function.comp_def])
def flat (l : List Stp) : List Int := l.flatMap (fun s => [s.a, s.b])
theorem flat_len (l : List Stp) : (flat l).length = 2 * l.length := by
  induction l with
  | nil => rfl
  | cons x l ih => simp only [flat, List.flatMap_cons, List.length_append] at *; simp only [List.length_cons, List.length_nil]; omega
end Go.Proofs.Ytmggofcaeolaiaa
namespace Go.Proofs.Ytmggofcaeolaiaa
open Go.Am Go.Proofs Go
def Row.isStep (r : Row) (a b : Nat) : Bool := r.beside.any ((⟨a, b⟩ : Stp) == ·) || (decide ((a : Int) = b) && decide ((a : Int) = r.bench))
def Row.stepsIn (r : Row) (a : Nat) : Nat → Nat → List Stp
  | _, 0 => []
  | b, k + 1 => if r.isStep a b = true then ⟨a, b⟩ :: r.stepsIn a (b + 1) k else r.stepsIn a (b + 1) k
def Row.stepsFrom (r : Row) : Nat → Nat → List Stp
  | _, 0 => []
  | a, k + 1 => r.stepsIn a a (r.figs.length - a) ++ r.stepsFrom (a + 1) k
def Row.steps (r : Row) : List Stp := r.stepsFrom 0 r.figs.length
end Go.Proofs.Ytmggofcaeolaiaa
namespace Go.Proofs.Ytmggofcaeolaiaa
open Go.Am Go.Proofs Go
end Go.Proofs.Ytmggofcaeolaiaa
