/-
  What the program's tables say of the types and functions that this claim's walks meet; each fact is closed and is reckoned by the kernel.
  Conditions: none.
-/
import Derived.Test.YtikeobneipjfnaaOps2
import Derived.Test.YtikeobneipjfnaaRows
namespace Go.Proofs.Ytikeobneipjfnaa
theorem ty_3 : TyF Try.prog 3 (.int .i64 0) 1 8 false := ⟨by kernel_rfl, by kernel_rfl⟩
theorem ty_4 : TyF Try.prog 4 (.bool false) 1 1 false := ⟨by kernel_rfl, by kernel_rfl⟩
theorem ty_5 : TyF Try.prog 5 (.int .u8 0) 1 1 false := ⟨by kernel_rfl, by kernel_rfl⟩
theorem ty_9 : TyF Try.prog 9 (.string .empty) 1 16 false := ⟨by kernel_rfl, by kernel_rfl⟩
theorem ty_22 : TyF Try.prog 22 (.agg #[.int .i64 0, .int .i64 0, .int .i64 0]) 3 24 true := ⟨by kernel_rfl, by kernel_rfl⟩
theorem fd_22_0 : fieldF Try.prog 22 0 = some (0, 3) := by kernel_rfl
theorem fd_22_1 : fieldF Try.prog 22 1 = some (1, 3) := by kernel_rfl
theorem fd_22_2 : fieldF Try.prog 22 2 = some (2, 3) := by kernel_rfl
theorem ty_23 : TyF Try.prog 23 (.agg #[.int .i64 0, .int .i64 0, .int .i64 0]) 3 24 true := ⟨by kernel_rfl, by kernel_rfl⟩
theorem fd_23_0 : fieldF Try.prog 23 0 = some (0, 3) := by kernel_rfl
theorem fd_23_1 : fieldF Try.prog 23 1 = some (1, 3) := by kernel_rfl
theorem fd_23_2 : fieldF Try.prog 23 2 = some (2, 3) := by kernel_rfl
theorem ty_24 : TyF Try.prog 24 (.slice none 0 0) 1 24 false := ⟨by kernel_rfl, by kernel_rfl⟩
theorem ty_25 : TyF Try.prog 25 (.agg #[.slice none 0 0, .slice none 0 0, .slice none 0 0]) 3 72 true := ⟨by kernel_rfl, by kernel_rfl⟩
theorem fd_25_0 : fieldF Try.prog 25 0 = some (0, 24) := by kernel_rfl
theorem fd_25_1 : fieldF Try.prog 25 1 = some (1, 24) := by kernel_rfl
theorem fd_25_2 : fieldF Try.prog 25 2 = some (2, 24) := by kernel_rfl
theorem ty_26 : TyF Try.prog 26 (.agg #[.slice none 0 0, .slice none 0 0, .slice none 0 0]) 3 72 true := ⟨by kernel_rfl, by kernel_rfl⟩
theorem fd_26_0 : fieldF Try.prog 26 0 = some (0, 24) := by kernel_rfl
theorem fd_26_1 : fieldF Try.prog 26 1 = some (1, 24) := by kernel_rfl
theorem fd_26_2 : fieldF Try.prog 26 2 = some (2, 24) := by kernel_rfl
theorem ty_28 : TyF Try.prog 28 (.agg #[.slice none 0 0, .slice none 0 0, .slice none 0 0]) 3 72 true := ⟨by kernel_rfl, by kernel_rfl⟩
theorem fd_28_0 : fieldF Try.prog 28 0 = some (0, 24) := by kernel_rfl
theorem fd_28_1 : fieldF Try.prog 28 1 = some (1, 24) := by kernel_rfl
theorem fd_28_2 : fieldF Try.prog 28 2 = some (2, 24) := by kernel_rfl
theorem ty_30 : TyF Try.prog 30 (.agg #[.int .i64 0, .int .i64 0, .int .i64 0]) 3 24 true := ⟨by kernel_rfl, by kernel_rfl⟩
theorem fd_30_0 : fieldF Try.prog 30 0 = some (0, 3) := by kernel_rfl
theorem fd_30_1 : fieldF Try.prog 30 1 = some (1, 3) := by kernel_rfl
theorem fd_30_2 : fieldF Try.prog 30 2 = some (2, 3) := by kernel_rfl
theorem ty_39 : TyF Try.prog 39 (.slice none 0 0) 1 24 false := ⟨by kernel_rfl, by kernel_rfl⟩
theorem ty_40 : TyF Try.prog 40 (.agg #[.int .i64 0, .int .i64 0, .int .i64 0, .slice none 0 0, .slice none 0 0]) 5 72 true := ⟨by kernel_rfl, by kernel_rfl⟩
theorem fd_40_0 : fieldF Try.prog 40 0 = some (0, 23) := by kernel_rfl
theorem fd_40_1 : fieldF Try.prog 40 1 = some (3, 39) := by kernel_rfl
theorem fd_40_2 : fieldF Try.prog 40 2 = some (4, 24) := by kernel_rfl
theorem ty_41 : TyF Try.prog 41 (.agg #[.int .i64 0, .int .i64 0, .int .i64 0, .slice none 0 0, .slice none 0 0]) 5 72 true := ⟨by kernel_rfl, by kernel_rfl⟩
theorem fd_41_0 : fieldF Try.prog 41 0 = some (0, 23) := by kernel_rfl
theorem fd_41_1 : fieldF Try.prog 41 1 = some (3, 39) := by kernel_rfl
theorem fd_41_2 : fieldF Try.prog 41 2 = some (4, 24) := by kernel_rfl
theorem ty_43 : TyF Try.prog 43 (.slice none 0 0) 1 24 false := ⟨by kernel_rfl, by kernel_rfl⟩
theorem ty_46 : TyF Try.prog 46 (.slice none 0 0) 1 24 false := ⟨by kernel_rfl, by kernel_rfl⟩
theorem ty_47 : TyF Try.prog 47 (.agg #[.int .i64 0, .int .i64 0, .int .i64 0, .slice none 0 0, .slice none 0 0]) 5 72 true := ⟨by kernel_rfl, by kernel_rfl⟩
theorem fd_47_0 : fieldF Try.prog 47 0 = some (0, 30) := by kernel_rfl
theorem fd_47_1 : fieldF Try.prog 47 1 = some (3, 46) := by kernel_rfl
theorem fd_47_2 : fieldF Try.prog 47 2 = some (4, 24) := by kernel_rfl
theorem ty_48 : TyF Try.prog 48 (.agg #[.int .i64 0, .int .i64 0, .int .i64 0, .slice none 0 0, .slice none 0 0]) 5 72 true := ⟨by kernel_rfl, by kernel_rfl⟩
theorem fd_48_0 : fieldF Try.prog 48 0 = some (0, 30) := by kernel_rfl
theorem fd_48_1 : fieldF Try.prog 48 1 = some (3, 46) := by kernel_rfl
theorem fd_48_2 : fieldF Try.prog 48 2 = some (4, 24) := by kernel_rfl
theorem ty_55 : TyF Try.prog 55 (.agg #[.int .i64 0, .int .i64 0]) 2 16 true := ⟨by kernel_rfl, by kernel_rfl⟩
theorem fd_55_0 : fieldF Try.prog 55 0 = some (0, 3) := by kernel_rfl
theorem fd_55_1 : fieldF Try.prog 55 1 = some (1, 3) := by kernel_rfl
theorem ty_56 : TyF Try.prog 56 (.agg #[.int .i64 0, .int .i64 0]) 2 16 true := ⟨by kernel_rfl, by kernel_rfl⟩
theorem fd_56_0 : fieldF Try.prog 56 0 = some (0, 3) := by kernel_rfl
theorem fd_56_1 : fieldF Try.prog 56 1 = some (1, 3) := by kernel_rfl
theorem ty_59 : TyF Try.prog 59 (.agg #[.int .i64 0, .int .i64 0]) 2 16 true := ⟨by kernel_rfl, by kernel_rfl⟩
theorem fd_59_0 : fieldF Try.prog 59 0 = some (0, 3) := by kernel_rfl
theorem fd_59_1 : fieldF Try.prog 59 1 = some (1, 3) := by kernel_rfl
theorem ty_62 : TyF Try.prog 62 (.slice none 0 0) 1 24 false := ⟨by kernel_rfl, by kernel_rfl⟩
theorem ty_63 : TyF Try.prog 63 (.agg #[.int .i64 0, .slice none 0 0]) 2 32 true := ⟨by kernel_rfl, by kernel_rfl⟩
theorem fd_63_0 : fieldF Try.prog 63 0 = some (0, 3) := by kernel_rfl
theorem fd_63_1 : fieldF Try.prog 63 1 = some (1, 62) := by kernel_rfl
theorem ty_64 : TyF Try.prog 64 (.agg #[.int .i64 0, .slice none 0 0]) 2 32 true := ⟨by kernel_rfl, by kernel_rfl⟩
theorem fd_64_0 : fieldF Try.prog 64 0 = some (0, 3) := by kernel_rfl
theorem fd_64_1 : fieldF Try.prog 64 1 = some (1, 62) := by kernel_rfl
theorem ty_67 : TyF Try.prog 67 (.slice none 0 0) 1 24 false := ⟨by kernel_rfl, by kernel_rfl⟩
theorem ty_68 : TyF Try.prog 68 (.agg #[.int .i64 0, .slice none 0 0]) 2 32 true := ⟨by kernel_rfl, by kernel_rfl⟩
theorem fd_68_0 : fieldF Try.prog 68 0 = some (0, 3) := by kernel_rfl
theorem fd_68_1 : fieldF Try.prog 68 1 = some (1, 67) := by kernel_rfl
theorem ty_69 : TyF Try.prog 69 (.agg #[.int .i64 0, .slice none 0 0]) 2 32 true := ⟨by kernel_rfl, by kernel_rfl⟩
theorem fd_69_0 : fieldF Try.prog 69 0 = some (0, 3) := by kernel_rfl
theorem fd_69_1 : fieldF Try.prog 69 1 = some (1, 67) := by kernel_rfl
theorem ty_73 : TyF Try.prog 73 (.slice none 0 0) 1 24 false := ⟨by kernel_rfl, by kernel_rfl⟩
theorem ty_87 : TyF Try.prog 87 (.agg #[.slice none 0 0, .slice none 0 0, .int .i64 0, .slice none 0 0, .slice none 0 0, .slice none 0 0]) 6 128 true := ⟨by kernel_rfl, by kernel_rfl⟩
theorem fd_87_0 : fieldF Try.prog 87 0 = some (0, 24) := by kernel_rfl
theorem fd_87_1 : fieldF Try.prog 87 1 = some (1, 43) := by kernel_rfl
theorem fd_87_2 : fieldF Try.prog 87 2 = some (2, 3) := by kernel_rfl
theorem fd_87_3 : fieldF Try.prog 87 3 = some (3, 28) := by kernel_rfl
theorem ty_88 : TyF Try.prog 88 (.agg #[.slice none 0 0, .slice none 0 0, .int .i64 0, .slice none 0 0, .slice none 0 0, .slice none 0 0]) 6 128 true := ⟨by kernel_rfl, by kernel_rfl⟩
theorem fd_88_0 : fieldF Try.prog 88 0 = some (0, 24) := by kernel_rfl
theorem fd_88_1 : fieldF Try.prog 88 1 = some (1, 43) := by kernel_rfl
theorem fd_88_2 : fieldF Try.prog 88 2 = some (2, 3) := by kernel_rfl
theorem fd_88_3 : fieldF Try.prog 88 3 = some (3, 28) := by kernel_rfl
theorem ty_113 : TyF Try.prog 113 (.agg #[.int .i64 0, .int .i64 0]) 2 16 true := ⟨by kernel_rfl, by kernel_rfl⟩
theorem fd_113_0 : fieldF Try.prog 113 0 = some (0, 3) := by kernel_rfl
theorem fd_113_1 : fieldF Try.prog 113 1 = some (1, 3) := by kernel_rfl
theorem ty_114 : TyF Try.prog 114 (.agg #[.int .i64 0, .int .i64 0]) 2 16 true := ⟨by kernel_rfl, by kernel_rfl⟩
theorem fd_114_0 : fieldF Try.prog 114 0 = some (0, 3) := by kernel_rfl
theorem fd_114_1 : fieldF Try.prog 114 1 = some (1, 3) := by kernel_rfl
theorem ty_125 : TyF Try.prog 125 (.agg #[.int .i64 0, .int .i64 0, .int .i64 0, .int .i64 0, .slice none 0 0]) 5 56 true := ⟨by kernel_rfl, by kernel_rfl⟩
theorem fd_125_0 : fieldF Try.prog 125 0 = some (0, 3) := by kernel_rfl
theorem fd_125_1 : fieldF Try.prog 125 1 = some (1, 3) := by kernel_rfl
theorem fd_125_2 : fieldF Try.prog 125 2 = some (2, 3) := by kernel_rfl
theorem fd_125_3 : fieldF Try.prog 125 3 = some (3, 3) := by kernel_rfl
theorem fd_125_4 : fieldF Try.prog 125 4 = some (4, 24) := by kernel_rfl
theorem ty_126 : TyF Try.prog 126 (.agg #[.int .i64 0, .int .i64 0, .int .i64 0, .int .i64 0, .slice none 0 0]) 5 56 true := ⟨by kernel_rfl, by kernel_rfl⟩
theorem fd_126_0 : fieldF Try.prog 126 0 = some (0, 3) := by kernel_rfl
theorem fd_126_1 : fieldF Try.prog 126 1 = some (1, 3) := by kernel_rfl
theorem fd_126_2 : fieldF Try.prog 126 2 = some (2, 3) := by kernel_rfl
theorem fd_126_3 : fieldF Try.prog 126 3 = some (3, 3) := by kernel_rfl
theorem fd_126_4 : fieldF Try.prog 126 4 = some (4, 24) := by kernel_rfl
theorem ty_128 : TyF Try.prog 128 (.slice none 0 0) 1 24 false := ⟨by kernel_rfl, by kernel_rfl⟩
theorem ty_129 : TyF Try.prog 129 (.agg #[.slice none 0 0, .slice none 0 0, .slice none 0 0]) 3 72 true := ⟨by kernel_rfl, by kernel_rfl⟩
theorem fd_129_0 : fieldF Try.prog 129 0 = some (0, 46) := by kernel_rfl
theorem fd_129_1 : fieldF Try.prog 129 1 = some (1, 128) := by kernel_rfl
theorem fd_129_2 : fieldF Try.prog 129 2 = some (2, 128) := by kernel_rfl
theorem ty_130 : TyF Try.prog 130 (.agg #[.slice none 0 0, .slice none 0 0, .slice none 0 0]) 3 72 true := ⟨by kernel_rfl, by kernel_rfl⟩
theorem fd_130_0 : fieldF Try.prog 130 0 = some (0, 46) := by kernel_rfl
theorem fd_130_1 : fieldF Try.prog 130 1 = some (1, 128) := by kernel_rfl
theorem fd_130_2 : fieldF Try.prog 130 2 = some (2, 128) := by kernel_rfl
theorem ty_143 : TyF Try.prog 143 (.agg #[.int .i64 0, .int .i64 0]) 2 16 true := ⟨by kernel_rfl, by kernel_rfl⟩
theorem fd_143_0 : fieldF Try.prog 143 0 = some (0, 3) := by kernel_rfl
theorem fd_143_1 : fieldF Try.prog 143 1 = some (1, 3) := by kernel_rfl
theorem ty_155 : TyF Try.prog 155 (.agg (List.replicate 100 (.int .i64 0 : Value)).toArray) 100 800 true := ⟨by kernel_rfl, by kernel_rfl⟩
theorem ty_164 : TyF Try.prog 164 (.slice none 0 0) 1 24 false := ⟨by kernel_rfl, by kernel_rfl⟩
theorem ty_179 : TyF Try.prog 179 (.slice none 0 0) 1 24 false := ⟨by kernel_rfl, by kernel_rfl⟩
theorem ty_180 : TyF Try.prog 180 (.agg #[.int .i64 0, .int .i64 0, .int .i64 0, .slice none 0 0, .slice none 0 0, .slice none 0 0, .slice none 0 0]) 7 120 true := ⟨by kernel_rfl, by kernel_rfl⟩
theorem fd_180_0 : fieldF Try.prog 180 0 = some (0, 48) := by kernel_rfl
theorem fd_180_1 : fieldF Try.prog 180 1 = some (5, 179) := by kernel_rfl
theorem fd_180_2 : fieldF Try.prog 180 2 = some (6, 128) := by kernel_rfl
theorem ty_181 : TyF Try.prog 181 (.agg #[.int .i64 0, .int .i64 0, .int .i64 0, .slice none 0 0, .slice none 0 0, .slice none 0 0, .slice none 0 0]) 7 120 true := ⟨by kernel_rfl, by kernel_rfl⟩
theorem fd_181_0 : fieldF Try.prog 181 0 = some (0, 48) := by kernel_rfl
theorem fd_181_1 : fieldF Try.prog 181 1 = some (5, 179) := by kernel_rfl
theorem fd_181_2 : fieldF Try.prog 181 2 = some (6, 128) := by kernel_rfl
theorem ty_182 : TyF Try.prog 182 (.agg #[.bool false, .slice none 0 0]) 2 32 true := ⟨by kernel_rfl, by kernel_rfl⟩
theorem fd_182_0 : fieldF Try.prog 182 0 = some (0, 4) := by kernel_rfl
theorem fd_182_1 : fieldF Try.prog 182 1 = some (1, 24) := by kernel_rfl
theorem ty_183 : TyF Try.prog 183 (.agg #[.bool false, .slice none 0 0]) 2 32 true := ⟨by kernel_rfl, by kernel_rfl⟩
theorem fd_183_0 : fieldF Try.prog 183 0 = some (0, 4) := by kernel_rfl
theorem fd_183_1 : fieldF Try.prog 183 1 = some (1, 24) := by kernel_rfl
theorem ty_188 : TyF Try.prog 188 (.agg #[.slice none 0 0, .slice none 0 0]) 2 48 true := ⟨by kernel_rfl, by kernel_rfl⟩
theorem fd_188_0 : fieldF Try.prog 188 0 = some (0, 46) := by kernel_rfl
theorem fd_188_1 : fieldF Try.prog 188 1 = some (1, 128) := by kernel_rfl
theorem ty_189 : TyF Try.prog 189 (.agg #[.slice none 0 0, .slice none 0 0]) 2 48 true := ⟨by kernel_rfl, by kernel_rfl⟩
theorem fd_189_0 : fieldF Try.prog 189 0 = some (0, 46) := by kernel_rfl
theorem fd_189_1 : fieldF Try.prog 189 1 = some (1, 128) := by kernel_rfl
theorem ty_204 : TyF Try.prog 204 (.agg #[.int .i64 0, .int .i64 0, .int .i64 0, .int .i64 0, .slice none 0 0]) 5 56 true := ⟨by kernel_rfl, by kernel_rfl⟩
theorem fd_204_0 : fieldF Try.prog 204 0 = some (0, 3) := by kernel_rfl
theorem fd_204_1 : fieldF Try.prog 204 1 = some (1, 3) := by kernel_rfl
theorem fd_204_2 : fieldF Try.prog 204 2 = some (2, 3) := by kernel_rfl
theorem fd_204_3 : fieldF Try.prog 204 3 = some (3, 3) := by kernel_rfl
theorem fd_204_4 : fieldF Try.prog 204 4 = some (4, 24) := by kernel_rfl
theorem ty_212 : TyF Try.prog 212 (.agg #[.int .i64 0, .slice none 0 0]) 2 32 true := ⟨by kernel_rfl, by kernel_rfl⟩
theorem fd_212_0 : fieldF Try.prog 212 0 = some (0, 3) := by kernel_rfl
theorem fd_212_1 : fieldF Try.prog 212 1 = some (1, 24) := by kernel_rfl
theorem ty_213 : TyF Try.prog 213 (.agg #[.int .i64 0, .slice none 0 0]) 2 32 true := ⟨by kernel_rfl, by kernel_rfl⟩
theorem fd_213_0 : fieldF Try.prog 213 0 = some (0, 3) := by kernel_rfl
theorem fd_213_1 : fieldF Try.prog 213 1 = some (1, 24) := by kernel_rfl
theorem ty_214 : TyF Try.prog 214 (.slice none 0 0) 1 24 false := ⟨by kernel_rfl, by kernel_rfl⟩
theorem ty_215 : TyF Try.prog 215 (.agg (List.replicate 100 (.int .i64 0 : Value) ++ ([.slice none 0 0, .slice none 0 0] : List Value) ++ ([.int .i64 0] : List Value)).toArray) 103 856 true := ⟨by kernel_rfl, by kernel_rfl⟩
theorem fd_215_0 : fieldF Try.prog 215 0 = some (0, 155) := by kernel_rfl
theorem fd_215_1 : fieldF Try.prog 215 1 = some (100, 24) := by kernel_rfl
theorem fd_215_2 : fieldF Try.prog 215 2 = some (101, 214) := by kernel_rfl
theorem fd_215_3 : fieldF Try.prog 215 3 = some (102, 3) := by kernel_rfl
theorem ty_216 : TyF Try.prog 216 (.agg (List.replicate 100 (.int .i64 0 : Value) ++ ([.slice none 0 0, .slice none 0 0] : List Value) ++ ([.int .i64 0] : List Value)).toArray) 103 856 true := ⟨by kernel_rfl, by kernel_rfl⟩
theorem fd_216_0 : fieldF Try.prog 216 0 = some (0, 155) := by kernel_rfl
theorem fd_216_1 : fieldF Try.prog 216 1 = some (100, 24) := by kernel_rfl
theorem fd_216_2 : fieldF Try.prog 216 2 = some (101, 214) := by kernel_rfl
theorem fd_216_3 : fieldF Try.prog 216 3 = some (102, 3) := by kernel_rfl
theorem ty_223 : TyF Try.prog 223 (.agg (List.replicate 100 (.bool false : Value)).toArray) 100 100 true := ⟨by kernel_rfl, by kernel_rfl⟩
theorem en_3 : EnterOK Try.prog 3 := ⟨_, Try.func3, by kernel_rfl, rfl⟩
theorem en_4 : EnterOK Try.prog 4 := ⟨_, Try.func4, by kernel_rfl, rfl⟩
theorem en_5 : EnterOK Try.prog 5 := ⟨_, Try.func5, by kernel_rfl, rfl⟩
theorem en_6 : EnterOK Try.prog 6 := ⟨_, Try.func6, by kernel_rfl, rfl⟩
theorem en_7 : EnterOK Try.prog 7 := ⟨_, Try.func7, by kernel_rfl, rfl⟩
theorem en_8 : EnterOK Try.prog 8 := ⟨_, Try.func8, by kernel_rfl, rfl⟩
theorem en_9 : EnterOK Try.prog 9 := ⟨_, Try.func9, by kernel_rfl, rfl⟩
theorem en_10 : EnterOK Try.prog 10 := ⟨_, Try.func10, by kernel_rfl, rfl⟩
theorem en_11 : EnterOK Try.prog 11 := ⟨_, Try.func11, by kernel_rfl, rfl⟩
theorem en_12 : EnterOK Try.prog 12 := ⟨_, Try.func12, by kernel_rfl, rfl⟩
theorem en_13 : EnterOK Try.prog 13 := ⟨_, Try.func13, by kernel_rfl, rfl⟩
theorem en_14 : EnterOK Try.prog 14 := ⟨_, Try.func14, by kernel_rfl, rfl⟩
theorem en_15 : EnterOK Try.prog 15 := ⟨_, Try.func15, by kernel_rfl, rfl⟩
theorem en_16 : EnterOK Try.prog 16 := ⟨_, Try.func16, by kernel_rfl, rfl⟩
theorem en_17 : EnterOK Try.prog 17 := ⟨_, Try.func17, by kernel_rfl, rfl⟩
theorem en_18 : EnterOK Try.prog 18 := ⟨_, Try.func18, by kernel_rfl, rfl⟩
theorem en_19 : EnterOK Try.prog 19 := ⟨_, Try.func19, by kernel_rfl, rfl⟩
theorem en_20 : EnterOK Try.prog 20 := ⟨_, Try.func20, by kernel_rfl, rfl⟩
theorem en_21 : EnterOK Try.prog 21 := ⟨_, Try.func21, by kernel_rfl, rfl⟩
theorem en_22 : EnterOK Try.prog 22 := ⟨_, Try.func22, by kernel_rfl, rfl⟩
theorem en_23 : EnterOK Try.prog 23 := ⟨_, Try.func23, by kernel_rfl, rfl⟩
theorem en_24 : EnterOK Try.prog 24 := ⟨_, Try.func24, by kernel_rfl, rfl⟩
theorem en_25 : EnterOK Try.prog 25 := ⟨_, Try.func25, by kernel_rfl, rfl⟩
theorem en_26 : EnterOK Try.prog 26 := ⟨_, Try.func26, by kernel_rfl, rfl⟩
theorem en_27 : EnterOK Try.prog 27 := ⟨_, Try.func27, by kernel_rfl, rfl⟩
theorem en_28 : EnterOK Try.prog 28 := ⟨_, Try.func28, by kernel_rfl, rfl⟩
theorem en_29 : EnterOK Try.prog 29 := ⟨_, Try.func29, by kernel_rfl, rfl⟩
theorem en_30 : EnterOK Try.prog 30 := ⟨_, Try.func30, by kernel_rfl, rfl⟩
theorem en_31 : EnterOK Try.prog 31 := ⟨_, Try.func31, by kernel_rfl, rfl⟩
theorem en_32 : EnterOK Try.prog 32 := ⟨_, Try.func32, by kernel_rfl, rfl⟩
theorem en_33 : EnterOK Try.prog 33 := ⟨_, Try.func33, by kernel_rfl, rfl⟩
theorem en_34 : EnterOK Try.prog 34 := ⟨_, Try.func34, by kernel_rfl, rfl⟩
theorem en_35 : EnterOK Try.prog 35 := ⟨_, Try.func35, by kernel_rfl, rfl⟩
theorem en_36 : EnterOK Try.prog 36 := ⟨_, Try.func36, by kernel_rfl, rfl⟩
theorem en_37 : EnterOK Try.prog 37 := ⟨_, Try.func37, by kernel_rfl, rfl⟩
theorem en_38 : EnterOK Try.prog 38 := ⟨_, Try.func38, by kernel_rfl, rfl⟩
theorem en_39 : EnterOK Try.prog 39 := ⟨_, Try.func39, by kernel_rfl, rfl⟩
theorem en_40 : EnterOK Try.prog 40 := ⟨_, Try.func40, by kernel_rfl, rfl⟩
theorem en_41 : EnterOK Try.prog 41 := ⟨_, Try.func41, by kernel_rfl, rfl⟩
theorem en_42 : EnterOK Try.prog 42 := ⟨_, Try.func42, by kernel_rfl, rfl⟩
theorem en_43 : EnterOK Try.prog 43 := ⟨_, Try.func43, by kernel_rfl, rfl⟩
theorem en_44 : EnterOK Try.prog 44 := ⟨_, Try.func44, by kernel_rfl, rfl⟩
theorem en_45 : EnterOK Try.prog 45 := ⟨_, Try.func45, by kernel_rfl, rfl⟩
theorem en_46 : EnterOK Try.prog 46 := ⟨_, Try.func46, by kernel_rfl, rfl⟩
theorem en_47 : EnterOK Try.prog 47 := ⟨_, Try.func47, by kernel_rfl, rfl⟩
theorem en_48 : EnterOK Try.prog 48 := ⟨_, Try.func48, by kernel_rfl, rfl⟩
theorem en_49 : EnterOK Try.prog 49 := ⟨_, Try.func49, by kernel_rfl, rfl⟩
theorem en_50 : EnterOK Try.prog 50 := ⟨_, Try.func50, by kernel_rfl, rfl⟩
theorem en_51 : EnterOK Try.prog 51 := ⟨_, Try.func51, by kernel_rfl, rfl⟩
theorem en_52 : EnterOK Try.prog 52 := ⟨_, Try.func52, by kernel_rfl, rfl⟩
theorem en_53 : EnterOK Try.prog 53 := ⟨_, Try.func53, by kernel_rfl, rfl⟩
theorem en_54 : EnterOK Try.prog 54 := ⟨_, Try.func54, by kernel_rfl, rfl⟩
theorem en_55 : EnterOK Try.prog 55 := ⟨_, Try.func55, by kernel_rfl, rfl⟩
theorem en_56 : EnterOK Try.prog 56 := ⟨_, Try.func56, by kernel_rfl, rfl⟩
theorem en_57 : EnterOK Try.prog 57 := ⟨_, Try.func57, by kernel_rfl, rfl⟩
theorem en_58 : EnterOK Try.prog 58 := ⟨_, Try.func58, by kernel_rfl, rfl⟩
theorem en_59 : EnterOK Try.prog 59 := ⟨_, Try.func59, by kernel_rfl, rfl⟩
theorem en_60 : EnterOK Try.prog 60 := ⟨_, Try.func60, by kernel_rfl, rfl⟩
theorem en_61 : EnterOK Try.prog 61 := ⟨_, Try.func61, by kernel_rfl, rfl⟩
theorem en_62 : EnterOK Try.prog 62 := ⟨_, Try.func62, by kernel_rfl, rfl⟩
theorem en_63 : EnterOK Try.prog 63 := ⟨_, Try.func63, by kernel_rfl, rfl⟩
theorem en_64 : EnterOK Try.prog 64 := ⟨_, Try.func64, by kernel_rfl, rfl⟩
theorem en_65 : EnterOK Try.prog 65 := ⟨_, Try.func65, by kernel_rfl, rfl⟩
theorem en_66 : EnterOK Try.prog 66 := ⟨_, Try.func66, by kernel_rfl, rfl⟩
theorem en_67 : EnterOK Try.prog 67 := ⟨_, Try.func67, by kernel_rfl, rfl⟩
theorem en_68 : EnterOK Try.prog 68 := ⟨_, Try.func68, by kernel_rfl, rfl⟩
theorem en_69 : EnterOK Try.prog 69 := ⟨_, Try.func69, by kernel_rfl, rfl⟩
theorem en_70 : EnterOK Try.prog 70 := ⟨_, Try.func70, by kernel_rfl, rfl⟩
theorem en_71 : EnterOK Try.prog 71 := ⟨_, Try.func71, by kernel_rfl, rfl⟩
theorem en_72 : EnterOK Try.prog 72 := ⟨_, Try.func72, by kernel_rfl, rfl⟩
theorem en_73 : EnterOK Try.prog 73 := ⟨_, Try.func73, by kernel_rfl, rfl⟩
theorem en_74 : EnterOK Try.prog 74 := ⟨_, Try.func74, by kernel_rfl, rfl⟩
theorem en_75 : EnterOK Try.prog 75 := ⟨_, Try.func75, by kernel_rfl, rfl⟩
theorem en_76 : EnterOK Try.prog 76 := ⟨_, Try.func76, by kernel_rfl, rfl⟩
theorem en_77 : EnterOK Try.prog 77 := ⟨_, Try.func77, by kernel_rfl, rfl⟩
theorem en_78 : EnterOK Try.prog 78 := ⟨_, Try.func78, by kernel_rfl, rfl⟩
theorem en_79 : EnterOK Try.prog 79 := ⟨_, Try.func79, by kernel_rfl, rfl⟩
theorem en_80 : EnterOK Try.prog 80 := ⟨_, Try.func80, by kernel_rfl, rfl⟩
theorem en_81 : EnterOK Try.prog 81 := ⟨_, Try.func81, by kernel_rfl, rfl⟩
theorem en_82 : EnterOK Try.prog 82 := ⟨_, Try.func82, by kernel_rfl, rfl⟩
theorem en_83 : EnterOK Try.prog 83 := ⟨_, Try.func83, by kernel_rfl, rfl⟩
theorem en_84 : EnterOK Try.prog 84 := ⟨_, Try.func84, by kernel_rfl, rfl⟩
theorem en_85 : EnterOK Try.prog 85 := ⟨_, Try.func85, by kernel_rfl, rfl⟩
theorem en_86 : EnterOK Try.prog 86 := ⟨_, Try.func86, by kernel_rfl, rfl⟩
theorem en_87 : EnterOK Try.prog 87 := ⟨_, Try.func87, by kernel_rfl, rfl⟩
theorem en_88 : EnterOK Try.prog 88 := ⟨_, Try.func88, by kernel_rfl, rfl⟩
theorem en_89 : EnterOK Try.prog 89 := ⟨_, Try.func89, by kernel_rfl, rfl⟩
theorem en_90 : EnterOK Try.prog 90 := ⟨_, Try.func90, by kernel_rfl, rfl⟩
theorem en_91 : EnterOK Try.prog 91 := ⟨_, Try.func91, by kernel_rfl, rfl⟩
theorem en_92 : EnterOK Try.prog 92 := ⟨_, Try.func92, by kernel_rfl, rfl⟩
theorem en_93 : EnterOK Try.prog 93 := ⟨_, Try.func93, by kernel_rfl, rfl⟩
theorem en_94 : EnterOK Try.prog 94 := ⟨_, Try.func94, by kernel_rfl, rfl⟩
theorem en_95 : EnterOK Try.prog 95 := ⟨_, Try.func95, by kernel_rfl, rfl⟩
theorem en_96 : EnterOK Try.prog 96 := ⟨_, Try.func96, by kernel_rfl, rfl⟩
theorem en_97 : EnterOK Try.prog 97 := ⟨_, Try.func97, by kernel_rfl, rfl⟩
theorem en_98 : EnterOK Try.prog 98 := ⟨_, Try.func98, by kernel_rfl, rfl⟩
theorem en_99 : EnterOK Try.prog 99 := ⟨_, Try.func99, by kernel_rfl, rfl⟩
theorem en_100 : EnterOK Try.prog 100 := ⟨_, Try.func100, by kernel_rfl, rfl⟩
theorem en_101 : EnterOK Try.prog 101 := ⟨_, Try.func101, by kernel_rfl, rfl⟩
theorem en_102 : EnterOK Try.prog 102 := ⟨_, Try.func102, by kernel_rfl, rfl⟩
theorem en_103 : EnterOK Try.prog 103 := ⟨_, Try.func103, by kernel_rfl, rfl⟩
theorem en_104 : EnterOK Try.prog 104 := ⟨_, Try.func104, by kernel_rfl, rfl⟩
theorem en_105 : EnterOK Try.prog 105 := ⟨_, Try.func105, by kernel_rfl, rfl⟩
theorem en_106 : EnterOK Try.prog 106 := ⟨_, Try.func106, by kernel_rfl, rfl⟩
theorem en_107 : EnterOK Try.prog 107 := ⟨_, Try.func107, by kernel_rfl, rfl⟩
theorem en_108 : EnterOK Try.prog 108 := ⟨_, Try.func108, by kernel_rfl, rfl⟩
theorem en_109 : EnterOK Try.prog 109 := ⟨_, Try.func109, by kernel_rfl, rfl⟩
theorem en_110 : EnterOK Try.prog 110 := ⟨_, Try.func110, by kernel_rfl, rfl⟩
theorem en_111 : EnterOK Try.prog 111 := ⟨_, Try.func111, by kernel_rfl, rfl⟩
theorem en_112 : EnterOK Try.prog 112 := ⟨_, Try.func112, by kernel_rfl, rfl⟩
theorem en_113 : EnterOK Try.prog 113 := ⟨_, Try.func113, by kernel_rfl, rfl⟩
theorem en_114 : EnterOK Try.prog 114 := ⟨_, Try.func114, by kernel_rfl, rfl⟩
theorem en_115 : EnterOK Try.prog 115 := ⟨_, Try.func115, by kernel_rfl, rfl⟩
theorem en_116 : EnterOK Try.prog 116 := ⟨_, Try.func116, by kernel_rfl, rfl⟩
theorem en_117 : EnterOK Try.prog 117 := ⟨_, Try.func117, by kernel_rfl, rfl⟩
theorem en_118 : EnterOK Try.prog 118 := ⟨_, Try.func118, by kernel_rfl, rfl⟩
theorem en_119 : EnterOK Try.prog 119 := ⟨_, Try.func119, by kernel_rfl, rfl⟩
theorem en_120 : EnterOK Try.prog 120 := ⟨_, Try.func120, by kernel_rfl, rfl⟩
theorem en_121 : EnterOK Try.prog 121 := ⟨_, Try.func121, by kernel_rfl, rfl⟩
theorem en_122 : EnterOK Try.prog 122 := ⟨_, Try.func122, by kernel_rfl, rfl⟩
theorem en_123 : EnterOK Try.prog 123 := ⟨_, Try.func123, by kernel_rfl, rfl⟩
theorem en_124 : EnterOK Try.prog 124 := ⟨_, Try.func124, by kernel_rfl, rfl⟩
theorem en_125 : EnterOK Try.prog 125 := ⟨_, Try.func125, by kernel_rfl, rfl⟩
theorem en_126 : EnterOK Try.prog 126 := ⟨_, Try.func126, by kernel_rfl, rfl⟩
theorem en_127 : EnterOK Try.prog 127 := ⟨_, Try.func127, by kernel_rfl, rfl⟩
theorem en_128 : EnterOK Try.prog 128 := ⟨_, Try.func128, by kernel_rfl, rfl⟩
theorem en_129 : EnterOK Try.prog 129 := ⟨_, Try.func129, by kernel_rfl, rfl⟩
theorem en_130 : EnterOK Try.prog 130 := ⟨_, Try.func130, by kernel_rfl, rfl⟩
theorem en_131 : EnterOK Try.prog 131 := ⟨_, Try.func131, by kernel_rfl, rfl⟩
theorem en_132 : EnterOK Try.prog 132 := ⟨_, Try.func132, by kernel_rfl, rfl⟩
theorem en_133 : EnterOK Try.prog 133 := ⟨_, Try.func133, by kernel_rfl, rfl⟩
theorem en_134 : EnterOK Try.prog 134 := ⟨_, Try.func134, by kernel_rfl, rfl⟩
theorem en_135 : EnterOK Try.prog 135 := ⟨_, Try.func135, by kernel_rfl, rfl⟩
theorem en_136 : EnterOK Try.prog 136 := ⟨_, Try.func136, by kernel_rfl, rfl⟩
theorem en_137 : EnterOK Try.prog 137 := ⟨_, Try.func137, by kernel_rfl, rfl⟩
theorem en_138 : EnterOK Try.prog 138 := ⟨_, Try.func138, by kernel_rfl, rfl⟩
theorem en_139 : EnterOK Try.prog 139 := ⟨_, Try.func139, by kernel_rfl, rfl⟩
theorem en_140 : EnterOK Try.prog 140 := ⟨_, Try.func140, by kernel_rfl, rfl⟩
theorem en_141 : EnterOK Try.prog 141 := ⟨_, Try.func141, by kernel_rfl, rfl⟩
theorem en_142 : EnterOK Try.prog 142 := ⟨_, Try.func142, by kernel_rfl, rfl⟩
theorem en_143 : EnterOK Try.prog 143 := ⟨_, Try.func143, by kernel_rfl, rfl⟩
theorem en_144 : EnterOK Try.prog 144 := ⟨_, Try.func144, by kernel_rfl, rfl⟩
theorem en_145 : EnterOK Try.prog 145 := ⟨_, Try.func145, by kernel_rfl, rfl⟩
theorem en_146 : EnterOK Try.prog 146 := ⟨_, Try.func146, by kernel_rfl, rfl⟩
theorem en_147 : EnterOK Try.prog 147 := ⟨_, Try.func147, by kernel_rfl, rfl⟩
theorem en_148 : EnterOK Try.prog 148 := ⟨_, Try.func148, by kernel_rfl, rfl⟩
theorem en_149 : EnterOK Try.prog 149 := ⟨_, Try.func149, by kernel_rfl, rfl⟩
theorem en_150 : EnterOK Try.prog 150 := ⟨_, Try.func150, by kernel_rfl, rfl⟩
theorem en_151 : EnterOK Try.prog 151 := ⟨_, Try.func151, by kernel_rfl, rfl⟩
theorem en_152 : EnterOK Try.prog 152 := ⟨_, Try.func152, by kernel_rfl, rfl⟩
theorem en_153 : EnterOK Try.prog 153 := ⟨_, Try.func153, by kernel_rfl, rfl⟩
theorem en_154 : EnterOK Try.prog 154 := ⟨_, Try.func154, by kernel_rfl, rfl⟩
theorem en_155 : EnterOK Try.prog 155 := ⟨_, Try.func155, by kernel_rfl, rfl⟩
theorem en_156 : EnterOK Try.prog 156 := ⟨_, Try.func156, by kernel_rfl, rfl⟩
theorem en_157 : EnterOK Try.prog 157 := ⟨_, Try.func157, by kernel_rfl, rfl⟩
theorem en_158 : EnterOK Try.prog 158 := ⟨_, Try.func158, by kernel_rfl, rfl⟩
theorem en_159 : EnterOK Try.prog 159 := ⟨_, Try.func159, by kernel_rfl, rfl⟩
theorem en_160 : EnterOK Try.prog 160 := ⟨_, Try.func160, by kernel_rfl, rfl⟩
theorem en_161 : EnterOK Try.prog 161 := ⟨_, Try.func161, by kernel_rfl, rfl⟩
theorem en_162 : EnterOK Try.prog 162 := ⟨_, Try.func162, by kernel_rfl, rfl⟩
theorem en_163 : EnterOK Try.prog 163 := ⟨_, Try.func163, by kernel_rfl, rfl⟩
theorem en_164 : EnterOK Try.prog 164 := ⟨_, Try.func164, by kernel_rfl, rfl⟩
theorem en_165 : EnterOK Try.prog 165 := ⟨_, Try.func165, by kernel_rfl, rfl⟩
theorem en_166 : EnterOK Try.prog 166 := ⟨_, Try.func166, by kernel_rfl, rfl⟩
theorem en_167 : EnterOK Try.prog 167 := ⟨_, Try.func167, by kernel_rfl, rfl⟩
theorem en_168 : EnterOK Try.prog 168 := ⟨_, Try.func168, by kernel_rfl, rfl⟩
theorem en_169 : EnterOK Try.prog 169 := ⟨_, Try.func169, by kernel_rfl, rfl⟩
theorem en_170 : EnterOK Try.prog 170 := ⟨_, Try.func170, by kernel_rfl, rfl⟩
theorem en_171 : EnterOK Try.prog 171 := ⟨_, Try.func171, by kernel_rfl, rfl⟩
theorem en_172 : EnterOK Try.prog 172 := ⟨_, Try.func172, by kernel_rfl, rfl⟩
theorem en_173 : EnterOK Try.prog 173 := ⟨_, Try.func173, by kernel_rfl, rfl⟩
theorem en_174 : EnterOK Try.prog 174 := ⟨_, Try.func174, by kernel_rfl, rfl⟩
theorem en_175 : EnterOK Try.prog 175 := ⟨_, Try.func175, by kernel_rfl, rfl⟩
theorem en_176 : EnterOK Try.prog 176 := ⟨_, Try.func176, by kernel_rfl, rfl⟩
theorem en_177 : EnterOK Try.prog 177 := ⟨_, Try.func177, by kernel_rfl, rfl⟩
theorem en_178 : EnterOK Try.prog 178 := ⟨_, Try.func178, by kernel_rfl, rfl⟩
theorem en_179 : EnterOK Try.prog 179 := ⟨_, Try.func179, by kernel_rfl, rfl⟩
theorem en_180 : EnterOK Try.prog 180 := ⟨_, Try.func180, by kernel_rfl, rfl⟩
theorem en_181 : EnterOK Try.prog 181 := ⟨_, Try.func181, by kernel_rfl, rfl⟩
theorem en_182 : EnterOK Try.prog 182 := ⟨_, Try.func182, by kernel_rfl, rfl⟩
theorem en_183 : EnterOK Try.prog 183 := ⟨_, Try.func183, by kernel_rfl, rfl⟩
theorem en_184 : EnterOK Try.prog 184 := ⟨_, Try.func184, by kernel_rfl, rfl⟩
theorem en_185 : EnterOK Try.prog 185 := ⟨_, Try.func185, by kernel_rfl, rfl⟩
theorem en_186 : EnterOK Try.prog 186 := ⟨_, Try.func186, by kernel_rfl, rfl⟩
theorem en_187 : EnterOK Try.prog 187 := ⟨_, Try.func187, by kernel_rfl, rfl⟩
theorem en_188 : EnterOK Try.prog 188 := ⟨_, Try.func188, by kernel_rfl, rfl⟩
theorem en_189 : EnterOK Try.prog 189 := ⟨_, Try.func189, by kernel_rfl, rfl⟩
theorem en_190 : EnterOK Try.prog 190 := ⟨_, Try.func190, by kernel_rfl, rfl⟩
theorem en_191 : EnterOK Try.prog 191 := ⟨_, Try.func191, by kernel_rfl, rfl⟩
theorem en_192 : EnterOK Try.prog 192 := ⟨_, Try.func192, by kernel_rfl, rfl⟩
theorem en_193 : EnterOK Try.prog 193 := ⟨_, Try.func193, by kernel_rfl, rfl⟩
theorem en_194 : EnterOK Try.prog 194 := ⟨_, Try.func194, by kernel_rfl, rfl⟩
theorem en_195 : EnterOK Try.prog 195 := ⟨_, Try.func195, by kernel_rfl, rfl⟩
theorem en_196 : EnterOK Try.prog 196 := ⟨_, Try.func196, by kernel_rfl, rfl⟩
theorem en_197 : EnterOK Try.prog 197 := ⟨_, Try.func197, by kernel_rfl, rfl⟩
theorem en_198 : EnterOK Try.prog 198 := ⟨_, Try.func198, by kernel_rfl, rfl⟩
theorem en_199 : EnterOK Try.prog 199 := ⟨_, Try.func199, by kernel_rfl, rfl⟩
theorem en_200 : EnterOK Try.prog 200 := ⟨_, Try.func200, by kernel_rfl, rfl⟩
theorem en_201 : EnterOK Try.prog 201 := ⟨_, Try.func201, by kernel_rfl, rfl⟩
theorem en_202 : EnterOK Try.prog 202 := ⟨_, Try.func202, by kernel_rfl, rfl⟩
theorem en_203 : EnterOK Try.prog 203 := ⟨_, Try.func203, by kernel_rfl, rfl⟩
theorem en_204 : EnterOK Try.prog 204 := ⟨_, Try.func204, by kernel_rfl, rfl⟩
theorem en_206 : EnterOK Try.prog 206 := ⟨_, Try.func206, by kernel_rfl, rfl⟩
theorem en_207 : EnterOK Try.prog 207 := ⟨_, Try.func207, by kernel_rfl, rfl⟩
theorem en_208 : EnterOK Try.prog 208 := ⟨_, Try.func208, by kernel_rfl, rfl⟩
theorem en_209 : EnterOK Try.prog 209 := ⟨_, Try.func209, by kernel_rfl, rfl⟩
theorem en_210 : EnterOK Try.prog 210 := ⟨_, Try.func210, by kernel_rfl, rfl⟩
theorem en_211 : EnterOK Try.prog 211 := ⟨_, Try.func211, by kernel_rfl, rfl⟩
theorem en_212 : EnterOK Try.prog 212 := ⟨_, Try.func212, by kernel_rfl, rfl⟩
theorem en_213 : EnterOK Try.prog 213 := ⟨_, Try.func213, by kernel_rfl, rfl⟩
theorem en_214 : EnterOK Try.prog 214 := ⟨_, Try.func214, by kernel_rfl, rfl⟩
theorem en_215 : EnterOK Try.prog 215 := ⟨_, Try.func215, by kernel_rfl, rfl⟩
theorem en_216 : EnterOK Try.prog 216 := ⟨_, Try.func216, by kernel_rfl, rfl⟩
theorem en_217 : EnterOK Try.prog 217 := ⟨_, Try.func217, by kernel_rfl, rfl⟩
theorem en_218 : EnterOK Try.prog 218 := ⟨_, Try.func218, by kernel_rfl, rfl⟩
theorem en_219 : EnterOK Try.prog 219 := ⟨_, Try.func219, by kernel_rfl, rfl⟩
theorem en_220 : EnterOK Try.prog 220 := ⟨_, Try.func220, by kernel_rfl, rfl⟩
theorem en_221 : EnterOK Try.prog 221 := ⟨_, Try.func221, by kernel_rfl, rfl⟩
theorem en_222 : EnterOK Try.prog 222 := ⟨_, Try.func222, by kernel_rfl, rfl⟩
theorem en_225 : EnterOK Try.prog 225 := ⟨_, Try.func225, by kernel_rfl, rfl⟩
theorem mixed_ok : Try.prog.follows .mixedOrders = true := by kernel_rfl
end Go.Proofs.Ytikeobneipjfnaa
