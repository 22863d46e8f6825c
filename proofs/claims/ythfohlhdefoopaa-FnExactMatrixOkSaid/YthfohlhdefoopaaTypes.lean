/-
  What the program's tables say of the types and functions that this claim's walks meet; each fact is closed and is reckoned by the kernel.
  Conditions: none.
-/
import Derived.Test.YthfohlhdefoopaaOps2
import Derived.Test.YthfohlhdefoopaaRows
namespace Go.Proofs.Ythfohlhdefoopaa
theorem ty_3 : TyF Try.prog 3 (.int .i64 0) 1 8 false := ⟨by kernel_rfl, by kernel_rfl⟩
theorem ty_4 : TyF Try.prog 4 (.bool false) 1 1 false := ⟨by kernel_rfl, by kernel_rfl⟩
theorem ty_5 : TyF Try.prog 5 (.int .u8 0) 1 1 false := ⟨by kernel_rfl, by kernel_rfl⟩
theorem ty_9 : TyF Try.prog 9 (.string .empty) 1 16 false := ⟨by kernel_rfl, by kernel_rfl⟩
theorem ty_24 : TyF Try.prog 24 (.agg #[.int .i64 0, .int .i64 0, .int .i64 0]) 3 24 true := ⟨by kernel_rfl, by kernel_rfl⟩
theorem fd_24_0 : fieldF Try.prog 24 0 = some (0, 3) := by kernel_rfl
theorem fd_24_1 : fieldF Try.prog 24 1 = some (1, 3) := by kernel_rfl
theorem fd_24_2 : fieldF Try.prog 24 2 = some (2, 3) := by kernel_rfl
theorem ty_25 : TyF Try.prog 25 (.agg #[.int .i64 0, .int .i64 0, .int .i64 0]) 3 24 true := ⟨by kernel_rfl, by kernel_rfl⟩
theorem fd_25_0 : fieldF Try.prog 25 0 = some (0, 3) := by kernel_rfl
theorem fd_25_1 : fieldF Try.prog 25 1 = some (1, 3) := by kernel_rfl
theorem fd_25_2 : fieldF Try.prog 25 2 = some (2, 3) := by kernel_rfl
theorem ty_27 : TyF Try.prog 27 (.agg #[.int .i64 0, .int .i64 0, .int .i64 0]) 3 24 true := ⟨by kernel_rfl, by kernel_rfl⟩
theorem fd_27_0 : fieldF Try.prog 27 0 = some (0, 3) := by kernel_rfl
theorem fd_27_1 : fieldF Try.prog 27 1 = some (1, 3) := by kernel_rfl
theorem fd_27_2 : fieldF Try.prog 27 2 = some (2, 3) := by kernel_rfl
theorem ty_30 : TyF Try.prog 30 (.slice none 0 0) 1 24 false := ⟨by kernel_rfl, by kernel_rfl⟩
theorem ty_31 : TyF Try.prog 31 (.agg #[.int .i64 0, .int .i64 0, .slice none 0 0]) 3 40 true := ⟨by kernel_rfl, by kernel_rfl⟩
theorem fd_31_0 : fieldF Try.prog 31 0 = some (0, 3) := by kernel_rfl
theorem fd_31_1 : fieldF Try.prog 31 1 = some (1, 3) := by kernel_rfl
theorem fd_31_2 : fieldF Try.prog 31 2 = some (2, 30) := by kernel_rfl
theorem ty_32 : TyF Try.prog 32 (.agg #[.int .i64 0, .int .i64 0, .slice none 0 0]) 3 40 true := ⟨by kernel_rfl, by kernel_rfl⟩
theorem fd_32_0 : fieldF Try.prog 32 0 = some (0, 3) := by kernel_rfl
theorem fd_32_1 : fieldF Try.prog 32 1 = some (1, 3) := by kernel_rfl
theorem fd_32_2 : fieldF Try.prog 32 2 = some (2, 30) := by kernel_rfl
theorem ty_35 : TyF Try.prog 35 (.agg #[.int .i64 0, .int .i64 0, .slice none 0 0]) 3 40 true := ⟨by kernel_rfl, by kernel_rfl⟩
theorem fd_35_0 : fieldF Try.prog 35 0 = some (0, 3) := by kernel_rfl
theorem fd_35_1 : fieldF Try.prog 35 1 = some (1, 3) := by kernel_rfl
theorem fd_35_2 : fieldF Try.prog 35 2 = some (2, 30) := by kernel_rfl
theorem en_3 : EnterOK Try.prog 3 := ⟨_, Try.func3, by kernel_rfl, rfl⟩
theorem en_4 : EnterOK Try.prog 4 := ⟨_, Try.func4, by kernel_rfl, rfl⟩
theorem en_5 : EnterOK Try.prog 5 := ⟨_, Try.func5, by kernel_rfl, rfl⟩
theorem en_6 : EnterOK Try.prog 6 := ⟨_, Try.func6, by kernel_rfl, rfl⟩
theorem en_7 : EnterOK Try.prog 7 := ⟨_, Try.func7, by kernel_rfl, rfl⟩
theorem en_8 : EnterOK Try.prog 8 := ⟨_, Try.func8, by kernel_rfl, rfl⟩
theorem en_9 : EnterOK Try.prog 9 := ⟨_, Try.func9, by kernel_rfl, rfl⟩
theorem en_10 : EnterOK Try.prog 10 := ⟨_, Try.func10, by kernel_rfl, rfl⟩
theorem en_11 : EnterOK Try.prog 11 := ⟨_, Try.func11, by kernel_rfl, rfl⟩
theorem en_12 : EnterOK Try.prog 12 := ⟨_, Try.func12, by kernel_rfl, rfl⟩
theorem en_13 : EnterOK Try.prog 13 := ⟨_, Try.func13, by kernel_rfl, rfl⟩
theorem en_14 : EnterOK Try.prog 14 := ⟨_, Try.func14, by kernel_rfl, rfl⟩
theorem en_15 : EnterOK Try.prog 15 := ⟨_, Try.func15, by kernel_rfl, rfl⟩
theorem en_16 : EnterOK Try.prog 16 := ⟨_, Try.func16, by kernel_rfl, rfl⟩
theorem en_17 : EnterOK Try.prog 17 := ⟨_, Try.func17, by kernel_rfl, rfl⟩
theorem en_18 : EnterOK Try.prog 18 := ⟨_, Try.func18, by kernel_rfl, rfl⟩
theorem en_19 : EnterOK Try.prog 19 := ⟨_, Try.func19, by kernel_rfl, rfl⟩
theorem en_20 : EnterOK Try.prog 20 := ⟨_, Try.func20, by kernel_rfl, rfl⟩
theorem en_21 : EnterOK Try.prog 21 := ⟨_, Try.func21, by kernel_rfl, rfl⟩
theorem en_22 : EnterOK Try.prog 22 := ⟨_, Try.func22, by kernel_rfl, rfl⟩
theorem en_23 : EnterOK Try.prog 23 := ⟨_, Try.func23, by kernel_rfl, rfl⟩
theorem en_24 : EnterOK Try.prog 24 := ⟨_, Try.func24, by kernel_rfl, rfl⟩
theorem en_25 : EnterOK Try.prog 25 := ⟨_, Try.func25, by kernel_rfl, rfl⟩
theorem en_26 : EnterOK Try.prog 26 := ⟨_, Try.func26, by kernel_rfl, rfl⟩
theorem mixed_ok : Try.prog.follows .mixedOrders = true := by kernel_rfl
end Go.Proofs.Ythfohlhdefoopaa
