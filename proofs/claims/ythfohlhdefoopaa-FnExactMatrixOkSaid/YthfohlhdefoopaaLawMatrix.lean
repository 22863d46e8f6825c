/-
  At every matrix the program's MatrixOk returns what the reference's returns.
  Conditions: none.
-/
import Derived.Test.YthfohlhdefoopaaMatrix
import Derived.Test.YthfohlhdefoopaaLift
namespace Go.Proofs.Ythfohlhdefoopaa
open Go.ChangeShapes Go.WideShapes Go.ChangeAt Go.RowKit
section
variable {H : Type} {enc : TypeId × Value → H} {w : World} {base : Nat} {sp : Nat → Bool} {hd : Bool}
theorem arg_matrix {v : Value} {d : DataW H} {p : List MemPlace} {r : Reach} {b : Nat} (hv : Value.okWide Try.prog w r b 32 v) (h : DataW.Trod enc Try.prog w base sp hd 32 v d p) : ∃ k m xs u, v = matV k m u ∧ IntsR xs u (hp w) := by
  obtain ⟨cs, rfl, _⟩ := okWide_struct Try.underlying32 hv
  obtain ⟨f, hf⟩ := h
  obtain ⟨hl, hf⟩ := rd_field Try.underlying32 hf
  rw [cellsOf_ty ty_32] at hl
  obtain ⟨n0, y0, h0⟩ := hf 0 _ _ fd_32_0
  obtain ⟨n1, y1, h1⟩ := hf 1 _ _ fd_32_1
  obtain ⟨n2, y2, h2⟩ := hf 2 _ _ fd_32_2
  rw [cellsOf_ty ty_3] at h0 h1
  rw [cellsOf_ty ty_30] at h2
  obtain ⟨k, e0, i0⟩ := rd_int Try.underlying3 h0
  obtain ⟨m, e1, i1⟩ := rd_int Try.underlying3 h1
  obtain ⟨u, xs, e2, hx, _⟩ := rd_ints Try.underlying30 Try.underlying3 (cellsOf_ty ty_3) h2
  obtain ⟨l⟩ := cs
  simp only [Value.cells] at hl e0 e1 e2
  match l, hl with
  | [a, b, c], _ =>
    simp at e0 e1 e2
    subst e0 e1 e2
    exact ⟨k, m, xs, c, rfl, hx⟩
end
set_option maxRecDepth 100000 in
theorem lifted_fnExactMatrixOk (os : Os) (started : os.Started) (H : Type) (enc : TypeId × Value → H) :
    ReturnsInHanded {} Try.checked os 5 .any (Rows.fnExactMatrixOkSpec.pre6 enc Try.prog Try.f5 Rows.fnExactMatrixOkRow.domain false) (Rows.fnExactMatrixOkSpec.post enc Try.prog Try.f5 false true false false) := by
  refine returnsInHanded_of_change (C := Try.checked) lift_own started (by kernel_rfl) Try.func5
    (ChangeSpec.witness6 (enc := enc) (C := Try.checked) false ⟨#[], #[.int .i64 0, .agg #[.int .i64 0, .int .i64 0, .slice none 0 0]], []⟩ 8 (by kernel_rfl) (by kernel_rfl) (by kernel_rfl) (by kernel_rfl)) ?_
  intro W base args ds gs before hval0 hW hcnd _
  have hval : ∀ (j : Nat) t v, Try.f5.params[j]? = some t → args[j]? = some v → Value.okWide Try.prog W .any base t v := hval0
  have hW' := hW
  obtain ⟨p, q, hA0, hV, rfl, hfz, hnd⟩ := hW
  have hlt : ∀ x ∈ p, x.block < W.heap.size := fun x hx => by simpa using hW'.lt x (by simp [hx])
  have hA : DataW.TrodAll enc Try.prog W 0 (fun _ => true) true Try.f5.params.toList args.toList ds p := hA0
  have hA1 := hA
  rw [Try.params5] at hA1 hval
  obtain ⟨v0, vs0, d0, ds0, p0, q0, hargs, rfl, rfl, h0, r0⟩ := trodAll_cons hA1
  obtain ⟨v1, vs1, d1, ds1, p1, q1, rfl, rfl, rfl, h1, r1⟩ := trodAll_cons r0
  obtain ⟨rfl, rfl, rfl⟩ := trodAll_nil r1
  obtain rfl : args = #[v0, v1] := by cases args; simp_all
  obtain ⟨rfl, rfl⟩ := trodVars_none hV
  have k0 := hval 0 3 v0 rfl rfl
  have k1 := hval 1 32 v1 rfl rfl
  obtain ⟨x0, rfl, _⟩ := arg_int k0 h0
  obtain ⟨x1, x2, xs, u, rfl, rx⟩ := arg_matrix k1 h1
  refine (show Calls Try.prog 5 _ W (RetV W (.bool true)) from ct_l_FnExactMatrixOk x0 x1 x2 xs u W rx).mono fun e W' ⟨he, hu⟩ => ?_
  subst he
  refine ⟨_, rfl, _, _, _, [], _, [], hW', trodAll_mk1 (shut_bool Try.underlying4 true), trodAll_below lift_laid hu.below (by kernel_rfl) hA hlt, rfl, hu.below.frame _, fun h => by cases h⟩
theorem over_fnExactMatrixOk : Rows.fnExactMatrixOkRow.holds Try.pinned (OpenSpec.ofChange Rows.fnExactMatrixOkSpec) :=
  OpenClaim.holds_of_wide 5 Try.f5 rfl rfl rfl rfl rfl rfl rfl ⟨rfl, rfl, rfl, rfl, rfl⟩ rfl rfl rfl rfl rfl (by kernel_rfl) Try.func5 (by kernel_rfl)
    (of_decide_eq_true (by kernel_rfl)) (by unfold Func.isWrapper; first | (rw [if_pos (by decide +kernel)]; kernel_rfl) | (rw [if_neg (by decide +kernel)]; exact ⟨rfl, rfl⟩))
    (fun os started H enc _ => lifted_fnExactMatrixOk os started H enc)
/-- The law FnExactMatrixOk holds at every input. -/
theorem proved_fnExactMatrixOk : Rows.FnExactMatrixOkSaid :=
  over_fnExactMatrixOk
#print axioms proved_fnExactMatrixOk
end Go.Proofs.Ythfohlhdefoopaa
