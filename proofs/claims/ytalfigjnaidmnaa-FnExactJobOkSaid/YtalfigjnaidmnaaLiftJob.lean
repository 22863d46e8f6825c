/-
  Jobs as the law is handed them.
  Conditions: none.
-/
import Derived.Test.YtalfigjnaidmnaaLaw6
import Derived.Test.YtalfigjnaidmnaaLiftStep
namespace Go.Proofs.Ytalfigjnaidmnaa
set_option maxRecDepth 100000
open Go.ChangeShapes Go.WideShapes Go.ChangeAt Go.RowKit
section
variable {H : Type} {enc : TypeId × Value → H} {w : World} {base : Nat} {sp : Nat → Bool} {hd : Bool}
theorem arg_job {v : Value} {d : DataW H} {p : List MemPlace} {r : Reach} {b : Nat} (hv : Value.okWide Try.prog w r b 71 v) (h : DataW.Trod enc Try.prog w base sp hd 71 v d p) : ∃ (ls : List Int) (ss : List Stp) (n : Int) (t : Ten) (a b' c d' e : Value), v = jobV a b' n c d' e ∧ IntsR ls a (hp w) ∧ StepsR ss b' (hp w) ∧ IntsR t.l c (hp w) ∧ IntsR t.d d' (hp w) ∧ IntsR t.x e (hp w) := by
  obtain ⟨cs, rfl, _⟩ := okWide_struct Try.underlying71 hv
  obtain ⟨f, hf⟩ := h
  obtain ⟨hl, hf⟩ := rd_field Try.underlying71 hf
  rw [cellsOf_ty ty_71] at hl
  obtain ⟨n0, y0, h0⟩ := hf 0 _ _ fd_71_0
  obtain ⟨n1, y1, h1⟩ := hf 1 _ _ fd_71_1
  obtain ⟨n2, y2, h2⟩ := hf 2 _ _ fd_71_2
  obtain ⟨n3, y3, h3⟩ := hf 3 _ _ fd_71_3
  rw [cellsOf_ty ty_25] at h0
  rw [cellsOf_ty ty_41] at h1
  rw [cellsOf_ty ty_3] at h2
  rw [cellsOf_ty ty_50] at h3
  obtain ⟨a, ls, e0, r0, _⟩ := rd_ints Try.underlying25 Try.underlying3 (cellsOf_ty ty_3) h0
  obtain ⟨b', ss, e1, hx⟩ := rd_rows (R := fun (x : Stp) cs _ => cs = [num x.a, num x.b]) Try.underlying41 (cellsOf_ty ty_109) (by decide) (fun h => rd_step h) h1
  obtain ⟨n, e2, _⟩ := rd_int Try.underlying3 h2
  obtain ⟨t, c, d', e, e3, r1, r2, r3⟩ := rd_ten h3
  obtain ⟨l⟩ := cs
  simp only [Value.cells] at hl e0 e1 e2 e3
  match l, hl with
  | [a1, a2, a3, a4, a5, a6], _ =>
    simp at e0 e1 e2 e3
    obtain ⟨rfl, rfl, rfl⟩ := e3
    subst e0 e1 e2
    exact ⟨ls, ss, n, t, _, _, _, _, _, rfl, r0, rows_steps hx, r1, r2, r3⟩
end
end Go.Proofs.Ytalfigjnaidmnaa
