/-
  A ring as the law is handed it.
  Conditions: none.
-/
import Derived.Test.YtikeobneipjfnaaRing
import Derived.Test.YtikeobneipjfnaaLift
namespace Go.Proofs.Ytikeobneipjfnaa
set_option maxRecDepth 100000
open Go.ChangeShapes Go.WideShapes Go.ChangeAt Go.RowKit
section
variable {H : Type} {enc : TypeId × Value → H} {w : World} {base : Nat} {sp : Nat → Bool} {hd : Bool}
theorem rd_ring {fuel : Nat} {cs : List Value} {x : DataW H × List MemPlace} (h : DataW.trod enc Try.prog w base sp hd fuel 23 cs = some x) : ∃ k m p, cs = [num k, num m, num p] ∧ I64 k ∧ I64 m ∧ I64 p := by
  obtain ⟨hl, hf⟩ := rd_field Try.underlying23 h
  rw [cellsOf_ty ty_23] at hl
  obtain ⟨n0, y0, h0⟩ := hf 0 _ _ fd_23_0
  obtain ⟨n1, y1, h1⟩ := hf 1 _ _ fd_23_1
  obtain ⟨n2, y2, h2⟩ := hf 2 _ _ fd_23_2
  rw [cellsOf_ty ty_3] at h0 h1 h2
  obtain ⟨k, e0, i0⟩ := rd_int Try.underlying3 h0
  obtain ⟨m, e1, i1⟩ := rd_int Try.underlying3 h1
  obtain ⟨p, e2, i2⟩ := rd_int Try.underlying3 h2
  match cs, hl with
  | [a, b, c], _ =>
    simp at e0 e1 e2
    subst e0 e1 e2
    exact ⟨k, m, p, rfl, i0, i1, i2⟩
theorem arg_ring {v : Value} {d : DataW H} {p : List MemPlace} {r : Reach} {b : Nat} (hv : Value.okWide Try.prog w r b 23 v) (h : DataW.Trod enc Try.prog w base sp hd 23 v d p) : ∃ k m p, v = ringV k m p ∧ I64 k ∧ I64 m ∧ I64 p := by
  obtain ⟨cs, rfl, _⟩ := okWide_struct Try.underlying23 hv
  obtain ⟨f, hf⟩ := h
  obtain ⟨k, m, p, e, hi⟩ := rd_ring hf
  refine ⟨k, m, p, ?_, hi⟩
  simp only [Value.cells] at e
  simp only [ringV, ← e]
end
end Go.Proofs.Ytikeobneipjfnaa
