/-
  A tensor as the law is handed it.
  Conditions: none.
-/
import Derived.Test.YtikeobneipjfnaaLiftNet
namespace Go.Proofs.Ytikeobneipjfnaa
set_option maxRecDepth 100000
open Go.ChangeShapes Go.WideShapes Go.ChangeAt Go.RowKit
section
variable {H : Type} {enc : TypeId × Value → H} {w : World} {base : Nat} {sp : Nat → Bool} {hd : Bool}
theorem arg_tensor {v : Value} {d : DataW H} {p : List MemPlace} {r : Reach} {b : Nat} (hv : Value.okWide Try.prog w r b 26 v) (h : DataW.Trod enc Try.prog w base sp hd 26 v d p) : ∃ (t : Ten) (a b' c : Value), v = tenV a b' c ∧ IntsR t.l a (hp w) ∧ IntsR t.d b' (hp w) ∧ IntsR t.x c (hp w) := by
  obtain ⟨cs, rfl, _⟩ := okWide_struct Try.underlying26 hv
  obtain ⟨f, hf⟩ := h
  obtain ⟨t, a, b', c, e, r1, r2, r3⟩ := rd_ten hf
  obtain ⟨l⟩ := cs
  simp only [Value.cells] at e
  subst e
  exact ⟨t, a, b', c, rfl, r1, r2, r3⟩
end
end Go.Proofs.Ytikeobneipjfnaa
