/-
  Steps as the law is handed them.
  Conditions: none.
-/
import Derived.Test.YtikeobneipjfnaaLaw5
import Derived.Test.YtikeobneipjfnaaLiftNet
namespace Go.Proofs.Ytikeobneipjfnaa
set_option maxRecDepth 100000
open Go.ChangeShapes Go.WideShapes Go.ChangeAt Go.RowKit
theorem stepCells_ext : ∀ (xs : List Stp) (cells : List Value), cells.length = xs.length * 2 → (∀ (i : Nat) (x : Stp), xs[i]? = some x → (cells.drop (i * 2)).take 2 = [num x.a, num x.b]) → cells = stepCells xs
  | [], cells, hl, _ => List.eq_nil_of_length_eq_zero (by simpa using hl)
  | x :: r, cells, hl, h => by
    have h0 := h 0 x rfl
    simp only [Nat.zero_mul, List.drop_zero] at h0
    have ih := stepCells_ext r (cells.drop 2) (by simp only [List.length_drop, List.length_cons] at *; omega) (fun i y hy => by
      rw [List.drop_drop, show 2 + i * 2 = (i + 1) * 2 by omega]
      exact h (i + 1) y (by simpa using hy))
    have e : cells = cells.take 2 ++ cells.drop 2 := (List.take_append_drop 2 cells).symm
    rw [e, h0, ih]
    rfl
theorem rows_steps {xs : List Stp} {v : Value} {h : PH} (r : RowsR 2 (fun (x : Stp) cs _ => cs = [num x.a, num x.b]) xs v h) : StepsR xs v h := by
  obtain ⟨cells, rr, hc⟩ := r
  rw [stepCells_ext xs cells rr.1 hc] at rr
  exact rr
section
variable {H : Type} {enc : TypeId × Value → H} {w : World} {base : Nat} {sp : Nat → Bool} {hd : Bool}
theorem rd_step {fuel : Nat} {cs : List Value} {x : DataW H × List MemPlace} (h : DataW.trod enc Try.prog w base sp hd fuel 143 cs = some x) : ∃ s : Stp, cs = [num s.a, num s.b] := by
  obtain ⟨hl, hf⟩ := rd_field Try.underlying143 h
  rw [cellsOf_ty ty_143] at hl
  obtain ⟨n0, y0, h0⟩ := hf 0 _ _ fd_143_0
  obtain ⟨n1, y1, h1⟩ := hf 1 _ _ fd_143_1
  rw [cellsOf_ty ty_3] at h0 h1
  obtain ⟨a, e0, _⟩ := rd_int Try.underlying3 h0
  obtain ⟨b, e1, _⟩ := rd_int Try.underlying3 h1
  match cs, hl with
  | [a', b'], _ =>
    simp at e0 e1
    subst e0 e1
    exact ⟨⟨a, b⟩, rfl⟩
theorem arg_steps {v : Value} {d : DataW H} {p : List MemPlace} {r : Reach} {b : Nat} (hv : Value.okWide Try.prog w r b 73 v) (h : DataW.Trod enc Try.prog w base sp hd 73 v d p) : ∃ ss, StepsR ss v (hp w) := by
  obtain ⟨a, len, cap, rfl⟩ := okWide_slice Try.underlying73 hv
  obtain ⟨f, hf⟩ := h
  obtain ⟨v', ss, e, hx⟩ := rd_rows (R := fun (x : Stp) cs _ => cs = [num x.a, num x.b]) Try.underlying73 (cellsOf_ty ty_143) (by decide) (fun h => rd_step h) hf
  simp [Value.cells] at e
  subst e
  exact ⟨ss, rows_steps hx⟩
end
end Go.Proofs.Ytikeobneipjfnaa
