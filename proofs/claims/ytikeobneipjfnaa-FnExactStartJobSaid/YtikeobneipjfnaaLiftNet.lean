/-
  Tensors and networks as the law is handed them.
  Conditions: none.
-/
import Derived.Test.YtikeobneipjfnaaLaw3
import Derived.Test.YtikeobneipjfnaaLiftRing
namespace Go.Proofs.Ytikeobneipjfnaa
set_option maxRecDepth 100000
open Go.ChangeShapes Go.WideShapes Go.ChangeAt Go.RowKit
section
variable {H : Type} {enc : TypeId × Value → H} {w : World} {base : Nat} {sp : Nat → Bool} {hd : Bool}
theorem rd_ten {fuel : Nat} {cs : List Value} {x : DataW H × List MemPlace} (h : DataW.trod enc Try.prog w base sp hd fuel 26 cs = some x) : ∃ t, TenR t cs (hp w) := by
  obtain ⟨hl, hf⟩ := rd_field Try.underlying26 h
  rw [cellsOf_ty ty_26] at hl
  obtain ⟨n0, y0, h0⟩ := hf 0 _ _ fd_26_0
  obtain ⟨n1, y1, h1⟩ := hf 1 _ _ fd_26_1
  obtain ⟨n2, y2, h2⟩ := hf 2 _ _ fd_26_2
  rw [cellsOf_ty ty_24] at h0 h1 h2
  obtain ⟨a, l, e0, r0, _⟩ := rd_ints Try.underlying24 Try.underlying3 (cellsOf_ty ty_3) h0
  obtain ⟨b, d, e1, r1, _⟩ := rd_ints Try.underlying24 Try.underlying3 (cellsOf_ty ty_3) h1
  obtain ⟨c, xs, e2, r2, _⟩ := rd_ints Try.underlying24 Try.underlying3 (cellsOf_ty ty_3) h2
  match cs, hl with
  | [a', b', c'], _ =>
    simp at e0 e1 e2
    subst e0 e1 e2
    exact ⟨⟨l, d, xs⟩, _, _, _, rfl, r0, r1, r2⟩
theorem arg_network {v : Value} {d : DataW H} {p : List MemPlace} {r : Reach} {b : Nat} (hv : Value.okWide Try.prog w r b 41 v) (h : DataW.Trod enc Try.prog w base sp hd 41 v d p) : ∃ k m q ts op vt vo, v = netV k m q vt vo ∧ TensR ts vt (hp w) ∧ IntsR op vo (hp w) := by
  obtain ⟨cs, rfl, _⟩ := okWide_struct Try.underlying41 hv
  obtain ⟨f, hf⟩ := h
  obtain ⟨hl, hf⟩ := rd_field Try.underlying41 hf
  rw [cellsOf_ty ty_41] at hl
  obtain ⟨n0, y0, h0⟩ := hf 0 _ _ fd_41_0
  obtain ⟨n1, y1, h1⟩ := hf 1 _ _ fd_41_1
  obtain ⟨n2, y2, h2⟩ := hf 2 _ _ fd_41_2
  rw [cellsOf_ty ty_23] at h0
  rw [cellsOf_ty ty_39] at h1
  rw [cellsOf_ty ty_24] at h2
  obtain ⟨k, m, q, e0, _⟩ := rd_ring h0
  obtain ⟨vt, ts, e1, rt⟩ := rd_rows (R := TenR) Try.underlying39 (cellsOf_ty ty_26) (by decide) (fun h => rd_ten h) h1
  obtain ⟨vo, op, e2, ro, _⟩ := rd_ints Try.underlying24 Try.underlying3 (cellsOf_ty ty_3) h2
  obtain ⟨l⟩ := cs
  simp only [Value.cells] at hl e0 e1 e2
  match l, hl with
  | [a1, a2, a3, a4, a5], _ =>
    simp at e0 e1 e2
    obtain ⟨rfl, rfl, rfl⟩ := e0
    subst e1 e2
    exact ⟨k, m, q, ts, op, _, _, rfl, rt, ro⟩
end
end Go.Proofs.Ytikeobneipjfnaa
