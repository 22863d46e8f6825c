/-
  Arrays of integers in a variable of the call's own.
  Conditions: none.
-/
import Derived.Test.YtikeobneipjfnaaData
namespace Go.Proofs.Ytikeobneipjfnaa
set_option maxRecDepth 100000
open Go.RowKit
theorem aget {xs : List Int} {k o : Nat} (h : k < xs.length) (ho : o = 0 + k * 1) : (ints xs)[o]? = some (num (xs.getD k 0)) := by
  subst ho
  rw [Nat.zero_add, Nat.mul_one]
  exact ints_get h
section
variable {P : Program} {n : Nat} {w0 : World} {K : Env} {HS : List PH} {d : Option Tmp} {ty : TypeId} {ps : String} {af : Array Edge} {g : Option (Nat × Bool)}
/-- A whole variable is written anew. -/
theorem m_storeW {t : TypeId} {x y : Operand} {z : Value} {sz bytes : Nat} {agg : Bool} {b : Nat} {v : Value} {us cs : List Value} {bt : TypeId} (p : Nat) (ht : TyF P t z sz bytes agg) (hx : ev K x = some (.pointer (some ⟨b, 0, none⟩))) (hy : ev K y = some v)
    (hv : v.cells = us.toArray) (hl : us.length = sz) (h1 : ∀ u ∈ us, u.oneCell' = true) (hp' : HS[p]? = some (box b cs bt)) (hc : cs.length = sz) :
    StepX P n w0 K HS ⟨d, .store t x y, ty, ps, af, g⟩ (box b cs bt) (fun v' h' => v' = undef ∧ h' = box b us bt) := by
  have := m_store (P := P) (n := n) (w0 := w0) (d := d) (ty := ty) (ps := ps) (af := af) (g := g) p ht hx hy hv hl h1 hp' (by omega)
  have e : cs.take 0 ++ us ++ cs.drop (0 + us.length) = us := by
    rw [List.take_zero, List.nil_append, Nat.zero_add, hl, ← hc, List.drop_length, List.append_nil]
  rwa [e] at this
/-- An element of an array variable is written. -/
theorem m_storeA {t : TypeId} {x y : Operand} {z : Value} {bytes b o k : Nat} {a : Int} {xs : List Int} {bt : TypeId} (p : Nat) (ht : TyF P t z 1 bytes false) (hx : ev K x = some (.pointer (some ⟨b, o, none⟩))) (hy : ev K y = some (num a))
    (hp' : HS[p]? = some (box b (ints xs) bt)) (hk : k < xs.length) (ho : o = 0 + k * 1) :
    StepX P n w0 K HS ⟨d, .store t x y, ty, ps, af, g⟩ (box b (ints xs) bt) (fun v' h' => v' = undef ∧ h' = box b (ints (xs.set k a)) bt) := by
  subst ho
  rw [Nat.zero_add, Nat.mul_one] at hx
  have := m_store1 (P := P) (n := n) (w0 := w0) (d := d) (ty := ty) (ps := ps) (af := af) (g := g) p ht hx hy rfl hp' (by rw [ints_length]; exact hk)
  rwa [ints_set] at this
end
end Go.Proofs.Ytikeobneipjfnaa
