/-
  How this claim's data lie in a part of the heap: slices of integers, read and owned.
  Conditions: none.
-/
import Derived.Test.YtikeobneipjfnaaTypes
namespace Go.Proofs.Ytikeobneipjfnaa
open Go.RowKit

abbrev num (x : Int) : Value := .int .i64 x
def ints (xs : List Int) : List Value := xs.map num
theorem ints_length (xs : List Int) : (ints xs).length = xs.length := by simp [ints]
theorem ints_get {xs : List Int} {k : Nat} (h : k < xs.length) : (ints xs)[k]? = some (num (xs.getD k 0)) := by
  simp [ints, List.getD, h]
theorem ints_one (xs : List Int) : ∀ a ∈ ints xs, a.oneCell' = true := by
  intro a ha
  simp only [ints, List.mem_map] at ha
  obtain ⟨x, _, rfl⟩ := ha
  rfl
theorem ints_append (xs ys : List Int) : ints (xs ++ ys) = ints xs ++ ints ys := by simp [ints]
theorem ints_set (xs : List Int) (k : Nat) (x : Int) : (ints xs).set k (num x) = ints (xs.set k x) := by simp [ints, List.map_set]

/-- In 'h', 'v' reads as the integers xs. -/
def IntsR (xs : List Int) (v : Value) (h : PH) : Prop := RowR (ints xs) xs.length 1 v h
/-- 'v' is a slice of the integers xs whose array is 'h' and nobody else's. -/
def IntsO (xs : List Int) (v : Value) (h : PH) : Prop := RowO 3 (ints xs) xs.length 1 v h
theorem IntsR.mono {xs : List Int} {v : Value} {h h' : PH} (r : IntsR xs v h) (l : PLe h h') : IntsR xs v h' := RowR.mono r l
theorem IntsO.toR {xs : List Int} {v : Value} {h : PH} (r : IntsO xs v h) : IntsR xs v h := RowO.toR r
theorem IntsR.sl {xs : List Int} {v : Value} {h : PH} (r : IntsR xs v h) : SlL v xs.length := RowR.sl r
theorem IntsR.le {xs : List Int} {v : Value} {h : PH} (r : IntsR xs v h) : (xs.length : Int) ≤ 9223372036854775807 := by
  obtain ⟨_, a, c, _, ⟨h, _⟩, _⟩ := r
  unfold maxLen at h
  omega
theorem IntsO.nil : IntsO [] (.slice none 0 0) emp := ⟨rfl, .inl ⟨rfl, rfl, rfl⟩⟩
theorem IntsR.nil (h : PH) : IntsR [] (.slice none 0 0) h := (IntsO.nil.toR).mono (PLe.emp h)

/-- A slice of elements of 'sz' cells each, read by R. -/
def RowsR {α : Type} (sz : Nat) (R : α → List Value → PH → Prop) (xs : List α) (v : Value) (h : PH) : Prop :=
  ∃ cells, RowR cells xs.length sz v h ∧ ∀ (i : Nat) (x : α), xs[i]? = some x → R x ((cells.drop (i * sz)).take sz) h
theorem RowsR.mono {α : Type} {sz : Nat} {R : α → List Value → PH → Prop} (hR : ∀ {x cs h h'}, R x cs h → PLe h h' → R x cs h') {xs : List α} {v : Value} {h h' : PH} (r : RowsR sz R xs v h) (l : PLe h h') : RowsR sz R xs v h' :=
  let ⟨c, h1, h2⟩ := r; ⟨c, h1.mono l, fun i x hx => hR (h2 i x hx) l⟩
theorem RowsR.sl {α : Type} {sz : Nat} {R : α → List Value → PH → Prop} {xs : List α} {v : Value} {h : PH} (r : RowsR sz R xs v h) : SlL v xs.length := let ⟨_, h1, _⟩ := r; h1.sl
theorem RowsR.le {α : Type} {sz : Nat} {R : α → List Value → PH → Prop} {xs : List α} {v : Value} {h : PH} (r : RowsR sz R xs v h) : (xs.length : Int) ≤ 9223372036854775807 := by
  obtain ⟨_, ⟨_, a, c, _, ⟨h, _⟩, _⟩, _⟩ := r
  unfold maxLen at h
  omega

section
variable {P : Program} {n : Nat} {w0 : World} {K : Env} {HS : List PH} {d : Option Tmp} {ty : TypeId} {ps : String} {af : Array Edge} {g : Option (Nat × Bool)}
theorem v_idxI {t e' : TypeId} {x ix : Operand} {z : Value} {bytes : Nat} {agg : Bool} {v : Value} {k : IntKind} {i : Int} {xs : List Int} {h : PH} (ht : P.underlying t = some (.slice e')) (he : TyF P e' z 1 bytes agg)
    (hx : ev K x = some v) (hi : ev K ix = some (.int k i)) (r : IntsR xs v h) (h0 : 0 ≤ i) (h1 : i < xs.length) : StepV P n w0 K HS ⟨d, .indexAddr t x ix, ty, ps, af, g⟩ (eltP v i.toNat) := by
  have := v_indexAddr (P := P) (n := n) (w0 := w0) (HS := HS) (d := d) (ty := ty) (ps := ps) (af := af) (g := g) ht he hx hi r (by decide) h0 h1
  rwa [Nat.mul_one] at this
theorem v_loadI {t : TypeId} {z : Value} {bytes k : Nat} {x : Operand} {v : Value} {xs : List Int} {h : PH} (p : Nat) (ht : TyF P t z 1 bytes false) (hx : ev K x = some (eltP v k)) (hp : HS[p]? = some h) (r : IntsR xs v h) (hk : k < xs.length) :
    StepV P n w0 K HS ⟨d, .load t x, ty, ps, af, g⟩ (num (xs.getD k 0)) := v_loadE p ht hx hp r (ints_get hk)
/-- A store of an integer into a slice of the call's own. -/
theorem m_storeI {t : TypeId} {x y : Operand} {z : Value} {bytes : Nat} {agg : Bool} {k : Nat} {sv : Value} {a : Int} {xs : List Int} {h : PH} (p : Nat) (ht : TyF P t z 1 bytes agg) (hx : ev K x = some (eltP sv k)) (hy : ev K y = some (num a))
    (hp' : HS[p]? = some h) (r : IntsO xs sv h) (hk : k < xs.length) :
    StepX P n w0 K HS ⟨d, .store t x y, ty, ps, af, g⟩ h (fun v' h' => v' = undef ∧ IntsO (xs.set k a) sv h') := by
  have hk' : k < (ints xs).length := by rw [ints_length]; exact hk
  have := m_storeE (P := P) (n := n) (w0 := w0) (d := d) (ty := ty) (ps := ps) (af := af) (g := g) p ht hx hy (us := [num a]) rfl rfl (by simp [Value.oneCell']) hp' r (by decide) (by omega)
  rw [set_eq_parts hk', ints_set] at this
  unfold IntsO
  rw [List.length_set]
  exact this
theorem x_makeI {t : TypeId} {x y : Operand} {bytes : Nat} {m : Int} (ht : P.underlying t = some (.slice 3)) (he : TyF P 3 (num 0) 1 bytes false)
    (hx : ev K x = some (.int .i64 m)) (hy : ev K y = some (.int .i64 m)) (h0 : 0 ≤ m) (h1 : bytes * m ≤ 281474976710656) (h2 : m ≤ 9223372036854775807) :
    StepX P n w0 K HS ⟨d, .makeSlice t x y, ty, ps, af, g⟩ emp (IntsO (List.replicate m.toNat 0)) := by
  have := x_make (P := P) (n := n) (w0 := w0) (HS := HS) (d := d) (ty := ty) (ps := ps) (af := af) (g := g) ht he (zs := [num 0]) rfl rfl hx hy h0 h1 h2
  have e1 : (List.replicate m.toNat [num 0]).flatten = ints (List.replicate m.toNat 0) := by
    rw [List.flatten_replicate_singleton]; simp [ints]
  rw [e1] at this
  unfold IntsO
  rw [List.length_replicate]
  exact this
/-- 'append(s, x...)', integers. -/
theorem m_appI {t : TypeId} {x y : Operand} {xs ys : List Int} {bytes : Nat} {v u : Value} {h hy' : PH} (p q : Nat) (ht : P.underlying t = some (.slice 3)) (he : TyF P 3 (num 0) 1 bytes false) (hb : bytes = 8)
    (hx : ev K x = some v) (hy : ev K y = some u) (hp' : HS[p]? = some h) (r : IntsO xs v h) (hq : HS[q]? = some hy') (ru : IntsR ys u hy')
    (h47 : xs.length + ys.length ≤ 17592186044416) :
    StepX P n w0 K HS ⟨d, .call ⟨.builtin .append, #[x, y], #[t, t]⟩, ty, ps, af, g⟩ h (IntsO (xs ++ ys)) := by
  subst hb
  have := m_append (P := P) (n := n) (w0 := w0) (HS := HS) (d := d) (ty := ty) (ps := ps) (af := af) (g := g) p q ht he (zs := [num 0]) rfl rfl (by decide) hx hy hp' r hq ru (ints_one ys) (by unfold maxLen; omega) (by omega)
  unfold IntsO
  rw [List.length_append, ints_append]
  exact this
end
end Go.Proofs.Ytikeobneipjfnaa
