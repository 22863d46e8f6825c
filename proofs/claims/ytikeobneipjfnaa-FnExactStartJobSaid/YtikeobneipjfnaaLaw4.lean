/-
  The law's helpers once more, in the words that its walks want: copies, marks, comparisons of what is the same.
  Conditions: none.
-/
import Derived.Test.YtikeobneipjfnaaLaw3
import Derived.Test.YtikeobneipjfnaaAuto
namespace Go.Proofs.Ytikeobneipjfnaa
set_option maxRecDepth 100000
open Go.RowKit
section
variable {P : Program} {n : Nat} {w0 : World} {K : Env} {HS : List PH} {d : Option Tmp} {ty : TypeId} {ps : String} {af : Array Edge} {g : Option (Nat × Bool)}
theorem v_eqls {t t' : TypeId} {x y : Operand} {k : IntKind} {a : Int} (hx : ev K x = some (.int k a)) (hy : ev K y = some (.int k a)) : StepV P n w0 K HS ⟨d, .binOp .eql t x y t', ty, ps, af, g⟩ (.bool true) := by
  have := v_eql (P := P) (n := n) (w0 := w0) (HS := HS) (d := d) (t := t) (t' := t') (ty := ty) (ps := ps) (af := af) (g := g) hx hy
  simpa using this
theorem v_neqs {t t' : TypeId} {x y : Operand} {k : IntKind} {a : Int} (hx : ev K x = some (.int k a)) (hy : ev K y = some (.int k a)) : StepV P n w0 K HS ⟨d, .binOp .neq t x y t', ty, ps, af, g⟩ (.bool false) := by
  have := v_neq (P := P) (n := n) (w0 := w0) (HS := HS) (d := d) (t := t) (t' := t') (ty := ty) (ps := ps) (af := af) (g := g) hx hy
  simpa using this
theorem v_eqlsb {t t' : TypeId} {x y : Operand} {a : Bool} (ht : P.underlying t = some .bool) (hx : ev K x = some (.bool a)) (hy : ev K y = some (.bool a)) : StepV P n w0 K HS ⟨d, .binOp .eql t x y t', ty, ps, af, g⟩ (.bool true) := by
  have := v_eqlb (P := P) (n := n) (w0 := w0) (HS := HS) (d := d) (t := t) (t' := t') (ty := ty) (ps := ps) (af := af) (g := g) ht hx hy
  simpa using this
theorem v_neqsb {t t' : TypeId} {x y : Operand} {a : Bool} (ht : P.underlying t = some .bool) (hx : ev K x = some (.bool a)) (hy : ev K y = some (.bool a)) : StepV P n w0 K HS ⟨d, .binOp .neq t x y t', ty, ps, af, g⟩ (.bool false) := by
  have := v_neqb (P := P) (n := n) (w0 := w0) (HS := HS) (d := d) (t := t) (t' := t') (ty := ty) (ps := ps) (af := af) (g := g) ht hx hy
  simpa using this
end
/-- A network that owns its parts, as a call returns it. -/
def NetT (k p n : Int) (ts : List Ten) (op : List Int) (u : Value) (h : PH) : Prop := ∃ vt vo, u = netV k p n vt vo ∧ NetO ts op vt vo h
theorem ct_L_toNetwork (k p n : Int) (ts : List Ten) (op : List Int) (vt vo : Value) (w : World) (r : TensR ts vt (hp w)) (r' : IntsR op vo (hp w)) (hs : ts.length + tensSize ts + op.length ≤ 1048576) :
    Calls Try.prog 28 [netV k p n vt vo].toArray w (Ret w emp (NetT k p n ts op)) := ct_l_toNetwork k p n ts op vt vo w r r' hs
/-- The marks of a network. -/
def NetM (vt vo : Value) (k e : Int) (u : Value) (h : PH) : Prop := u = num e ∧ ∃ ts op, NetO ts op vt vo h ∧ HeldL k (flat ts ++ [op]) e
theorem ct_L_markNetwork (kd p n : Int) (ts : List Ten) (op : List Int) (vt vo : Value) (k : Int) (w : World) (h : PH) (hle : PLe h (hp w)) (r : NetO ts op vt vo h) (hk : 0 ≤ k ∧ k + tensSize ts + op.length ≤ 4611686018427387904) :
    Calls Try.prog 32 [netV kd p n vt vo, num k].toArray w (Ret w h (NetM vt vo k (k + tensSize ts + op.length))) := ct_l_markNetwork kd p n ts op vt vo k w h hle r hk
theorem ct_L_heldIntS (m : Nat) (v : Value) (k : Int) (w : World) (r : IntsR (iota k m) v (hp w)) (hk : 0 ≤ k ∧ k + m ≤ 4611686018427387904) :
    Calls Try.prog 48 [v, num k].toArray w (RetV w (num (k + m))) := by
  have := ct_l_heldIntS (iota k m) v k w r (iota_held _ _) (by rw [iota_len]; exact hk)
  rwa [iota_len] at this
/-! ### tensors -/
def TriO (t : Ten) (a b c : Value) (h : PH) : Prop := ∃ h1 h2 h3, IntsO t.l a h1 ∧ IntsO t.d b h2 ∧ IntsO t.x c h3 ∧ Made h [h1, h2, h3]
theorem TriO.toR {t : Ten} {a b c : Value} {h : PH} (r : TriO t a b c h) : IntsR t.l a h ∧ IntsR t.d b h ∧ IntsR t.x c h := by
  obtain ⟨h1, h2, h3, r1, r2, r3, m⟩ := r
  exact ⟨r1.toR.mono (m.le h1 (by simp)), r2.toR.mono (m.le h2 (by simp)), r3.toR.mono (m.le h3 (by simp))⟩
def TenT (t : Ten) (u : Value) (h : PH) : Prop := ∃ a b c, u = tenV a b c ∧ TriO t a b c h
theorem TenO.tenT {t : Ten} {u : Value} {h : PH} (r : TenO t u h) : TenT t u h := by
  obtain ⟨a, b, c, h1, h2, h3, e, r1, r2, r3, m⟩ := r
  exact ⟨a, b, c, e, h1, h2, h3, r1, r2, r3, m⟩
theorem ct_L_toTensor (t : Ten) (a b c : Value) (w : World) (r1 : IntsR t.l a (hp w)) (r2 : IntsR t.d b (hp w)) (r3 : IntsR t.x c (hp w)) (hs : tenSize t ≤ 1048576) :
    Calls Try.prog 18 [tenV a b c].toArray w (Ret w emp (TenT t)) := (ct_l_toTensor t a b c w r1 r2 r3 hs).mono fun _ _ h => let ⟨v, h', h1, h2, h3⟩ := h; ⟨v, h', h1, h2, h3.tenT⟩
def TenM (a b c : Value) (k e : Int) (u : Value) (h : PH) : Prop := u = num e ∧ ∃ t, TriO t a b c h ∧ HeldL k [t.l, t.d, t.x] e
end Go.Proofs.Ytikeobneipjfnaa
