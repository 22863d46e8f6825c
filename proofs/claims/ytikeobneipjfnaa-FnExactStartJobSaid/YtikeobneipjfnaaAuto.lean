/-
  More laws of operations on slices: stores into a part of a slice, clearing, slices of bools.
  Conditions: none.
-/
import Derived.Test.YtikeobneipjfnaaNetOk2
namespace Go.Proofs.Ytikeobneipjfnaa
set_option maxRecDepth 100000
open Go.RowKit
theorem IntsR.subL {xs : List Int} {v : Value} {h : PH} (r : IntsR xs v h) {lo : Nat} (h1 : lo ≤ xs.length) : IntsR (xs.drop lo) (subV v lo xs.length 1) h := by
  have := r.sub (lo := lo) (hi := xs.length) h1 (Nat.le_refl _)
  rwa [List.take_of_length_le (by simp)] at this
theorem sub_get {cs us : List Value} {k n : Nat} (h : (cs.drop k).take n = us) {j : Nat} {u : Value} (hj : us[j]? = some u) : cs[k + j]? = some u := by
  rw [← h, List.getElem?_take] at hj
  split at hj
  · rwa [List.getElem?_drop] at hj
  · cases hj
theorem eltP_sub {cs : List Value} {m : Nat} {v : Value} {h : PH} (r : RowR cs m 1 v h) {lo hi k : Nat} (h1 : lo + k < hi) (h2 : hi ≤ m) : eltP (subV v lo hi 1) k = eltP v (lo + k) := by
  obtain ⟨hl, a, c, rfl, ⟨_, h3⟩, h4⟩ := r
  obtain ⟨b, o, rfl, _⟩ := h4 (by omega)
  have e : ¬ c = lo := by omega
  simp [subV, sliced, e, eltP, add_at, Nat.add_assoc]
section
variable {P : Program} {n : Nat} {w0 : World} {K : Env} {HS : List PH} {d : Option Tmp} {ty : TypeId} {ps : String} {af : Array Edge} {g : Option (Nat × Bool)}
/-- A store of an integer into a part of a slice of the call's own. -/
theorem m_storeSub {t : TypeId} {x y : Operand} {z : Value} {bytes : Nat} {agg : Bool} {lo hi k : Nat} {sv : Value} {a : Int} {xs : List Int} {h : PH} (p : Nat) (ht : TyF P t z 1 bytes agg) (hx : ev K x = some (eltP (subV sv lo hi 1) k)) (hy : ev K y = some (num a))
    (hp' : HS[p]? = some h) (r : IntsO xs sv h) (h1 : lo + k < hi) (h2 : hi ≤ xs.length) :
    StepX P n w0 K HS ⟨d, .store t x y, ty, ps, af, g⟩ h (fun v' h' => v' = undef ∧ IntsO (xs.set (lo + k) a) sv h') :=
  m_storeI p ht (by rw [hx, eltP_sub r.toR h1 h2]) hy hp' r (by omega)
/-- 'clear(s)' on a slice of integers of the call's own. -/
theorem m_clearI {t : TypeId} {x : Operand} {xs : List Int} {bytes : Nat} {v : Value} {h : PH} (p : Nat) (ht : P.underlying t = some (.slice 3)) (he : TyF P 3 (num 0) 1 bytes false) (hx : ev K x = some v) (hp' : HS[p]? = some h) (r : IntsO xs v h) :
    StepX P n w0 K HS ⟨d, .call ⟨.builtin .clear, #[x], #[t]⟩, ty, ps, af, g⟩ h (fun _ h' => IntsO (List.replicate xs.length 0) v h') :=
  stepx_run fun a w e s => by
    obtain ⟨i, hi, hz', hsz, hb⟩ := he.get
    have hle := s.get p hp'
    obtain ⟨hcl, hr⟩ := r
    have ex : ∀ v' w', (Builtin.clear_ #[t] ty #[v]).run P w = .ok v' w' → (execOp a.eval ⟨d, .call ⟨.builtin .clear, #[x], #[t]⟩, ty, ps, af, g⟩).run P w = .ok (.value v') w' := fun v' w' hr => by
      simp [execOp, resolve, invoke, builtin, e.ev hx, hr]
    rcases hr with ⟨rfl, h0, rfl⟩ | ⟨gb, cap, cur, rfl, rfl, h3, h4, h5, h6⟩
    · have hx0 : xs = [] := List.eq_nil_of_length_eq_zero (by simpa using h0)
      subst hx0
      exact ⟨.tuple #[], w, emp, ex _ _ (by simp [Builtin.clear_, run_underlying ht]), Upd.refl w, IntsO.nil⟩
    · by_cases h0 : xs.length = 0
      · have hx0 : xs = [] := List.eq_nil_of_length_eq_zero h0
        subst hx0
        exact ⟨.tuple #[], w, _, ex _ _ (by simp [Builtin.clear_, run_underlying ht]), ⟨rfl, rfl, rfl, Nat.le_refl _, fun _ _ _ => rfl, hle, fun j o ho => .inl (by rw [ho]; simp)⟩, rfl, .inr ⟨gb, cap, cur, rfl, rfl, h3, h4, h5, h6⟩⟩
      · have hgb : w.heap[gb]? = some (.cells cur.toArray 3 (0, 0)) := hle gb _ (by simp [box])
        have hz : (Builtin.zeroCells (num 0).cells xs.length).toList = ints (List.replicate xs.length 0) := by
          have := madeCells_toList [num 0] xs.length
          have e1 : (List.replicate xs.length [num 0]).flatten = ints (List.replicate xs.length 0) := by
            rw [List.flatten_replicate_singleton]; simp [ints]
          rw [← e1, ← this]
          rfl
        have hst := run_storeCells_at P gb 0 3 (ints (List.replicate xs.length 0)) 0 cur.toArray w hgb (by simp [ints]; omega) (ints_one _)
        simp only [Nat.add_zero] at hst
        refine ⟨.tuple #[], w.setRow gb (cur.take 0 ++ ints (List.replicate xs.length 0) ++ cur.drop (0 + (ints (List.replicate xs.length 0)).length)).toArray, _, ex _ _ ?_, upd_setRow hle _, by simp [ints], .inr ⟨gb, cap, _, by rw [List.length_replicate], rfl, by simpa using h3, h4, ?_, ?_⟩⟩
        · rw [show Builtin.clear_ #[t] ty #[.slice (some ⟨gb, 0, none⟩) xs.length cap] = (do
              match ← underlying t, (Value.slice (some ⟨gb, 0, none⟩) xs.length cap) with
              | _, .map none | _, .slice none _ _ | _, .slice _ 0 _ => pure ()
              | _, .map (some r) =>
                let .map _ clock ← getObj r | stuck "clear: map expected"
                setObj r (.map #[] clock)
              | .slice elem, .slice (some a) n _ => storeCells a (Builtin.zeroCells (← zeroValue elem).cells n).toList
              | _, _ => stuck "clear: map or slice expected"
              pure (.tuple #[])) from rfl]
          obtain ⟨m, hm⟩ : ∃ m, xs.length = m + 1 := ⟨xs.length - 1, by omega⟩
          rw [hm] at hz hst ⊢
          simp only [Sem.run_bind, run_underlying ht, Result.andThen_ok, run_zero he, hz, hst, Sem.run_pure]
        · simp only [ints_length, List.length_replicate, List.length_append, List.length_take, List.length_drop]; omega
        · simp only [ints_length, List.length_replicate, Nat.mul_one, List.take_zero, List.nil_append]
          rw [List.take_append_of_le_length (by simp [ints])]
          exact List.take_of_length_le (by simp [ints])
end
theorem ksub {K : Env} {t : Nat} {a b : Int} (h : K.lookup t = some (num a)) (e : a = b) : K.lookup t = some (num b) := e ▸ h
/-- A part beside another. -/
theorem Sat.getR {w0 w : World} {HS : List PH} (s : Sat w0 HS w) (i j : Nat) {h q : PH} (hi : HS[i]? = some h) (hj : HS[j]? = some q) (hne : decide (i ≠ j) = true) : PLe q (restP w h) := fun k o e => by
  have h1 := s.get j hj k o e
  rcases sepL_get s.sep hi hj (of_decide_eq_true hne) k with h2 | h2
  · simp only [restP, h2]; exact h1
  · rw [h2] at e; cases e
/-! ### slices of bools -/
def bools (xs : List Bool) : List Value := xs.map Value.bool
theorem bools_length (xs : List Bool) : (bools xs).length = xs.length := by simp [bools]
theorem bools_get {xs : List Bool} {k : Nat} (h : k < xs.length) : (bools xs)[k]? = some (.bool (xs.getD k false)) := by
  simp [bools, List.getD, h]
theorem bools_one (xs : List Bool) : ∀ a ∈ bools xs, a.oneCell' = true := by
  intro a ha
  simp only [bools, List.mem_map] at ha
  obtain ⟨x, _, rfl⟩ := ha
  rfl
theorem bools_append (xs ys : List Bool) : bools (xs ++ ys) = bools xs ++ bools ys := by simp [bools]
theorem bools_set (xs : List Bool) (k : Nat) (x : Bool) : (bools xs).set k (.bool x) = bools (xs.set k x) := by simp [bools, List.map_set]
def BoolsR (xs : List Bool) (v : Value) (h : PH) : Prop := RowR (bools xs) xs.length 1 v h
def BoolsO (xs : List Bool) (v : Value) (h : PH) : Prop := RowO 4 (bools xs) xs.length 1 v h
theorem BoolsR.mono {xs : List Bool} {v : Value} {h h' : PH} (r : BoolsR xs v h) (l : PLe h h') : BoolsR xs v h' := RowR.mono r l
theorem BoolsO.toR {xs : List Bool} {v : Value} {h : PH} (r : BoolsO xs v h) : BoolsR xs v h := RowO.toR r
theorem BoolsR.sl {xs : List Bool} {v : Value} {h : PH} (r : BoolsR xs v h) : SlL v xs.length := RowR.sl r
theorem BoolsR.le {xs : List Bool} {v : Value} {h : PH} (r : BoolsR xs v h) : (xs.length : Int) ≤ 9223372036854775807 := by
  obtain ⟨_, a, c, _, ⟨h, _⟩, _⟩ := r
  unfold maxLen at h
  omega
theorem BoolsO.nil : BoolsO [] (.slice none 0 0) emp := ⟨rfl, .inl ⟨rfl, rfl, rfl⟩⟩
section
variable {P : Program} {n : Nat} {w0 : World} {K : Env} {HS : List PH} {d : Option Tmp} {ty : TypeId} {ps : String} {af : Array Edge} {g : Option (Nat × Bool)}
theorem v_idxB {t e' : TypeId} {x ix : Operand} {z : Value} {bytes : Nat} {agg : Bool} {v : Value} {k : IntKind} {i : Int} {xs : List Bool} {h : PH} (ht : P.underlying t = some (.slice e')) (he : TyF P e' z 1 bytes agg)
    (hx : ev K x = some v) (hi : ev K ix = some (.int k i)) (r : BoolsR xs v h) (h0 : 0 ≤ i) (h1 : i < xs.length) : StepV P n w0 K HS ⟨d, .indexAddr t x ix, ty, ps, af, g⟩ (eltP v i.toNat) := by
  have := v_indexAddr (P := P) (n := n) (w0 := w0) (HS := HS) (d := d) (ty := ty) (ps := ps) (af := af) (g := g) ht he hx hi r (by decide) h0 h1
  rwa [Nat.mul_one] at this
theorem v_loadBl {t : TypeId} {z : Value} {bytes k : Nat} {x : Operand} {v : Value} {xs : List Bool} {h : PH} (p : Nat) (ht : TyF P t z 1 bytes false) (hx : ev K x = some (eltP v k)) (hp : HS[p]? = some h) (r : BoolsR xs v h) (hk : k < xs.length) :
    StepV P n w0 K HS ⟨d, .load t x, ty, ps, af, g⟩ (.bool (xs.getD k false)) := v_loadE p ht hx hp r (bools_get hk)
theorem m_storeBl {t : TypeId} {x y : Operand} {z : Value} {bytes : Nat} {agg : Bool} {k : Nat} {sv : Value} {a : Bool} {xs : List Bool} {h : PH} (p : Nat) (ht : TyF P t z 1 bytes agg) (hx : ev K x = some (eltP sv k)) (hy : ev K y = some (.bool a))
    (hp' : HS[p]? = some h) (r : BoolsO xs sv h) (hk : k < xs.length) :
    StepX P n w0 K HS ⟨d, .store t x y, ty, ps, af, g⟩ h (fun v' h' => v' = undef ∧ BoolsO (xs.set k a) sv h') := by
  have hk' : k < (bools xs).length := by rw [bools_length]; exact hk
  have := m_storeE (P := P) (n := n) (w0 := w0) (d := d) (ty := ty) (ps := ps) (af := af) (g := g) p ht hx hy (us := [.bool a]) rfl rfl (by simp [Value.oneCell']) hp' r (by decide) (by omega)
  rw [set_eq_parts hk', bools_set] at this
  unfold BoolsO
  rw [List.length_set]
  exact this
theorem x_makeBl {t : TypeId} {x y : Operand} {bytes : Nat} {m : Int} (ht : P.underlying t = some (.slice 4)) (he : TyF P 4 (.bool false) 1 bytes false)
    (hx : ev K x = some (.int .i64 m)) (hy : ev K y = some (.int .i64 m)) (h0 : 0 ≤ m) (h1 : bytes * m ≤ 281474976710656) (h2 : m ≤ 9223372036854775807) :
    StepX P n w0 K HS ⟨d, .makeSlice t x y, ty, ps, af, g⟩ emp (BoolsO (List.replicate m.toNat false)) := by
  have := x_make (P := P) (n := n) (w0 := w0) (HS := HS) (d := d) (ty := ty) (ps := ps) (af := af) (g := g) ht he (zs := [.bool false]) rfl rfl hx hy h0 h1 h2
  have e1 : (List.replicate m.toNat [Value.bool false]).flatten = bools (List.replicate m.toNat false) := by
    rw [List.flatten_replicate_singleton]; simp [bools]
  rw [e1] at this
  unfold BoolsO
  rw [List.length_replicate]
  exact this
theorem x_make0I {t : TypeId} {x y : Operand} {bytes : Nat} {m : Int} (ht : P.underlying t = some (.slice 3)) (he : TyF P 3 (num 0) 1 bytes false)
    (hx : ev K x = some (.int .i64 0)) (hy : ev K y = some (.int .i64 m)) (h0 : 0 ≤ m) (h1 : bytes * m ≤ 281474976710656) (h2 : m ≤ 9223372036854775807) :
    StepX P n w0 K HS ⟨d, .makeSlice t x y, ty, ps, af, g⟩ emp (IntsO []) :=
  x_make0 ht he (zs := [num 0]) rfl rfl hx hy h0 h1 h2
theorem m_appBl {t : TypeId} {x y : Operand} {xs ys : List Bool} {bytes : Nat} {v u : Value} {h hy' : PH} (p q : Nat) (ht : P.underlying t = some (.slice 4)) (he : TyF P 4 (.bool false) 1 bytes false) (hb : bytes = 1)
    (hx : ev K x = some v) (hy : ev K y = some u) (hp' : HS[p]? = some h) (r : BoolsO xs v h) (hq : HS[q]? = some hy') (ru : BoolsR ys u hy')
    (h47 : xs.length + ys.length ≤ 17592186044416) :
    StepX P n w0 K HS ⟨d, .call ⟨.builtin .append, #[x, y], #[t, t]⟩, ty, ps, af, g⟩ h (BoolsO (xs ++ ys)) := by
  subst hb
  have := m_append (P := P) (n := n) (w0 := w0) (HS := HS) (d := d) (ty := ty) (ps := ps) (af := af) (g := g) p q ht he (zs := [.bool false]) rfl rfl (by decide) hx hy hp' r hq ru (bools_one ys) (by unfold maxLen; omega) (by omega)
  unfold BoolsO
  rw [List.length_append, bools_append]
  exact this
end
/-! ### two ways that meet -/
section
variable {P : Program} {n : Nat} {w0 : World} {K : Env} {HS : List PH} {Q : Exit → Act → World → Prop}
def JoinQ {σ : Type} (n : Nat) (w0 : World) (T : σ → Prop) (Km : σ → Env) (Hm : σ → List PH) (Q : Exit → Act → World → Prop) : Exit → Act → World → Prop
  | .normal, a, w => ∃ x, T x ∧ EnvOK n (Km x) a ∧ Sat w0 (Hm x) w
  | e, a, w => Q e a w
theorem wp_join {σ : Type} {c y : Code} (T : σ → Prop) (Km : σ → Env) (Hm : σ → List PH) (h1 : WP P n w0 c (JoinQ n w0 T Km Hm Q) K HS) (h2 : ∀ x, T x → WP P n w0 y Q (Km x) (Hm x)) : WP P n w0 (.seq c y) Q K HS := fun a w e s => by
  refine wp_seq (Code.wp_mono (fun en a' w' q => ?_) (h1 a w e s))
  cases en with
  | normal => obtain ⟨x, t, e', s'⟩ := q; exact h2 x t a' w' e' s'
  | exit id => exact q
  | goto l => exact q
  | ret => exact q
  | panic ch => exact q
  | outgrown => exact q
theorem qs_join {σ : Type} {T : σ → Prop} {Km : σ → Env} {Hm : σ → List PH} (x : σ) (t : T x) (hk : SubK K (Km x)) (hs : ∀ w, Sat w0 HS w → Sat w0 (Hm x) w) : QS n w0 (JoinQ n w0 T Km Hm Q) .normal K HS := fun _ w e s => ⟨x, t, e.sub hk, hs w s⟩
theorem qs_jr {σ : Type} {T : σ → Prop} {Km : σ → Env} {Hm : σ → List PH} (h : QS n w0 Q .ret K HS) : QS n w0 (JoinQ n w0 T Km Hm Q) .ret K HS := h
theorem qs_jx {σ : Type} {T : σ → Prop} {Km : σ → Env} {Hm : σ → List PH} {id : Nat} (h : QS n w0 Q (.exit id) K HS) : QS n w0 (JoinQ n w0 T Km Hm Q) (.exit id) K HS := h
end
end Go.Proofs.Ytikeobneipjfnaa
