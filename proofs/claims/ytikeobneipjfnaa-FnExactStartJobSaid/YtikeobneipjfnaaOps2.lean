/-
  More operations' laws: comparisons of bools, composite literals, slice expressions.
  Conditions: none; every theorem here speaks of any program.
-/
import Derived.Test.YtikeobneipjfnaaMem
import Derived.Great.FillDense
import Derived.Great.BuildSlice
namespace Go.Proofs.Ytikeobneipjfnaa
open Go.RowKit
section
variable {P : Program} {n : Nat} {w0 : World} {K : Env} {HS : List PH} {d : Option Tmp} {ty : TypeId} {ps : String} {af : Array Edge} {g : Option (Nat × Bool)}
theorem maxDepth_succ : ∃ d, Op.maxDepth = d + 1 := ⟨9999, rfl⟩
theorem run_equalb {t : TypeId} {a b : Bool} {w : World} (ht : P.underlying t = some .bool) : (Op.equal t (.bool a) (.bool b)).run P w = .ok (a == b) w := by
  obtain ⟨d, hd⟩ := maxDepth_succ
  rw [Op.equal, hd]
  simp [Op.equalIn, run_underlying ht]
theorem v_eqlb {t t' : TypeId} {x y : Operand} {a b : Bool} (ht : P.underlying t = some .bool) (hx : ev K x = some (.bool a)) (hy : ev K y = some (.bool b)) : StepV P n w0 K HS ⟨d, .binOp .eql t x y t', ty, ps, af, g⟩ (.bool (decide (a = b))) :=
  fun ac w e _ => by
    have : (a == b) = decide (a = b) := by by_cases h : a = b <;> simp [h]
    simp only [execOp, e.ev hx, e.ev hy, eqGuard, binOp, Sem.run_bind, run_equalb ht, this, Sem.run_pure, Result.andThen_ok, Bool.not_true, Bool.false_eq_true, if_false]
theorem v_neqb {t t' : TypeId} {x y : Operand} {a b : Bool} (ht : P.underlying t = some .bool) (hx : ev K x = some (.bool a)) (hy : ev K y = some (.bool b)) : StepV P n w0 K HS ⟨d, .binOp .neq t x y t', ty, ps, af, g⟩ (.bool (decide (a ≠ b))) :=
  fun ac w e _ => by
    have : (!(a == b)) = decide (a ≠ b) := by cases a <;> cases b <;> rfl
    simp only [execOp, e.ev hx, e.ev hy, eqGuard, binOp, Sem.run_bind, run_equalb ht, this, Sem.run_pure, Result.andThen_ok, Bool.not_true, Bool.false_eq_true, if_false]
/-! ### slice expressions -/
def subV (v : Value) (lo hi sz : Nat) : Value := match v with
  | .slice a _ c => sliced a lo hi c sz
  | _ => v
theorem RowR.sub {cs : List Value} {m sz : Nat} {v : Value} {h : PH} (r : RowR cs m sz v h) {lo hi : Nat} (h1 : lo ≤ hi) (h2 : hi ≤ m) : RowR ((cs.drop (lo * sz)).take ((hi - lo) * sz)) (hi - lo) sz (subV v lo hi sz) h := by
  obtain ⟨hl, a, c, rfl, ⟨h3, h3'⟩, h4⟩ := r
  have hm : hi * sz ≤ m * sz := Nat.mul_le_mul_right _ h2
  have hlo : lo * sz ≤ hi * sz := Nat.mul_le_mul_right _ h1
  refine ⟨by simp only [List.length_take, List.length_drop, hl, Nat.sub_mul]; omega, _, _, rfl, ⟨by omega, by omega⟩, fun hp' => ?_⟩
  rw [Nat.sub_mul] at hp'
  obtain ⟨b, o, rfl, h5⟩ := h4 (by omega)
  have hne : lo < hi := by
    rcases Nat.lt_or_ge lo hi with h | h
    · exact h
    · have : lo = hi := by omega
      subst this; omega
  refine ⟨b, o + lo * sz, ?_, fun j u hu => ?_⟩
  · rw [if_neg (by omega)]
    simp [add_at]
  · rw [List.getElem?_take] at hu
    split at hu
    · rw [List.getElem?_drop] at hu
      rw [Nat.add_assoc]
      exact h5 _ _ hu
    · cases hu
theorem und_elem {t e' : TypeId} (ht : P.underlying t = some (.slice e')) : P.elem t = e' := by simp [Program.elem, ht]
theorem v_sliceLH {t e' : TypeId} {x lo hi : Operand} {z : Value} {sz bytes m : Nat} {agg : Bool} {cs : List Value} {v : Value} {kl kh : IntKind} {l u : Int} {h : PH} (ht : P.underlying t = some (.slice e')) (he : TyF P e' z sz bytes agg) (hx : ev K x = some v)
    (hlo : ev K lo = some (.int kl l)) (hhi : ev K hi = some (.int kh u)) (r : RowR cs m sz v h) (h0 : 0 ≤ l) (h1 : l ≤ u) (h2 : u ≤ m) : StepV P n w0 K HS ⟨d, .slice t x (some lo) (some hi) none, ty, ps, af, g⟩ (subV v l.toNat u.toNat sz) := fun a w e _ => by
  obtain ⟨_, ad, c, rfl, ⟨_, h3⟩, _⟩ := r
  have ht' : P.underlying t = some (.slice (P.elem t)) := by rw [und_elem ht]; exact ht
  have he' : (sizeOf (P.elem t)).run P w = .ok sz w := by rw [und_elem ht]; exact run_sizeOf he w
  simp [execOp, e.ev hx, e.ev hlo, e.ev hhi, run_sliceAt_slice w t _ _ _ _ ht', run_slice_lh w t ad m c ht' kl kh l u h0 h1 (by omega), he', subV]
theorem v_sliceH {t e' : TypeId} {x hi : Operand} {z : Value} {sz bytes m : Nat} {agg : Bool} {cs : List Value} {v : Value} {kh : IntKind} {u : Int} {h : PH} (ht : P.underlying t = some (.slice e')) (he : TyF P e' z sz bytes agg) (hx : ev K x = some v)
    (hhi : ev K hi = some (.int kh u)) (r : RowR cs m sz v h) (h0 : 0 ≤ u) (h2 : u ≤ m) : StepV P n w0 K HS ⟨d, .slice t x none (some hi) none, ty, ps, af, g⟩ (subV v 0 u.toNat sz) := fun a w e _ => by
  obtain ⟨_, ad, c, rfl, ⟨_, h3⟩, _⟩ := r
  have ht' : P.underlying t = some (.slice (P.elem t)) := by rw [und_elem ht]; exact ht
  have he' : (sizeOf (P.elem t)).run P w = .ok sz w := by rw [und_elem ht]; exact run_sizeOf he w
  simp [execOp, e.ev hx, e.ev hhi, run_sliceAt_slice w t _ _ _ _ ht', run_slice_h w t ad m c ht' kh u h0 (by omega), he', subV]
theorem v_sliceL {t e' : TypeId} {x lo : Operand} {z : Value} {sz bytes m : Nat} {agg : Bool} {cs : List Value} {v : Value} {kl : IntKind} {l : Int} {h : PH} (ht : P.underlying t = some (.slice e')) (he : TyF P e' z sz bytes agg) (hx : ev K x = some v)
    (hlo : ev K lo = some (.int kl l)) (r : RowR cs m sz v h) (h0 : 0 ≤ l) (h1 : l ≤ m) : StepV P n w0 K HS ⟨d, .slice t x (some lo) none none, ty, ps, af, g⟩ (subV v l.toNat m sz) := fun a w e _ => by
  obtain ⟨_, ad, c, rfl, ⟨_, h3⟩, _⟩ := r
  have ht' : P.underlying t = some (.slice (P.elem t)) := by rw [und_elem ht]; exact ht
  have he' : (sizeOf (P.elem t)).run P w = .ok sz w := by rw [und_elem ht]; exact run_sizeOf he w
  simp [execOp, e.ev hx, e.ev hlo, run_sliceAt_slice w t _ _ _ _ ht', run_slice_l w t ad m c ht' kl l h0 h1, he', subV]
/-! ### composite literals -/
def evP (K : Env) : List (Nat × Operand) → Option (List (Nat × Value))
  | [] => some []
  | (i, x) :: r => match ev K x, evP K r with
    | some v, some vs => some ((i, v) :: vs)
    | _, _ => none
theorem EnvOK.evP {a : Act} (h : EnvOK n K a) : ∀ {xs : List (Nat × Operand)} {vs : List (Nat × Value)}, Proofs.Ytikeobneipjfnaa.evP K xs = some vs → (xs.map fun p => (p.1, a.eval p.2)) = vs
  | [], vs, hx => by simp only [Proofs.Ytikeobneipjfnaa.evP, Option.some.injEq] at hx; simp [← hx]
  | (i, x) :: r, vs, hx => by
    simp only [Proofs.Ytikeobneipjfnaa.evP] at hx
    split at hx
    · rename_i v us h1 h2
      cases hx
      simp [h.ev h1, EnvOK.evP h h2]
    · cases hx
theorem v_build {t : TypeId} {parts : Array (Nat × Operand)} {vs : List (Nat × Value)} (cs : List Value) (hev : evP K parts.toList = some vs) (hb : P.built t vs = some cs.toArray) : StepV P n w0 K HS ⟨d, .build t parts, ty, ps, af, g⟩ (.agg cs.toArray) := fun a w e _ => by
  have hp1 : (parts.map fun x => (x.1, a.eval x.2)) = vs.toArray := by
    apply Array.ext'
    simpa using e.evP hev
  have hr := run_build (P := P) w t vs.toArray cs.toArray (by simpa using hb)
  simp [execOp, hp1, hr]
/-- A slice literal: its elements' cells, side by side. -/
theorem x_buildS {t e' : TypeId} {len : Nat} {parts : Array (Nat × Operand)} {z : Value} {sz bytes : Nat} {agg : Bool} {ps' : List (Nat × Value)} (vs : List Value) (ht : P.underlying t = some (.slice e')) (he : TyF P e' z sz bytes agg) (h0 : sz ≠ 0)
    (hev : evP K parts.toList = some ps') (hps : ps' = (vs.zipIdx 0).map fun x => (x.2, x.1)) (hlen : vs.length = len) (hpos : len ≠ 0) (hsm : len * sz ≤ 16777216) (h1 : ∀ v ∈ vs, v.cells.size = sz) :
    StepX P n w0 K HS ⟨d, .buildSlice t len parts, ty, ps, af, g⟩ emp (RowO e' (vs.flatMap fun v => v.cells.toList) len sz) :=
  stepx_run fun a w e _ => by
    obtain ⟨i, hi, hz', hs, hb⟩ := he.get
    subst hs
    have hp1 : (parts.map fun x => (x.1, a.eval x.2)) = ps'.toArray := by
      apply Array.ext'
      simpa using e.evP hev
    have hlp : len * i.size ≠ 0 := Nat.mul_ne_zero hpos h0
    have hf := Great.fill_whole (s := i.size) (by omega) vs ((Array.range (len * i.size)).map (z.cells[· % z.cells.size]!)) h1 (by simp [hlen])
    have hr := run_buildSlice (P := P) w t e' len ps'.toArray _ i z ht hi hz' (by omega) hlp (by rw [← hf, hps])
    have hfl : (vs.flatMap fun v => v.cells.toList).length = len * i.size := by
      rw [← hlen]
      clear hf hr hps hlen
      induction vs with
      | nil => simp
      | cons x r ih =>
        rw [List.flatMap_cons, List.length_append, ih (fun v hv => h1 v (by simp [hv])), Array.length_toList, h1 x (by simp), List.length_cons, Nat.add_mul]
        omega
    refine ⟨_, _, _, by simp [execOp, hp1, hr], upd_alloc w _ e', hfl, .inr ⟨_, _, _, rfl, rfl, Nat.le_refl _, by unfold maxLen; have := Nat.le_mul_of_pos_right len (Nat.pos_of_ne_zero h0); omega, hfl, ?_⟩⟩
    rw [← hfl, List.take_length]
/-- A slice literal without elements. -/
theorem x_build0 {t e' : TypeId} {z : Value} {sz bytes : Nat} {agg : Bool} (ht : P.underlying t = some (.slice e')) (he : TyF P e' z sz bytes agg) : StepX P n w0 K HS ⟨d, .buildSlice t 0 #[], ty, ps, af, g⟩ emp (RowO e' [] 0 sz) :=
  stepx_run fun a w e _ => by
    obtain ⟨i, hi, hz', hs, hb⟩ := he.get
    subst hs
    refine ⟨.slice (some ⟨w.heap.size, 0, none⟩) 0 0, w.alloc (.cells #[] e'), _, ?_, upd_alloc w [] e', by simp, .inr ⟨_, 0, [], rfl, rfl, Nat.le_refl _, by unfold maxLen; omega, by simp, by simp⟩⟩
    simp [execOp, Instr.buildSlice, run_underlying ht, sizeOf, typeInfo, hi, Instr.fill, newRow, show Array.range 0 = #[] from rfl]
theorem emp_sat {w : World} (s : Sat w0 HS w) : Sat w0 (emp :: HS) w := ⟨s.os, s.tape, s.output, s.size, ⟨fun _ _ => PDj.emp _, s.sep⟩, fun h hh => by
  rcases List.mem_cons.1 hh with rfl | hh
  · exact PLe.emp _
  · exact s.le h hh⟩
theorem stepx_emp {o : Oper} {T : Value → PH → Prop} (h : StepX P n w0 K (emp :: HS) o emp T) : StepX P n w0 K HS o emp T := fun a w e s => h a w e (emp_sat s)
theorem v_shl {t t' : TypeId} {x y : Operand} {yk : IntKind} {a b : Int} (hx : ev K x = some (.int .i64 a)) (hy : ev K y = some (.int yk b)) (h0 : 0 ≤ b) (h1 : b ≤ 64) (h2 : I64 (a * 2 ^ b.toNat)) : StepV P n w0 K HS ⟨d, .binOp .shl t x y t', ty, ps, af, g⟩ (.int .i64 (a * 2 ^ b.toNat)) :=
  fun ac w e _ => by
    have h2' : ¬ b < 0 := by omega
    have h3 : min b.toNat IntKind.i64.bits = b.toNat := by have : IntKind.i64.bits = 64 := rfl; omega
    have h5 : (Op.shift .shl .i64 a yk b).run P w = .ok (.int .i64 (a * 2 ^ b.toNat)) w := by
      unfold Op.shift
      rw [if_neg h2']
      simp only [h3, h2.wrap]
      rfl
    simp only [execOp, e.ev hx, e.ev hy, eqGuard, binOp, Sem.run_bind]
    rw [show (if (!(match BinOp.shl with | .eql => true | .neq => true | _ => false)) = true then (pure () : Sem Unit) else pure ()) = pure () by rfl]
    rw [Sem.run_pure, Result.andThen_ok, h5, Result.andThen_ok]
    rfl
/-- An element of an array that is a value. -/
theorem v_indexA {t e' : TypeId} {x ix : Operand} {z u : Value} {bytes len : Nat} {k : IntKind} {i : Int} {cs : List Value} (ht : P.underlying t = some (.array len e')) (he : TyF P e' z 1 bytes false)
    (hx : ev K x = some (.agg cs.toArray)) (hi : ev K ix = some (.int k i)) (h0 : 0 ≤ i) (h1 : i < len) (hc : cs[i.toNat]? = some u) : StepV P n w0 K HS ⟨d, .index t x ix, ty, ps, af, g⟩ u := fun a w e _ => by
  simp [execOp, e.ev hx, e.ev hi, Instr.index, asIntOf, run_underlying ht, h0, h1, run_sizeOf he, part, run_isAgg he, hc]
theorem SlL.one {v : Value} {m : Nat} (h : SlL v m) : v.oneCell' = true := by obtain ⟨_, _, rfl⟩ := h; rfl
theorem one_int (k : IntKind) (x : Int) : (Value.int k x).oneCell' = true := rfl
/-! ### parting on a bool that is a negation -/
variable {Q : Exit → Act → World → Prop}
theorem sq_bn {ops : Array Oper} {rest : List Oper} {b : Bool} (t : Tmp) (hk : K.lookup t = some (.bool (!b))) (h1 : b = false → SQ P n w0 ops rest Q ((t, .bool true) :: K) HS) (h2 : b = true → SQ P n w0 ops rest Q ((t, .bool false) :: K) HS) : SQ P n w0 ops rest Q K HS :=
  sq_bb t hk (fun h => h1 (by simpa using h)) (fun h => h2 (by simpa using h))
theorem sq_bnd {ops : Array Oper} {rest : List Oper} {p : Prop} [Decidable p] (t : Tmp) (hk : K.lookup t = some (.bool (!decide p))) (h1 : ¬ p → SQ P n w0 ops rest Q ((t, .bool true) :: K) HS) (h2 : p → SQ P n w0 ops rest Q ((t, .bool false) :: K) HS) : SQ P n w0 ops rest Q K HS :=
  sq_bb t hk (fun h => h1 (by simpa using h)) (fun h => h2 (by simpa using h))
theorem rj_bn {ops : Array Oper} {m : Nat} {r : List (Nat × Bool)} {listed : Array Bool} {b : Bool} (t : Tmp) (hk : K.lookup t = some (.bool (!b))) (h1 : b = false → RJ P n w0 ops m Q r listed ((t, .bool true) :: K) HS) (h2 : b = true → RJ P n w0 ops m Q r listed ((t, .bool false) :: K) HS) : RJ P n w0 ops m Q r listed K HS :=
  rj_bb t hk (fun h => h1 (by simpa using h)) (fun h => h2 (by simpa using h))
theorem rj_bnd {ops : Array Oper} {m : Nat} {r : List (Nat × Bool)} {listed : Array Bool} {p : Prop} [Decidable p] (t : Tmp) (hk : K.lookup t = some (.bool (!decide p))) (h1 : ¬ p → RJ P n w0 ops m Q r listed ((t, .bool true) :: K) HS) (h2 : p → RJ P n w0 ops m Q r listed ((t, .bool false) :: K) HS) : RJ P n w0 ops m Q r listed K HS :=
  rj_bb t hk (fun h => h1 (by simpa using h)) (fun h => h2 (by simpa using h))
end
end Go.Proofs.Ytikeobneipjfnaa
