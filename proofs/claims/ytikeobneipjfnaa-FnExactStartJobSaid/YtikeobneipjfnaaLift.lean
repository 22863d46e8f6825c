/-
  From the form's own reading of an argument to the facts of this claim's logic, and back: what a law's row asks behind the call.
  Conditions: none.
-/
import Derived.Test.YtikeobneipjfnaaData
import Derived.ProofKit
namespace Go.Proofs.Ytikeobneipjfnaa
open Go.ChangeShapes Go.WideShapes Go.ChangeAt Go.RowKit

theorem lift_own : ownKnob Try.prog.godebug = none := by kernel_rfl
theorem lift_laid : laidOutB Try.prog = true := by kernel_rfl

section
variable {H : Type} {enc : TypeId × Value → H} {P : Program} {w : World} {base : Nat} {sp : Nat → Bool} {hd : Bool}
theorem trodAll_below {W W' : World} (hl : laidOutB P = true) (hb : Below W.heap.size W W') : ∀ {ts : List TypeId} {vs : List Value} {ds : List (DataW H)} {ps : List MemPlace},
    (ts.all fun t => P.readableRec t && decide (t < P.types.size)) = true → DataW.TrodAll enc P W 0 (fun _ => true) true ts vs ds ps → (∀ x ∈ ps, x.block < W.heap.size) →
    DataW.TrodAll enc P W' 0 (fun b => decide (b < W.heap.size)) true ts vs ds ps
  | [], [], [], _, _, h, _ => h
  | t :: ts, v :: vs, d :: ds, ps, hr, h, hlt => by
    simp only [List.all_cons, Bool.and_eq_true, decide_eq_true_eq] at hr
    obtain ⟨p, q, h1, h2, rfl⟩ := h
    exact ⟨p, q, Below.trod hl hr.1.1 hr.1.2 h1 hb (fun x hx => hlt x (by simp [hx])), trodAll_below hl hb hr.2 h2 (fun x hx => hlt x (by simp [hx])), rfl⟩

/-! ### cells -/
theorem rd_int {t : TypeId} {fuel : Nat} {cs : List Value} {x : DataW H × List MemPlace} (ht : P.underlying t = some (.int .i64)) (h : DataW.trod enc P w base sp hd fuel t cs = some x) : ∃ m, cs = [num m] ∧ I64 m := by
  obtain ⟨m, rfl, _, hw⟩ := DataW.trod_int ht h
  refine ⟨m, rfl, ?_⟩
  simp only [Lit.wf, Bool.and_eq_true, decide_eq_true_eq] at hw
  have e1 : IntKind.i64.min = -9223372036854775808 := rfl
  have e2 : IntKind.i64.max = 9223372036854775807 := rfl
  unfold I64
  omega
theorem mapM_length {α β : Type} {f : α → Option β} : ∀ {l : List α} {r : List β}, l.mapM f = some r → r.length = l.length
  | [], r, h => by simp at h; subst h; rfl
  | a :: l, r, h => by
    cases ha : f a with
    | none => simp [ha] at h
    | some b =>
      cases hl : l.mapM f with
      | none => simp [ha, hl] at h
      | some ys =>
        simp [ha, hl] at h
        subst h
        simp [mapM_length hl]
/-- The cells of a row, all together. -/
theorem flat_get {sz : Nat} : ∀ {ls : List (List Value)} (_ : ∀ l ∈ ls, l.length = sz) {i : Nat} {l : List Value}, ls[i]? = some l → (ls.flatten.drop (i * sz)).take sz = l
  | [], _, i, l, h => by simp at h
  | x :: ls, hl, 0, l, h => by
    simp at h; subst h
    have := hl x (by simp)
    simp [← this]
  | x :: ls, hl, i + 1, l, h => by
    have hx := hl x (by simp)
    rw [List.flatten_cons, Nat.add_mul, Nat.one_mul, Nat.add_comm, ← List.drop_drop, ← hx, List.drop_left, hx]
    exact flat_get (fun l h => hl l (by simp [h])) (by simpa using h)
theorem flat_length {sz : Nat} : ∀ {ls : List (List Value)} (_ : ∀ l ∈ ls, l.length = sz), ls.flatten.length = ls.length * sz
  | [], _ => by simp
  | x :: ls, hl => by
    rw [List.flatten_cons, List.length_append, flat_length (fun l h => hl l (by simp [h])), hl x (by simp), List.length_cons, Nat.add_mul, Nat.one_mul, Nat.add_comm]
theorem choose_list {α : Type} {p : Nat → α → Prop} : ∀ (n : Nat), (∀ i, i < n → ∃ x, p i x) → ∃ l : List α, l.length = n ∧ ∀ (i : Nat) (x : α), l[i]? = some x → p i x
  | 0, _ => ⟨[], rfl, fun i x h => by simp at h⟩
  | n + 1, h => by
    obtain ⟨l, h1, h2⟩ := choose_list n (fun i hi => h i (by omega))
    obtain ⟨x, hx⟩ := h n (by omega)
    refine ⟨l ++ [x], by simp [h1], fun i y hy => ?_⟩
    by_cases hi : i < n
    · exact h2 i y (by rwa [List.getElem?_append_left (by omega)] at hy)
    · have hlt := (List.getElem?_eq_some_iff.1 hy).1
      simp at hlt
      have : i = n := by omega
      subst this
      rw [List.getElem?_append_right (by omega), h1] at hy
      simp at hy
      subst hy
      exact hx
/-- A slice, element by element. -/
theorem rd_rows {α : Type} {t e' : TypeId} {sz : Nat} {R : α → List Value → PH → Prop} {fuel : Nat} {cs : List Value} {x : DataW H × List MemPlace} (ht : P.underlying t = some (.slice e')) (hsz : P.cellsOf e' = sz) (h0 : sz ≠ 0)
    (hR : ∀ {n : Nat} {us : List Value} {y : DataW H × List MemPlace}, DataW.trod enc P w base sp hd n e' us = some y → ∃ d, R d us (hp w))
    (h : DataW.trod enc P w base sp hd fuel t cs = some x) : ∃ v xs, cs = [v] ∧ RowsR sz R xs v (hp w) := by
  subst hsz
  rcases DataW.trod_slice ht h with ⟨rfl, _⟩ | ⟨a, len, cap, elems, rest, n, _, rfl, _, _, hlc, hcm, hel, hget, _, _⟩
  · exact ⟨_, [], rfl, [], ⟨by simp, none, 0, rfl, by simp, fun h => by simp at h⟩, fun i x hx => by simp at hx⟩
  · have each : ∀ i, i < len → ∃ p : List Value × α, w.cells? base (a.add (i * P.cellsOf e')) (P.cellsOf e') = some p.1 ∧ R p.2 p.1 (hp w) := fun i hi => by
      have h1 := hget i hi
      obtain ⟨y, hy⟩ : ∃ y, elems[i]? = some y := ⟨elems[i], by simp [hel, hi]⟩
      rw [hy, Option.bind_eq_some_iff] at h1
      obtain ⟨us, h2, h3⟩ := h1
      obtain ⟨d, hd'⟩ := hR h3
      exact ⟨(us, d), h2, hd'⟩
    obtain ⟨ps, hl, hps⟩ := choose_list len each
    have hlen : ∀ l ∈ ps.map (·.1), l.length = P.cellsOf e' := fun l hm => by
      obtain ⟨p, hp1, rfl⟩ := List.mem_map.1 hm
      obtain ⟨i, hi⟩ := List.getElem?_of_mem hp1
      have h2 := (hps i p hi).1
      unfold World.cells? at h2
      split at h2
      · simpa using mapM_length h2
      · cases h2
    refine ⟨_, ps.map (·.2), rfl, (ps.map (·.1)).flatten, ⟨by rw [flat_length hlen]; simp, some a, cap, by simp [hl], by simp [hl]; omega, fun hpos => ?_⟩, fun i x hx => ?_⟩
    · have cell : ∀ i j u, i < len → (ps.map (·.1)).flatten[i * P.cellsOf e' + j]? = some u → j < P.cellsOf e' → w.cell? ((a.add (i * P.cellsOf e')).add j) = some u := fun i j u hi hu hj => by
        obtain ⟨p, hp1⟩ : ∃ p, ps[i]? = some p := ⟨ps[i], by simp [hl, hi]⟩
        have h2 := (hps i p hp1).1
        have h3 : (ps.map (·.1))[i]? = some p.1 := by simp [hp1]
        have h4 := flat_get hlen h3
        have h5 : p.1[j]? = some u := by rw [← h4, List.getElem?_take, if_pos hj, List.getElem?_drop]; exact hu
        unfold World.cells? at h2
        split at h2
        · have := mapM_some_get h2 j j (List.getElem?_range hj)
          rw [this, h5]
        · cases h2
      have ha : ∃ u, w.cell? a = some u := by
        have hpos' : 0 < (ps.map (·.1)).flatten.length := by rw [flat_length hlen]; simpa using hpos
        obtain ⟨u, hu⟩ : ∃ u, (ps.map (·.1)).flatten[0]? = some u := ⟨(ps.map (·.1)).flatten[0], List.getElem?_eq_getElem hpos'⟩
        have hlen0 : 0 < len := by
          rcases Nat.eq_zero_or_pos len with h | h
          · simp [hl, h] at hpos
          · exact h
        have h6 := cell 0 0 u hlen0 (by simpa using hu) (by omega)
        refine ⟨u, ?_⟩
        rw [Nat.zero_mul] at h6
        exact h6
      obtain ⟨u0, hu0⟩ := ha
      have hspot := World.cell?_spot hu0
      obtain ⟨b, o, spot⟩ := a
      simp only at hspot
      subst hspot
      refine ⟨b, o, rfl, fun j u hu => ?_⟩
      rw [cellP_hp]
      have hj : j < len * P.cellsOf e' := by
        have := (List.getElem?_eq_some_iff.1 hu).1
        rw [flat_length hlen] at this
        simpa [hl] using this
      have hsp : 0 < P.cellsOf e' := by omega
      have hdm := Nat.div_add_mod j (P.cellsOf e')
      have := cell (j / P.cellsOf e') (j % P.cellsOf e') u (Nat.div_lt_of_lt_mul (by rwa [Nat.mul_comm])) (by rw [Nat.mul_comm, hdm]; exact hu) (Nat.mod_lt _ hsp)
      rw [add_at, add_at, Nat.add_assoc, Nat.mul_comm, hdm] at this
      exact this
    · have hx' : ∃ p, ps[i]? = some p ∧ p.2 = x := by simpa using hx
      obtain ⟨p, hp1, rfl⟩ := hx'
      rw [flat_get hlen (i := i) (l := p.1) (by simp [hp1])]
      exact (hps i p hp1).2
theorem rd_ints {t e' : TypeId} {fuel : Nat} {cs : List Value} {x : DataW H × List MemPlace} (ht : P.underlying t = some (.slice e')) (he : P.underlying e' = some (.int .i64)) (hsz : P.cellsOf e' = 1)
    (h : DataW.trod enc P w base sp hd fuel t cs = some x) : ∃ v xs, cs = [v] ∧ IntsR xs v (hp w) ∧ ∀ a ∈ xs, I64 a := by
  obtain ⟨v, xs, rfl, cells, r, hc⟩ := rd_rows (R := fun (a : Int) us _ => us = [num a] ∧ I64 a) ht hsz (by decide) (fun h => rd_int he h) h
  have e : cells = ints xs := by
    apply List.ext_getElem?
    intro i
    simp only [ints, List.getElem?_map]
    cases hx : xs[i]? with
    | none =>
      have h1 := r.1
      have h2 := List.getElem?_eq_none_iff.1 hx
      rw [List.getElem?_eq_none (by omega)]
      rfl
    | some a =>
      have h2 := (hc i a hx).1
      have h3 : (List.take 1 (List.drop (i * 1) cells))[0]? = some (num a) := by rw [h2]; rfl
      rw [List.getElem?_take, if_pos (by decide), List.getElem?_drop] at h3
      simpa using h3
  subst e
  refine ⟨v, xs, rfl, r, fun a ha => ?_⟩
  obtain ⟨i, hi⟩ := List.getElem?_of_mem ha
  exact (hc i a hi).2
/-- A struct's field. -/
theorem rd_field {t : TypeId} {fuel : Nat} {cs : List Value} {x : DataW H × List MemPlace} {fs : Array Field} (ht : P.underlying t = some (.struct fs)) (h : DataW.trod enc P w base sp hd fuel t cs = some x) :
    cs.length = P.cellsOf t ∧ ∀ (i off : Nat) (sub : TypeId), fieldF P t i = some (off, sub) → ∃ n y, DataW.trod enc P w base sp hd n sub ((cs.drop off).take (P.cellsOf sub)) = some y := by
  obtain ⟨xs, n, _, _, h1, h2, h3⟩ := DataW.trod_struct ht h
  refine ⟨h1, fun i off sub hf => ?_⟩
  obtain ⟨fs', f, g1, g2, g3, g4⟩ := fieldF_get hf
  rw [ht] at g1
  simp only [Option.some.injEq, TypeDesc.struct.injEq] at g1
  subst g1; subst g3; subst g4
  have hlt : i < xs.length := by rw [h2]; exact (Array.getElem?_eq_some_iff.1 g2).1
  exact ⟨n, xs[i], by rw [h3 i f g2]; simp [hlt]⟩
theorem cellsOf_ty {t : TypeId} {z : Value} {sz bytes : Nat} {agg : Bool} (h : TyF P t z sz bytes agg) : P.cellsOf t = sz := by
  obtain ⟨i, h1, _, h3, _⟩ := h.get
  simp [Program.cellsOf, h1, h3]
end

/-! ### arguments -/
section
variable {H : Type} {enc : TypeId × Value → H} {w : World} {base : Nat} {sp : Nat → Bool} {hd : Bool}
set_option maxRecDepth 100000 in
theorem arg_int {v : Value} {d : DataW H} {p : List MemPlace} {r : Reach} {b : Nat} (hv : Value.okWide Try.prog w r b 3 v) (h : DataW.Trod enc Try.prog w base sp hd 3 v d p) : ∃ m, v = num m ∧ I64 m := by
  obtain ⟨m, rfl⟩ := okWide_int Try.underlying3 hv
  obtain ⟨f, hf⟩ := h
  obtain ⟨m', e, hm⟩ := rd_int Try.underlying3 hf
  simp [Value.cells, num] at e
  subst e
  exact ⟨m, rfl, hm⟩
set_option maxRecDepth 100000 in
theorem arg_ints {v : Value} {d : DataW H} {p : List MemPlace} {r : Reach} {b : Nat} (hv : Value.okWide Try.prog w r b 24 v) (h : DataW.Trod enc Try.prog w base sp hd 24 v d p) : ∃ xs, IntsR xs v (hp w) ∧ ∀ a ∈ xs, I64 a := by
  obtain ⟨a, len, cap, rfl⟩ := okWide_slice Try.underlying24 hv
  obtain ⟨f, hf⟩ := h
  obtain ⟨v', xs, e, hx, hi⟩ := rd_ints Try.underlying24 Try.underlying3 (cellsOf_ty ty_3) hf
  simp [Value.cells] at e
  subst e
  exact ⟨xs, hx, hi⟩
end
end Go.Proofs.Ytikeobneipjfnaa
