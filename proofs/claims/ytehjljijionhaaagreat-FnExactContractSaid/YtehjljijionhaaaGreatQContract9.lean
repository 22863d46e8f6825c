/-
  Parts of the proof of FnExactContract: laws of heaps, contracts of functions.
  Conditions: none.
-/
import Derived.Test.YtehjljijionhaaaGreatQContract8
namespace Go.Proofs.YtehjljijionhaaaGreat
set_option maxRecDepth 100000
open Go.RowKit
abbrev noTen : Ten := ⟨[], [], []⟩
theorem dimJ_f {t u : Ten} {f : Int → Int} (ht : t.d = t.l.map f) (hu : u.d = u.l.map f) {x : Int} (hx : x ∈ joinI t.l u.l) : dimJ t u x = f x := by
  unfold dimJ
  by_cases h : x ∈ t.l
  · rw [if_pos h, ht, map_getD (findI_get h).1, (findI_get h).2]
  · have h2 := (mem_joinI.1 hx).resolve_left h
    rw [if_neg h, hu, map_getD (findI_get h2).1, (findI_get h2).2]
theorem keep_map {t u : Ten} {f : Int → Int} (ht : t.d = t.l.map f) (hu : u.d = u.l.map f) (ks : List Int) : (keepL t u ks).map (dimJ t u) = (keepL t u ks).map f :=
  List.map_congr_left fun _ hx => dimJ_f ht hu (List.mem_filter.1 hx).1
theorem pair_ten {k p n : Int} {t u : Ten} {ks : List Int} (h : pairP k p n t u ks) : tensorL k p n (pairR k p n t u ks).l (pairR k p n t u ks).d (pairR k p n t u ks).x ∧ (pairR k p n t u ks).l = keepL t u ks ∧ (pairR k p n t u ks).d = (keepL t u ks).map (dimJ t u) := by
  have ok := pair_ok h.1 h.2.1 h.2.2.1 h.2.2.2.1
  have hk := keep_ok ok h.2.2.2.2
  have ha := ok.all hk (prodI ((joinI t.l u.l).map (dimJ t u))).toNat
  have hs := sizeI_ge.1 h.2.2.2.2
  rw [pairR, if_pos h]
  refine ⟨⟨h.1.1, h.2.2.2.2, ?_, ha.2⟩, rfl, rfl⟩
  show ((pairX k p n (dimJ t u) t u (keepL t u ks) _).length : Int) = sizeI (keepL t u ks) ((keepL t u ks).map (dimJ t u)) * widthI k n
  rw [sizeI_yes hs.1 hs.2]
  exact ha.1
theorem pairP_iff {k p n : Int} {t u : Ten} {f : Int → Int} {ks : List Int} (h1 : tensorL k p n t.l t.d t.x) (h2 : tensorL k p n u.l u.d u.x) (ht : t.d = t.l.map f) (hu : u.d = u.l.map f) :
    pairP k p n t u ks ↔ prodI ((joinI t.l u.l).map f) ≤ 65536 ∧ 0 ≤ sizeI (keepL t u ks) ((keepL t u ks).map f) := by
  unfold pairP
  rw [joinD_map ht hu, keep_map ht hu]
  exact ⟨fun h => ⟨h.2.2.2.1, h.2.2.2.2⟩, fun h => ⟨h1, h2, mism_not ht hu, h.1, h.2⟩⟩
theorem keepL_self {t u : Ten} {q : Int → Bool} : keepL t u ((joinI t.l u.l).filter q) = (joinI t.l u.l).filter q := by
  unfold keepL
  refine List.filter_congr fun x hx => ?_
  rw [Bool.eq_iff_iff, decide_eq_true_eq, List.mem_filter]
  exact ⟨fun h => h.2, fun h => ⟨hx, h⟩⟩
theorem pairB_true {k p n : Int} {t u : Ten} {a : List Int} : pairB k p n t u a = true ↔ pairP k p n t u a := by simp [pairB]
theorem pairB_false {k p n : Int} {t u : Ten} {a : List Int} : pairB k p n t u a = false ↔ ¬ pairP k p n t u a := by simp [pairB]
def stpAt (ss : List Stp) (i : Nat) : Stp := ss.getD i ⟨0, 0⟩
theorem stpAt_of {ss : List Stp} {i : Nat} {x : Stp} (h : ss[i]? = some x) : stpAt ss i = x := by simp [stpAt, List.getD, h]
noncomputable def runS (ts : List Ten) (op : List Int) (ss : List Stp) (i : Nat) : Sh := shTo op (sh0 ts) (ss.take i)
noncomputable def runK (ts : List Ten) (op : List Int) (ss : List Stp) (i : Nat) : List Int := (runS ts op ss i).res op (stpAt ss i).a.toNat (stpAt ss i).b.toNat
noncomputable def runTo (k p n : Int) (ts : List Ten) (op : List Int) (ss : List Stp) : Nat → List Ten
  | 0 => ts
  | i + 1 => runTo k p n ts op ss i ++ [pairR k p n ((runTo k p n ts op ss i).getD (stpAt ss i).a.toNat noTen) ((runTo k p n ts op ss i).getD (stpAt ss i).b.toNat noTen) (runK ts op ss i)]
noncomputable def runA (k p n : Int) (ts : List Ten) (op : List Int) (ss : List Stp) (i : Nat) : Ten := (runTo k p n ts op ss i).getD (stpAt ss i).a.toNat noTen
noncomputable def runB (k p n : Int) (ts : List Ten) (op : List Int) (ss : List Stp) (i : Nat) : Ten := (runTo k p n ts op ss i).getD (stpAt ss i).b.toNat noTen
def runFit (k p n : Int) (ts : List Ten) (op : List Int) (ss : List Stp) (i : Nat) : Prop := pairP k p n (runA k p n ts op ss i) (runB k p n ts op ss i) (runK ts op ss i)
structure RunOK (k p n : Int) (ts : List Ten) (op : List Int) (ss : List Stp) (i : Nat) : Prop where
  len : (runTo k p n ts op ss i).length = ts.length + i
  ten : ∀ (j : Nat) (t : Ten), (runTo k p n ts op ss i)[j]? = some t → tensorL k p n t.l t.d t.x ∧ t.l = (runS ts op ss i).lab j ∧ t.d = t.l.map (dimOf ts)
section
variable {k p n : Int} {ts : List Ten} {op : List Int} {ss : List Stp}
theorem runTo_step (i : Nat) : runTo k p n ts op ss (i + 1) = runTo k p n ts op ss i ++ [pairR k p n (runA k p n ts op ss i) (runB k p n ts op ss i) (runK ts op ss i)] := rfl
theorem RunOK.get {i : Nat} (r : RunOK k p n ts op ss i) {j : Nat} (hj : j < ts.length + i) : tensorL k p n ((runTo k p n ts op ss i).getD j noTen).l ((runTo k p n ts op ss i).getD j noTen).d ((runTo k p n ts op ss i).getD j noTen).x ∧
    ((runTo k p n ts op ss i).getD j noTen).l = (runS ts op ss i).lab j ∧ ((runTo k p n ts op ss i).getD j noTen).d = ((runTo k p n ts op ss i).getD j noTen).l.map (dimOf ts) := by
  have hlt : j < (runTo k p n ts op ss i).length := by rw [r.len]; exact hj
  have h := r.ten j _ (List.getElem?_eq_getElem hlt)
  have e2 : (runTo k p n ts op ss i).getD j noTen = (runTo k p n ts op ss i)[j] := by simp [List.getD, List.getElem?_eq_getElem hlt]
  rw [e2]
  exact h
theorem run_step (h : orderL k p n ts op ss) {i : Nat} (hi : i < ss.length) : stepOk (runS ts op ss i) (stpAt ss i) ∧ runS ts op ss (i + 1) = (runS ts op ss i).step op (stpAt ss i).a.toNat (stpAt ss i).b.toNat ∧ (runS ts op ss i).all.length = ts.length + i := by
  have hx : ss[i]? = some ss[i] := List.getElem?_eq_getElem hi
  refine ⟨?_, ?_, ?_⟩
  · rw [stpAt_of hx]; exact h.2.2 i hi _ hx
  · rw [stpAt_of hx]; exact shTo_step hx
  · rw [runS, shTo_all, show (sh0 ts).all.length = ts.length by simp [sh0], List.length_take]; omega
theorem run_all {i : Nat} (hi : i ≤ ss.length) : (runS ts op ss i).all.length = ts.length + i := by
  rw [runS, shTo_all, show (sh0 ts).all.length = ts.length by simp [sh0], List.length_take]; omega
theorem run_fine (h : netL k p n ts op) (i : Nat) : (runS ts op ss i).fine := shTo_fine (sh0_fine (net_axes h)) _
theorem RunOK.two {i : Nat} (r : RunOK k p n ts op ss i) (h : orderL k p n ts op ss) (hi : i < ss.length) :
    (tensorL k p n (runA k p n ts op ss i).l (runA k p n ts op ss i).d (runA k p n ts op ss i).x ∧ (runA k p n ts op ss i).l = (runS ts op ss i).lab (stpAt ss i).a.toNat ∧ (runA k p n ts op ss i).d = (runA k p n ts op ss i).l.map (dimOf ts)) ∧
    (tensorL k p n (runB k p n ts op ss i).l (runB k p n ts op ss i).d (runB k p n ts op ss i).x ∧ (runB k p n ts op ss i).l = (runS ts op ss i).lab (stpAt ss i).b.toNat ∧ (runB k p n ts op ss i).d = (runB k p n ts op ss i).l.map (dimOf ts)) := by
  obtain ⟨⟨⟨a0, a1, _⟩, ⟨b0, b1, _⟩, _⟩, _, hl⟩ := run_step h hi
  exact ⟨r.get (by omega), r.get (by omega)⟩
theorem RunOK.kept {i : Nat} (r : RunOK k p n ts op ss i) (h : orderL k p n ts op ss) (hi : i < ss.length) : keepL (runA k p n ts op ss i) (runB k p n ts op ss i) (runK ts op ss i) = runK ts op ss i := by
  obtain ⟨⟨_, la, _⟩, ⟨_, lb, _⟩⟩ := r.two h hi
  have e : runK ts op ss i = (joinI (runA k p n ts op ss i).l (runB k p n ts op ss i).l).filter fun x => @decide ((runS ts op ss i).kept op (stpAt ss i).a.toNat (stpAt ss i).b.toNat x) (Classical.propDecidable _) := by rw [la, lb]; rfl
  rw [e]
  exact keepL_self
theorem RunOK.step {i : Nat} (r : RunOK k p n ts op ss i) (h : orderL k p n ts op ss) (hi : i < ss.length) (hf : runFit k p n ts op ss i) : RunOK k p n ts op ss (i + 1) := by
  obtain ⟨hst, hs1, hl⟩ := run_step h hi
  obtain ⟨⟨ta, la, da⟩, ⟨tb, lb, db⟩⟩ := r.two h hi
  have hk := r.kept h hi
  obtain ⟨p1, p2, p3⟩ := pair_ten hf
  rw [keep_map da db, hk] at p3
  rw [hk] at p2
  refine ⟨by rw [runTo_step, List.length_append, r.len]; simp; omega, fun j t hj => ?_⟩
  rw [runTo_step] at hj
  rcases Nat.lt_or_ge j (runTo k p n ts op ss i).length with hlt | hge
  · rw [List.getElem?_append_left hlt] at hj
    have := r.ten j t hj
    rw [hs1, step_lab (by rw [hl, ← r.len]; exact hlt)]
    exact this
  · rw [List.getElem?_append_right hge] at hj
    have e0 : j - (runTo k p n ts op ss i).length = 0 := by
      rcases Nat.eq_zero_or_pos (j - (runTo k p n ts op ss i).length) with h0 | h0
      · exact h0
      · rw [List.getElem?_eq_none (by simp; omega)] at hj; cases hj
    rw [e0] at hj
    simp at hj
    subst hj
    refine ⟨p1, ?_, ?_⟩
    · rw [p2, hs1, show j = (runS ts op ss i).all.length by rw [hl, ← r.len]; omega, step_lab_new]; rfl
    · rw [p2, p3]
theorem run_ok (h : orderL k p n ts op ss) : ∀ i, i ≤ ss.length → (∀ j, j < i → runFit k p n ts op ss j) → RunOK k p n ts op ss i
  | 0, _, _ => by
    refine ⟨rfl, fun j t hj => ?_⟩
    have hj' : ts[j]? = some t := hj
    have hm := List.mem_of_getElem? hj'
    exact ⟨h.1.2.2.1 t hm, by simp [runS, shTo, Sh.lab, sh0, List.getD, hj'], net_dmap h.1 t hm⟩
  | i + 1, hi, hf => (run_ok h i (by omega) fun j hj => hf j (by omega)).step h (by omega) (hf i (by omega))
theorem lab_stable {op : List Int} : ∀ {s : Sh} {b : List Stp} {j : Nat}, j < s.all.length → (shTo op s b).lab j = s.lab j
  | s, [], j, _ => rfl
  | s, x :: r, j, hj => by
    have := lab_stable (op := op) (s := s.step op x.a.toNat x.b.toNat) (b := r) (j := j) (by simp [Sh.step]; omega)
    show (shTo op (s.step op x.a.toNat x.b.toNat) r).lab j = _
    rw [this, step_lab hj]
/-- What the end's list of labels says of a step. -/
theorem run_end (h : orderL k p n ts op ss) {i : Nat} (hi : i < ss.length) : (shTo op (sh0 ts) ss).lab (ts.length + i) = runK ts op ss i := by
  obtain ⟨hst, hs1, hl⟩ := run_step h hi
  have e : shTo op (sh0 ts) ss = shTo op (runS ts op ss (i + 1)) (ss.drop (i + 1)) := by
    conv => lhs; rw [← List.take_append_drop (i + 1) ss]
    simp only [runS, shTo, List.foldl_append]
  rw [e, lab_stable (by rw [hs1]; simp [Sh.step, hl]), hs1, ← hl, step_lab_new]; rfl
/-- The rows of m cells but those at p and q, of the first k. -/
def dropK {α : Type} (m : Nat) (cs : List α) (p q : Nat) : Nat → List α
  | 0 => []
  | k + 1 => if k ≠ p ∧ k ≠ q then dropK m cs p q k ++ (cs.drop (k * m)).take m else dropK m cs p q k
theorem dropK_yes {α : Type} {m : Nat} {cs : List α} {p q k : Nat} (h : k ≠ p ∧ k ≠ q) : dropK m cs p q (k + 1) = dropK m cs p q k ++ (cs.drop (k * m)).take m := by rw [dropK, if_pos h]
theorem dropK_no {α : Type} {m : Nat} {cs : List α} {p q k : Nat} (h : ¬ (k ≠ p ∧ k ≠ q)) : dropK m cs p q (k + 1) = dropK m cs p q k := by rw [dropK, if_neg h]
theorem one_drop {α : Type} {l : List α} {k : Nat} {x : α} (h : l[k]? = some x) : (l.drop (k * 1)).take 1 = [x] := by
  obtain ⟨hk, rfl⟩ := List.getElem?_eq_some_iff.1 h
  rw [Nat.mul_one, List.drop_eq_getElem_cons hk]; rfl
theorem dropK_len {α : Type} {m : Nat} {cs : List α} {p q : Nat} : ∀ k, (dropK m cs p q k).length ≤ k * m
  | 0 => by simp [dropK]
  | k + 1 => by
    have ih := dropK_len (m := m) (cs := cs) (p := p) (q := q) k
    have e : (k + 1) * m = k * m + m := by rw [Nat.add_mul, Nat.one_mul]
    by_cases h : k ≠ p ∧ k ≠ q
    · rw [dropK_yes h, List.length_append, List.length_take]; omega
    · rw [dropK_no h]; omega
theorem dropK_ixs {β : Type} (g : Nat → β) {s : Sh} {p q a b : Nat} (hp : s.ixs[p]? = some a) (hq : s.ixs[q]? = some b) : ∀ k, k ≤ s.ixs.length → dropK 1 (s.ixs.map g) p q k = ((s.ixs.take k).filter fun i => decide (i ≠ a ∧ i ≠ b)).map g
  | 0, _ => by simp [dropK]
  | k + 1, hk => by
    have ih := dropK_ixs g hp hq k (by omega)
    have hi : s.ixs[k]? = some s.ixs[k] := List.getElem?_eq_getElem (by omega)
    have e1 : k = p ↔ s.ixs[k] = a := ⟨fun e => by subst e; rw [hi] at hp; exact Option.some.inj hp, fun e => ixs_inj (e ▸ hi) hp⟩
    have e2 : k = q ↔ s.ixs[k] = b := ⟨fun e => by subst e; rw [hi] at hq; exact Option.some.inj hq, fun e => ixs_inj (e ▸ hi) hq⟩
    have hl : (s.ixs.map g)[k]? = some (g s.ixs[k]) := by rw [List.getElem?_map, hi]; rfl
    rw [List.take_succ_eq_append_getElem (by omega), List.filter_append, List.map_append]
    by_cases hc : k ≠ p ∧ k ≠ q
    · have : s.ixs[k] ≠ a ∧ s.ixs[k] ≠ b := ⟨fun e => hc.1 (e1.2 e), fun e => hc.2 (e2.2 e)⟩
      rw [dropK_yes hc, ih, one_drop hl]
      simp [this]
    · have : ¬ (s.ixs[k] ≠ a ∧ s.ixs[k] ≠ b) := fun e => hc ⟨fun e' => e.1 (e1.1 e'), fun e' => e.2 (e2.1 e')⟩
      rw [dropK_no hc, ih]
      simp [this]
noncomputable def outTo (k p n : Int) (ts : List Ten) (op : List Int) (ss : List Stp) (i : Nat) : List Ten := (runS ts op ss i).ixs.map fun j => (runTo k p n ts op ss i).getD j noTen
theorem out_len (i : Nat) : (outTo k p n ts op ss i).length = (runS ts op ss i).ixs.length := by simp [outTo]
theorem out_get {i j a : Nat} (h : (runS ts op ss i).ixs[j]? = some a) : (outTo k p n ts op ss i)[j]? = some ((runTo k p n ts op ss i).getD a noTen) := by
  rw [outTo, List.getElem?_map, h]; rfl
theorem out_zero : outTo k p n ts op ss 0 = ts := by
  have e : (runS ts op ss 0).ixs = List.range ts.length := by rw [← sh0_ixs ts]; rfl
  rw [outTo, e]
  apply List.ext_getElem?
  intro j
  rw [List.getElem?_map]
  rcases Nat.lt_or_ge j ts.length with h | h
  · rw [List.getElem?_range h]
    simp [runTo, List.getD, h]
  · rw [List.getElem?_eq_none (by simpa using h), List.getElem?_eq_none h]; rfl
theorem out_step (h : orderL k p n ts op ss) {i : Nat} (hi : i < ss.length) (r : RunOK k p n ts op ss i) {pa pb : Nat} (ha : (runS ts op ss i).ixs[pa]? = some (stpAt ss i).a.toNat) (hb : (runS ts op ss i).ixs[pb]? = some (stpAt ss i).b.toNat) :
    outTo k p n ts op ss (i + 1) = dropK 1 (outTo k p n ts op ss i) pa pb (outTo k p n ts op ss i).length ++ [pairR k p n (runA k p n ts op ss i) (runB k p n ts op ss i) (runK ts op ss i)] := by
  obtain ⟨hst, hs1, hl⟩ := run_step h hi
  rw [out_len]
  unfold outTo
  rw [dropK_ixs _ ha hb _ (Nat.le_refl _), List.take_length, hs1, step_ixs (run_fine h.1 i).1, List.map_append]
  congr 1
  · refine List.map_congr_left fun j hj => ?_
    have := (mem_ixs.1 (List.mem_filter.1 hj).1).1
    rw [runTo_step]
    simp only [List.getD]
    rw [List.getElem?_append_left (by rw [r.len, ← hl]; exact this)]
  · rw [List.map_singleton, runTo_step, hl, ← r.len]
    simp [List.getD]
theorem dimOf_mem {ts : List Ten} {x : Int} (h : dimOf ts x ≠ 0) : ∃ t ∈ ts, x ∈ t.l := by
  induction ts with
  | nil => simp [dimOf] at h
  | cons t ts ih =>
    rw [dimOf] at h
    by_cases hx : x ∈ t.l
    · exact ⟨t, by simp, hx⟩
    · rw [if_neg hx] at h
      obtain ⟨u, hu, hxu⟩ := ih h
      exact ⟨u, by simp [hu], hxu⟩
theorem run_open (h : orderL k p n ts op ss) {x : Int} (hx : x ∈ op) : ∀ i, i ≤ ss.length → ∃ j ∈ (runS ts op ss i).ixs, x ∈ (runS ts op ss i).lab j
  | 0, _ => by
    obtain ⟨j, hj, e⟩ := getD_of_mem hx
    have ho := (open_at h.1.2.2.2.2 hj).2
    rw [e] at ho
    obtain ⟨t, ht, hxt⟩ := dimOf_mem (ts := ts) (x := x) (by omega)
    obtain ⟨m, hm⟩ := List.getElem?_of_mem ht
    have hml := (List.getElem?_eq_some_iff.1 hm).1
    have e0 : runS ts op ss 0 = sh0 ts := rfl
    refine ⟨m, by rw [e0, sh0_ixs]; simpa using hml, ?_⟩
    rw [e0]
    simpa [Sh.lab, sh0, List.getD, hm] using hxt
  | i + 1, hi => by
    obtain ⟨j, hj, hxj⟩ := run_open h hx i (by omega)
    obtain ⟨hst, hs1, hl⟩ := run_step h (i := i) (by omega)
    have hok := (run_fine (ss := ss) h.1 i).1
    rw [hs1]
    by_cases hc : j ≠ (stpAt ss i).a.toNat ∧ j ≠ (stpAt ss i).b.toNat
    · refine ⟨j, by rw [step_ixs hok]; simp [hj, hc], ?_⟩
      rw [step_lab (mem_ixs.1 hj).1]; exact hxj
    · refine ⟨(runS ts op ss i).all.length, by rw [step_ixs hok]; simp, ?_⟩
      rw [step_lab_new]
      refine List.mem_filter.2 ⟨mem_joinI.2 ?_, by simpa using .inl hx⟩
      by_cases ea : j = (stpAt ss i).a.toNat
      · exact .inl (ea ▸ hxj)
      · exact .inr ((show j = (stpAt ss i).b.toNat by omega) ▸ hxj)
theorem run_left (h : orderL k p n ts op ss) (hn : ts ≠ []) : (runS ts op ss ss.length).ixs = [ts.length + ss.length - 1] := by
  have hlen : ts.length ≠ 0 := fun e => hn (List.eq_nil_of_length_eq_zero e)
  have hc := steps_count (op := op) (sh0_fine (net_axes h.1)) h.2.2 ss.length (Nat.le_refl _)
  rw [show (sh0 ts).ixs.length = ts.length by rw [sh0_ixs]; simp] at hc
  have h1 : (runS ts op ss ss.length).ixs.length = 1 := by
    have := h.2.1
    show (shTo op (sh0 ts) (ss.take ss.length)).ixs.length = 1
    omega
  have hm : ts.length + ss.length - 1 ∈ (runS ts op ss ss.length).ixs := by
    rcases Nat.eq_zero_or_pos ss.length with h0 | h0
    · have e0 : runS ts op ss ss.length = sh0 ts := by rw [h0]; rfl
      rw [e0, sh0_ixs, h0]; simp; omega
    · obtain ⟨hst, hs1, hl⟩ := run_step h (i := ss.length - 1) (by omega)
      rw [show ss.length - 1 + 1 = ss.length by omega] at hs1
      rw [hs1, step_ixs (run_fine (ss := ss) h.1 _).1, hl]
      simp; omega
  obtain ⟨y, hy⟩ := List.length_eq_one_iff.1 h1
  rw [hy] at hm ⊢
  simp at hm
  rw [hm]
end
end Go.Proofs.YtehjljijionhaaaGreat
namespace Go.Proofs.YtehjljijionhaaaGreat
set_option maxRecDepth 100000
open Go.RowKit
theorem Made.join3 {h a b : PH} {l : List PH} (m : Made h (a :: b :: l)) : Made h [a, b, joinP l] := by
  have hs := m.sep
  have hl : PLe (joinP l) h := fun k o e => by
    obtain ⟨y, hy, e'⟩ := joinP_dom e
    exact m.le y (by simp [hy]) k o e'
  refine ⟨⟨fun x hx => ?_, fun x hx => ?_, fun x hx => by simp at hx, trivial⟩, fun x hx => ?_, fun k o e => ?_⟩
  · rcases List.mem_cons.1 hx with rfl | hx
    · exact hs.1 _ (by simp)
    · simp at hx; subst hx
      exact PDj.join fun y hy => hs.1 y (by simp [hy])
  · simp at hx; subst hx
    exact PDj.join fun y hy => hs.2.1 y hy
  · simp at hx
    rcases hx with rfl | rfl | rfl
    · exact m.le _ (by simp)
    · exact m.le _ (by simp)
    · exact hl
  · obtain ⟨x, hx, e'⟩ := m.dom k o e
    simp at hx
    rcases hx with rfl | rfl | hx
    · exact ⟨x, by simp, e'⟩
    · exact ⟨x, by simp, e'⟩
    · exact ⟨joinP l, by simp, PLe.join hs.2.2 x hx k o e'⟩
theorem Made.part3 {h a b c : PH} {l : List PH} (m : Made h [a, b, c]) (ml : Made c l) : Made h (a :: b :: l) := by
  have hs := m.sep
  have hc : PLe c h := m.le c (by simp)
  refine ⟨⟨fun x hx => ?_, fun x hx => ?_, ml.sep⟩, fun x hx => ?_, fun k o e => ?_⟩
  · rcases List.mem_cons.1 hx with rfl | hx
    · exact hs.1 _ (by simp)
    · exact (((hs.1 c (by simp)).symm).mono (ml.le x hx)).symm
  · exact (((hs.2.1 c (by simp)).symm).mono (ml.le x hx)).symm
  · simp at hx
    rcases hx with rfl | rfl | hx
    · exact m.le _ (by simp)
    · exact m.le _ (by simp)
    · exact (ml.le x hx).trans hc
  · obtain ⟨x, hx, e'⟩ := m.dom k o e
    simp at hx
    rcases hx with rfl | rfl | rfl
    · exact ⟨x, by simp, e'⟩
    · exact ⟨x, by simp, e'⟩
    · obtain ⟨y, hy, e2⟩ := ml.dom k o e'
      exact ⟨y, by simp [hy], e2⟩
theorem NetO.split {ts : List Ten} {op : List Int} {vt vo : Value} {h : PH} (r : NetO ts op vt vo h) : ∃ cs h0 ho hl, RowO 44 cs ts.length 3 vt h0 ∧ IntsO op vo ho ∧ OwnH (flat ts) cs hl ∧ Made h [h0, ho, hl] := by
  obtain ⟨cs, h0, ho, l, r0, r1, o, m⟩ := r
  exact ⟨cs, h0, ho, joinP l, r0, r1, ⟨l, o, Made.join m.sep.2.2⟩, m.join3⟩
theorem NetO.join {ts : List Ten} {op : List Int} {vt vo : Value} {h h0 ho hl : PH} {cs : List Value} (r0 : RowO 44 cs ts.length 3 vt h0) (r1 : IntsO op vo ho) (o : OwnH (flat ts) cs hl) (m : Made h [h0, ho, hl]) : NetO ts op vt vo h := by
  obtain ⟨l, o, ml⟩ := o
  exact ⟨cs, h0, ho, l, r0, r1, o, m.part3 ml⟩
theorem OwnL.take {xss : List (List Int)} {vs : List Value} {l : List PH} (o : OwnL xss vs l) (n : Nat) : OwnL (xss.take n) (vs.take n) (l.take n) := by
  refine ⟨by simp [o.l1], by simp [o.l2], fun i xs h => ?_⟩
  have hi : i < n := by
    rcases Nat.lt_or_ge i n with h' | h'
    · exact h'
    · rw [List.getElem?_take, if_neg (by omega)] at h; cases h
  rw [List.getElem?_take, if_pos hi] at h ⊢
  rw [List.getElem?_take, if_pos hi]
  exact o.own i xs h
theorem OwnL.drop {xss : List (List Int)} {vs : List Value} {l : List PH} (o : OwnL xss vs l) (n : Nat) : OwnL (xss.drop n) (vs.drop n) (l.drop n) := by
  refine ⟨by simp [o.l1], by simp [o.l2], fun i xs h => ?_⟩
  rw [List.getElem?_drop] at h ⊢
  rw [List.getElem?_drop]
  exact o.own (n + i) xs h
theorem flat_take {ts : List Ten} {i : Nat} (h : i ≤ ts.length) : flat (ts.take i) = (flat ts).take (i * 3) ∧ flat (ts.drop i) = (flat ts).drop (i * 3) := by
  have e : flat ts = flat (ts.take i) ++ flat (ts.drop i) := by rw [← flat_append, List.take_append_drop]
  have hl : (flat (ts.take i)).length = i * 3 := by rw [flat_len, List.length_take, Nat.min_eq_left h]
  constructor
  · rw [e, List.take_left' hl]
  · rw [e, List.drop_left' hl]
theorem flat_set {ts : List Ten} {i : Nat} (h : i < ts.length) (u : Ten) : flat (ts.set i u) = (flat ts).take (i * 3) ++ [u.l, u.d, u.x] ++ (flat ts).drop (i * 3 + 3) := by
  rw [List.set_eq_take_append_cons_drop, if_pos h, flat_append, (flat_take (Nat.le_of_lt h)).1, show i * 3 + 3 = (i + 1) * 3 by omega, ← (flat_take (show i + 1 ≤ ts.length by omega)).2, List.append_assoc]
  rfl
theorem sep_mono {l l' : List PH} (h : sepL l) (hs : l'.Sublist l) : sepL l' := by
  induction hs with
  | slnil => exact trivial
  | cons x _ ih => exact ih h.2
  | cons_cons x s ih => exact ⟨fun y hy => h.1 y (s.subset hy), ih h.2⟩
theorem OwnH.set {ts : List Ten} {u : Ten} {cs : List Value} {a b c : Value} {h h' : PH} {i : Nat} (hi : i < ts.length) (o : OwnH (flat ts) cs h) (r : TriO u a b c h') (hd : PDj h h') :
    ∃ g, PLe g (PUn h h') ∧ OwnH (flat (ts.set i u)) (cs.take (i * 3) ++ [a, b, c] ++ cs.drop (i * 3 + 3)) g := by
  obtain ⟨l, ol, m⟩ := o
  obtain ⟨h1, h2, h3, r1, r2, r3, m'⟩ := r
  have hx : ∀ x ∈ l.take (i * 3) ++ [h1, h2, h3] ++ l.drop (i * 3 + 3), PLe x (PUn h h') := fun x hx => by
    simp only [List.mem_append] at hx
    rcases hx with (hx | hx) | hx
    · exact (m.le x (List.mem_of_mem_take hx)).trans (PLe.un_l _ _)
    · exact (m'.le x hx).trans (PLe.un_r hd)
    · exact (m.le x (List.mem_of_mem_drop hx)).trans (PLe.un_l _ _)
  have hab : ∀ x ∈ l, ∀ y ∈ [h1, h2, h3], PDj x y := fun x hx y hy => (((hd.mono (m.le x hx)).symm).mono (m'.le y hy)).symm
  have hsub : (l.take (i * 3) ++ l.drop (i * 3 + 3)).Sublist l := by
    conv => rhs; rw [← List.take_append_drop (i * 3) l]
    refine List.Sublist.append (List.Sublist.refl _) ?_
    rw [← List.drop_drop]
    exact List.drop_sublist _ _
  have hsep := sepL_append.1 (sep_mono m.sep hsub)
  have hs : sepL (l.take (i * 3) ++ [h1, h2, h3] ++ l.drop (i * 3 + 3)) := by
    refine sepL_append.2 ⟨sepL_append.2 ⟨hsep.1, m'.sep, fun x hx y hy => hab x (List.mem_of_mem_take hx) y hy⟩, hsep.2.1, fun x hx y hy => ?_⟩
    rcases List.mem_append.1 hx with hx | hx
    · exact hsep.2.2 x hx y hy
    · exact (hab y (List.mem_of_mem_drop hy) x hx).symm
  refine ⟨joinP (l.take (i * 3) ++ [h1, h2, h3] ++ l.drop (i * 3 + 3)), fun k o e => ?_, _, ?_, Made.join hs⟩
  · obtain ⟨y, hy, e'⟩ := joinP_dom e
    exact hx y hy k o e'
  · rw [flat_set hi]
    exact ((ol.take _).append (OwnL.three r1 r2 r3)).append (ol.drop _)
def replP (k p n : Int) (ts : List Ten) (op : List Int) (i : Int) (u : Ten) : Prop := netL k p n ts op ∧ (0 ≤ i ∧ i < ts.length) ∧ fitP k p n (ts.getD i.toNat ⟨[], [], []⟩) u
open Classical in
noncomputable def replB (k p n : Int) (ts : List Ten) (op : List Int) (i : Int) (u : Ten) : Bool := decide (replP k p n ts op i u)
noncomputable def ifB {α : Type} (b : Bool) (x y : α) : α := if b then x else y
noncomputable def replTs (k p n : Int) (ts : List Ten) (op : List Int) (i : Int) (u : Ten) : List Ten := ifB (replB k p n ts op i u) (ts.set i.toNat u) []
noncomputable def replOp (k p n : Int) (ts : List Ten) (op : List Int) (i : Int) (u : Ten) : List Int := ifB (replB k p n ts op i u) op []
def ReplR (k p n : Int) (ts : List Ten) (op : List Int) (i : Int) (u : Ten) (x : Value) (h : PH) : Prop :=
  ∃ vt vo, x = .tuple [netV (ifB (replB k p n ts op i u) k 0) (ifB (replB k p n ts op i u) p 0) (ifB (replB k p n ts op i u) n 0) vt vo, .bool (replB k p n ts op i u)].toArray ∧ NetO (replTs k p n ts op i u) (replOp k p n ts op i u) vt vo h
theorem NetO.nil : NetO [] [] (.slice none 0 0) (.slice none 0 0) emp :=
  ⟨[], emp, emp, [], RowO.nil, IntsO.nil, OwnL.nil, ⟨by simp [sepL, PDj.emp], fun x hx => by simp at hx; subst hx; exact PLe.emp _, fun k o e => by cases e⟩⟩
theorem ReplR.no {k p n i : Int} {ts : List Ten} {op : List Int} {u : Ten} (h : ¬ replP k p n ts op i u) : ReplR k p n ts op i u (.tuple [netV 0 0 0 (.slice none 0 0) (.slice none 0 0), .bool false].toArray) emp := by
  have e : replB k p n ts op i u = false := by simp [replB, h]
  refine ⟨.slice none 0 0, .slice none 0 0, ?_, ?_⟩
  · rw [e]; rfl
  · rw [replTs, replOp, e]; exact NetO.nil
theorem ReplR.yes {k p n i : Int} {ts : List Ten} {op : List Int} {u : Ten} {vt vo : Value} {g : PH} (h : replP k p n ts op i u) (r : NetO (ts.set i.toNat u) op vt vo g) : ReplR k p n ts op i u (.tuple [netV k p n vt vo, .bool true].toArray) g := by
  have e : replB k p n ts op i u = true := by simp [replB, h]
  refine ⟨vt, vo, ?_, ?_⟩
  · rw [e]; rfl
  · rw [replTs, replOp, e]; exact r
end Go.Proofs.YtehjljijionhaaaGreat
namespace Go.Proofs.YtehjljijionhaaaGreat
set_option maxRecDepth 100000
open Go.RowKit
theorem OwnL.piece {ts : List Ten} {vs : List Value} {l : List PH} (o : OwnL (flat ts) vs l) {k : Nat} {t : Ten} (h : ts[k]? = some t) : OwnL (flat [t]) ((vs.drop (k * 3)).take 3) ((l.drop (k * 3)).take 3) := by
  have hk := (List.getElem?_eq_some_iff.1 h).1
  have e : ((flat ts).drop (k * 3)).take 3 = flat [t] := by
    rw [← (flat_take (Nat.le_of_lt hk)).2, drop_at h]; rfl
  have := (o.drop (k * 3)).take 3
  rwa [e] at this
theorem OwnL.dropK {ts : List Ten} {vs : List Value} {l : List PH} (o : OwnL (flat ts) vs l) (p q : Nat) : ∀ k, k ≤ ts.length → OwnL (flat (dropK 1 ts p q k)) (dropK 3 vs p q k) (dropK 3 l p q k)
  | 0, _ => OwnL.nil
  | k + 1, hk => by
    have ih := OwnL.dropK o p q k (by omega)
    have ht : ts[k]? = some ts[k] := List.getElem?_eq_getElem (by omega)
    by_cases h : k ≠ p ∧ k ≠ q
    · rw [dropK_yes h, dropK_yes h, dropK_yes h, one_drop ht, flat_append]
      exact ih.append (o.piece ht)
    · rw [dropK_no h, dropK_no h, dropK_no h]; exact ih
theorem dropK_sub {α : Type} (m : Nat) (l : List α) (p q : Nat) : ∀ k, (dropK m l p q k).Sublist (l.take (k * m))
  | 0 => by simp [dropK]
  | k + 1 => by
    have ih := dropK_sub m l p q k
    have e : l.take ((k + 1) * m) = l.take (k * m) ++ (l.drop (k * m)).take m := by rw [Nat.add_mul, Nat.one_mul, List.take_add]
    rw [e]
    by_cases h : k ≠ p ∧ k ≠ q
    · rw [dropK_yes h]; exact ih.append (List.Sublist.refl _)
    · rw [dropK_no h]; exact ih.trans (List.sublist_append_left _ _)
theorem OwnH.dropK {ts : List Ten} {cs : List Value} {h : PH} (o : OwnH (flat ts) cs h) (p q : Nat) : ∃ g, PLe g h ∧ OwnH (flat (dropK 1 ts p q ts.length)) (dropK 3 cs p q ts.length) g := by
  obtain ⟨l, ol, m⟩ := o
  have hs := (dropK_sub 3 l p q ts.length).trans (List.take_sublist _ _)
  have hsep := sep_mono m.sep hs
  refine ⟨joinP (Go.Proofs.YtehjljijionhaaaGreat.dropK 3 l p q ts.length), fun k o e => ?_, _, ol.dropK p q _ (Nat.le_refl _), Made.join hsep⟩
  obtain ⟨y, hy, e'⟩ := joinP_dom e
  exact m.le y (hs.subset hy) k o e'
theorem perm_all {k p n : Int} {t : Ten} {ls : List Int} (h : PermOK k p n t ls) : ∀ m : Nat, ((permX (widthI k n) t ls (permD t ls) m).length : Int) = m * widthI k n ∧ ∀ a ∈ permX (widthI k n) t ls (permD t ls) m, 0 ≤ a ∧ a ≤ topI k p n
  | 0 => by simp [permX]
  | m + 1 => by
    have ih := perm_all h m
    have ho := h.off m
    have he := elt_inR h.ten ho.1 ho.2
    have hw := width_range h.ring
    rw [permX_step]
    refine ⟨?_, fun a ha => ?_⟩
    · rw [List.length_append, he.1, Int.natCast_add, ih.1, show ((m + 1 : Nat) : Int) = (m : Int) + 1 from rfl, Int.add_mul, Int.one_mul]; omega
    · rcases List.mem_append.1 ha with ha | ha
      · exact ih.2 a ha
      · exact he.2 a ha
theorem perm_axes {k p n : Int} {t : Ten} {ls : List Int} (h : PermOK k p n t ls) : axesL ls (permD t ls) := by
  refine ⟨h.len.2.2, (permD_len t ls).symm, fun j hj => ⟨?_, h.dims j (by rw [permD_len]; exact hj), nodup_not_take h.nodup hj⟩⟩
  obtain ⟨i, hi, e⟩ := getD_of_mem (h.perm.mem_iff.1 (mem_getD hj))
  rw [← e]
  exact (h.axes.2.2 i hi).1
theorem perm_ten {k p n : Int} {t : Ten} {ls : List Int} (h : PermOK k p n t ls) : tensorL k p n (permT k n t ls).l (permT k n t ls).d (permT k n t ls).x := by
  have hs := h.small
  have ha := perm_axes h
  have hx := perm_all h (prodI (permD t ls)).toNat
  refine ⟨h.ring, sizeI_ge.2 ⟨ha, hs.2⟩, ?_, hx.2⟩
  show ((permX (widthI k n) t ls (permD t ls) (prodI (permD t ls)).toNat).length : Int) = sizeI ls (permD t ls) * widthI k n
  rw [sizeI_yes ha hs.2, hx.1, show (((prodI (permD t ls)).toNat : Nat) : Int) = prodI (permD t ls) by omega]
theorem setL_of_perm {xs ys : List Int} (h : xs.Perm ys) (hn : ys.Nodup) : setL xs ys :=
  ⟨h.length_eq, fun j hj => ⟨h.mem_iff.2 (mem_getD hj), nodup_not_take hn hj⟩⟩
theorem net_open {k p n : Int} {ts : List Ten} {op : List Int} (h : netL k p n ts op) : op.Nodup ∧ op.length ≤ 12 := by
  have ha := (sizeI_ge.1 h.2.2.2.2).1
  exact ⟨axes_nodup ha, ha.1⟩
theorem mem_keep {t u : Ten} {ks : List Int} {x : Int} : x ∈ keepL t u ks ↔ (x ∈ t.l ∨ x ∈ u.l) ∧ x ∈ ks := by
  unfold keepL
  rw [List.mem_filter, mem_joinI, decide_eq_true_eq]
theorem sum_ten {k p n : Int} {t : Ten} (ht : tensorL k p n t.l t.d t.x) (ks : List Int) : tensorL k p n (sumR k p n t ks).l (sumR k p n t ks).d (sumR k p n t ks).x ∧ (sumR k p n t ks).l = keepL t (oneT k p n) ks ∧ (sumR k p n t ks).d = (keepL t (oneT k p n) ks).map (dimJ t (oneT k p n)) := by
  have := pair_ten (sum_pair ht ks)
  rwa [sumR_pair ht] at this
theorem fin_perm {k p n : Int} {t : Ten} {op : List Int} (ht : tensorL k p n t.l t.d t.x) (hn : op.Nodup) (hs : ∀ x ∈ op, x ∈ t.l) : PermOK k p n (sumR k p n t op) op := by
  obtain ⟨h1, h2, _⟩ := sum_ten ht op
  have hk : ∀ x, x ∈ (sumR k p n t op).l ↔ x ∈ op := fun x => by
    rw [h2, mem_keep]
    exact ⟨fun h => h.2, fun h => ⟨.inl (hs x h), h⟩⟩
  exact ⟨ht.1, h1, perm_of hn (fun x hx => (hk x).2 hx) (pigeon (axes_nodup (ten_axes h1)) fun x hx => (hk x).1 hx)⟩
noncomputable def finT (k p n : Int) (t : Ten) (op : List Int) : Ten := permT k n (sumR k p n t op) op
def finP (k p n : Int) (ts : List Ten) (op : List Int) (t : Ten) : Prop := netL k p n ts op ∧ tensorL k p n t.l t.d t.x ∧ ∀ x ∈ op, x ∈ t.l
open Classical in
noncomputable def finB (k p n : Int) (ts : List Ten) (op : List Int) (t : Ten) : Bool := decide (finP k p n ts op t)
open Classical in
noncomputable def finR (k p n : Int) (ts : List Ten) (op : List Int) (t : Ten) : Ten := if finP k p n ts op t then finT k p n t op else noTen
theorem finP.perm {k p n : Int} {ts : List Ten} {op : List Int} {t : Ten} (h : finP k p n ts op t) : PermOK k p n (sumR k p n t op) op := fin_perm h.2.1 (net_open h.1).1 h.2.2
theorem FinNo {k p n : Int} {ts : List Ten} {op : List Int} {t : Ten} (h : ¬ finP k p n ts op t) : TenB (finR k p n ts op t) (finB k p n ts op t) (.tuple [tenV (.slice none 0 0) (.slice none 0 0) (.slice none 0 0), .bool false].toArray) emp :=
  ⟨.slice none 0 0, .slice none 0 0, .slice none 0 0, by simp [finB, h], by rw [finR, if_neg h]; exact triO_none⟩
theorem FinYes {k p n : Int} {ts : List Ten} {op : List Int} {t : Ten} {a b c : Value} {h : PH} (hp : finP k p n ts op t) (r : TriO (finT k p n t op) a b c h) : TenB (finR k p n ts op t) (finB k p n ts op t) (.tuple [tenV a b c, .bool true].toArray) h :=
  ⟨a, b, c, by simp [finB, hp], by rw [finR, if_pos hp]; exact r⟩
def partP (k p n : Int) (ts : List Ten) (op : List Int) (ss : List Stp) (m : Int) : Prop := orderL k p n ts op ss ∧ (0 ≤ m ∧ m ≤ ss.length) ∧ ∀ j, j < m.toNat → runFit k p n ts op ss j
open Classical in
noncomputable def partB (k p n : Int) (ts : List Ten) (op : List Int) (ss : List Stp) (m : Int) : Bool := decide (partP k p n ts op ss m)
noncomputable def partTs (k p n : Int) (ts : List Ten) (op : List Int) (ss : List Stp) (m : Int) : List Ten := ifB (partB k p n ts op ss m) (outTo k p n ts op ss m.toNat) []
noncomputable def partOp (k p n : Int) (ts : List Ten) (op : List Int) (ss : List Stp) (m : Int) : List Int := ifB (partB k p n ts op ss m) op []
def PartR (k p n : Int) (ts : List Ten) (op : List Int) (ss : List Stp) (m : Int) (x : Value) (h : PH) : Prop :=
  NetB (ifB (partB k p n ts op ss m) k 0) (ifB (partB k p n ts op ss m) p 0) (ifB (partB k p n ts op ss m) n 0) (partTs k p n ts op ss m) (partOp k p n ts op ss m) (partB k p n ts op ss m) x h
theorem partB_true {k p n : Int} {ts : List Ten} {op : List Int} {ss : List Stp} {m : Int} : partB k p n ts op ss m = true ↔ partP k p n ts op ss m := by simp [partB]
theorem PartNo {k p n m : Int} {ts : List Ten} {op : List Int} {ss : List Stp} (h : ¬ partP k p n ts op ss m) : PartR k p n ts op ss m (.tuple [netV 0 0 0 (.slice none 0 0) (.slice none 0 0), .bool false].toArray) emp := by
  have e : partB k p n ts op ss m = false := by simp [partB, h]
  refine ⟨.slice none 0 0, .slice none 0 0, ?_, ?_⟩
  · rw [e]; rfl
  · rw [partTs, partOp, e]; exact NetO.nil
theorem PartYes {k p n m : Int} {ts : List Ten} {op : List Int} {ss : List Stp} {vt vo : Value} {g : PH} (h : partP k p n ts op ss m) (r : NetO (outTo k p n ts op ss m.toNat) op vt vo g) : PartR k p n ts op ss m (.tuple [netV k p n vt vo, .bool true].toArray) g := by
  have e : partB k p n ts op ss m = true := by simp [partB, h]
  refine ⟨vt, vo, ?_, ?_⟩
  · rw [e]; rfl
  · rw [partTs, partOp, e]; exact r
def conP (k p n : Int) (ts : List Ten) (op : List Int) (ss : List Stp) : Prop := orderL k p n ts op ss ∧ ∀ j, j < ss.length → runFit k p n ts op ss j
open Classical in
noncomputable def conB (k p n : Int) (ts : List Ten) (op : List Int) (ss : List Stp) : Bool := decide (conP k p n ts op ss)
noncomputable def lastT (k p n : Int) (ts : List Ten) (op : List Int) (ss : List Stp) : Ten := (runTo k p n ts op ss ss.length).getD (ts.length + ss.length - 1) noTen
noncomputable def conT (k p n : Int) (ts : List Ten) (op : List Int) (ss : List Stp) : Ten := if ts.length = 0 then oneT k p n else finT k p n (lastT k p n ts op ss) op
open Classical in
noncomputable def conR (k p n : Int) (ts : List Ten) (op : List Int) (ss : List Stp) : Ten := if conP k p n ts op ss then conT k p n ts op ss else noTen
theorem con_part {k p n : Int} {ts : List Ten} {op : List Int} {ss : List Stp} : partP k p n ts op ss ss.length ↔ conP k p n ts op ss := by
  unfold partP conP
  rw [Int.toNat_natCast]
  exact ⟨fun h => ⟨h.1, h.2.2⟩, fun h => ⟨h.1, by omega, h.2⟩⟩
section
variable {k p n : Int} {ts : List Ten} {op : List Int} {ss : List Stp}
theorem conP.last (h : conP k p n ts op ss) (hn : ts.length ≠ 0) : finP k p n ts op (lastT k p n ts op ss) ∧ outTo k p n ts op ss ss.length = [lastT k p n ts op ss] := by
  have r := run_ok h.1 ss.length (Nat.le_refl _) h.2
  have hl := run_left h.1 (fun e => hn (by rw [e]; rfl))
  have hg := r.get (j := ts.length + ss.length - 1) (by omega)
  refine ⟨⟨h.1.1, hg.1, fun x hx => ?_⟩, by rw [outTo, hl]; rfl⟩
  obtain ⟨j, hj, hxj⟩ := run_open h.1 hx ss.length (Nat.le_refl _)
  rw [hl] at hj
  simp at hj
  show x ∈ ((runTo k p n ts op ss ss.length).getD (ts.length + ss.length - 1) noTen).l
  rw [hg.2.1, ← hj]
  exact hxj
theorem conP.empty (h : conP k p n ts op ss) (hn : ts.length = 0) : op = [] := by
  refine List.eq_nil_iff_forall_not_mem.2 fun x hx => ?_
  obtain ⟨j, hj, e⟩ := getD_of_mem hx
  have ho := (open_at h.1.1.2.2.2.2 hj).2
  have e0 : ts = [] := List.eq_nil_of_length_eq_zero hn
  rw [e0] at ho
  simp [dimOf] at ho
theorem conP.ten (h : conP k p n ts op ss) : tensorL k p n (conT k p n ts op ss).l (conT k p n ts op ss).d (conT k p n ts op ss).x ∧ (conT k p n ts op ss).l = op := by
  unfold conT
  by_cases hn : ts.length = 0
  · rw [if_pos hn]; exact ⟨one_ten h.1.1.1, (h.empty hn).symm⟩
  · rw [if_neg hn]; exact ⟨perm_ten (h.last hn).1.perm, rfl⟩
end
theorem ConNo {k p n : Int} {ts : List Ten} {op : List Int} {ss : List Stp} (h : ¬ conP k p n ts op ss) : TenB (conR k p n ts op ss) (conB k p n ts op ss) (.tuple [tenV (.slice none 0 0) (.slice none 0 0) (.slice none 0 0), .bool false].toArray) emp :=
  ⟨.slice none 0 0, .slice none 0 0, .slice none 0 0, by simp [conB, h], by rw [conR, if_neg h]; exact triO_none⟩
theorem ConYes {k p n : Int} {ts : List Ten} {op : List Int} {ss : List Stp} {a b c : Value} {h : PH} (hp : conP k p n ts op ss) (r : TriO (conT k p n ts op ss) a b c h) : TenB (conR k p n ts op ss) (conB k p n ts op ss) (.tuple [tenV a b c, .bool true].toArray) h :=
  ⟨a, b, c, by simp [conB, hp], by rw [conR, if_pos hp]; exact r⟩
end Go.Proofs.YtehjljijionhaaaGreat
namespace Go.Proofs.YtehjljijionhaaaGreat
set_option maxRecDepth 100000
open Go.RowKit
theorem ten_size {k p n : Int} {t : Ten} (h : tensorL k p n t.l t.d t.x) : tenSize t ≤ 30000 := by
  have hl := ten_len h
  have hw := width_range h.1
  have hs := sizeI_ge.1 h.2.1
  have hx := h.2.2.1
  rw [sizeI_yes hs.1 hs.2] at hx
  have hm : prodI t.d * widthI k n ≤ 4096 * 6 := Int.mul_le_mul hs.2 hw.2 (by omega) (by omega)
  unfold tenSize
  omega
theorem con_size {k p n : Int} {ts : List Ten} {op : List Int} {ss : List Stp} : 0 ≤ tenSize (conR k p n ts op ss) ∧ tenSize (conR k p n ts op ss) ≤ 30000 := by
  refine ⟨tenSize_nn _, ?_⟩
  by_cases h : conP k p n ts op ss
  · rw [conR, if_pos h]; exact ten_size h.ten.1
  · rw [conR, if_neg h]; simp [tenSize]
end Go.Proofs.YtehjljijionhaaaGreat
namespace Go.Proofs.YtehjljijionhaaaGreat
set_option maxRecDepth 100000
open Go.RowKit
theorem fits_k2 {t u : Ten} {f : Int → Int} {ks : List Int} {v : Value} {g h : PH} (r : IntsO (selP (fun x => decide (x ∈ ks)) (joinI t.l u.l) ((joinI t.l u.l).map f)) v g) (l : PLe g h) : IntsR ((keepL t u ks).map f) v h := by
  rw [selP_map] at r
  exact r.toR.mono l
set_option maxHeartbeats 2000000 in
theorem ct_u_l08Fits (k p n : Int) (f : Int → Int) (t u : Ten) (ks : List Int) (a b c a' b' c' v : Value) (w : World) (r1 : IntsR t.l a (hp w)) (r2 : IntsR t.d b (hp w)) (r3 : IntsR t.x c (hp w)) (r1' : IntsR u.l a' (hp w)) (r2' : IntsR u.d b' (hp w)) (r3' : IntsR u.x c' (hp w)) (rk : IntsR ks v (hp w)) (h1 : tensorL k p n t.l t.d t.x) (h2 : tensorL k p n u.l u.d u.x) (ht : t.d = t.l.map f) (hu : u.d = u.l.map f) :
    Calls Tryz.prog 97 [tenV a b c, tenV a' b' c', v].toArray w (RetV w (.bool (pairB k p n t u ks))) := by
  have hat := ten_axes h1
  have hau := ten_axes h2
  have h12 := hat.1
  have h12' := hau.1
  have hun := axes_nodup hau
  have hjl := joinI_len t.l u.l
  have hdj : dimsIn ((joinI t.l u.l).map f) := map_dims fun x hx => by
    rcases mem_joinI.1 hx with h | h
    · exact dims_mem (axes_dims hat) _ (by rw [ht]; exact List.mem_map_of_mem h)
    · exact dims_mem (axes_dims hau) _ (by rw [hu]; exact List.mem_map_of_mem h)
  have hiff := pairP_iff (ks := ks) h1 h2 ht hu
  have hb : ∀ q : Bool, (q = true ↔ pairP k p n t u ks) → Value.bool q = .bool (pairB k p n t u ks) := fun q h => by
    congr 1
    rw [Bool.eq_iff_iff, h, pairB_true]
  refine calls_in Tryz.func97 rfl Tryz.ntmps97 rfl (Sat.start w) ?_
  have hle0 := r1.le
  have hle1 := r2.le
  have hle2 := r3.le
  have hle3 := r1'.le
  have hle4 := r2'.le
  have hle5 := r3'.le
  have hle6 := rk.le
  refine wp_sc ?_
  refine wp_sq ?_
  refine sq_x rfl (x_box rfl rfl) rfl ?_; rintro _ _ ⟨b3, rfl, rfl⟩
  refine sq_x rfl (x_box rfl rfl) rfl ?_; rintro _ _ ⟨b4, rfl, rfl⟩
  refine sq_v rfl (v_assign rfl) rfl ?_
  refine sq_end ?_
  refine qs_n ?_
  refine wp_sc ?_
  refine wp_sq ?_
  refine sq_v rfl (v_loadNB 1 ty_44 rfl rfl rfl rfl) rfl ?_
  refine sq_v rfl (v_loadNB 0 ty_44 rfl rfl rfl rfl) rfl ?_
  refine sq_x rfl (x_call rfl en_153 (fun w s => ct_u_l08Join f _ _ _ _ _ _ _ _ w (r1.mono (s.get 2 rfl)) (r2.mono (s.get 2 rfl)) (r1'.mono (s.get 2 rfl)) (r2'.mono (s.get 2 rfl)) (by first | assumption | omega) (by first | assumption | omega) (by first | assumption | omega) (by first | assumption | omega))) rfl ?_; rintro _ h13 ⟨v1, v2, rfl, q1, q2⟩
  refine sq_v rfl (v_move rfl) rfl ?_
  refine sq_v rfl (v_extract rfl rfl) rfl ?_
  refine sq_v rfl (v_extract rfl rfl) rfl ?_
  refine sq_v rfl (v_extract rfl rfl) rfl ?_
  refine sq_v rfl (v_assign rfl) rfl ?_
  refine sq_v rfl (v_assign rfl) rfl ?_
  refine sq_v rfl (v_assign rfl) rfl ?_
  refine sq_end ?_
  refine qs_n ?_
  refine wp_sc ?_
  refine wp_sq ?_
  refine sq_v rfl (v_move rfl) rfl ?_
  refine sq_v rfl (v_move rfl) rfl ?_
  refine sq_v rfl (v_move rfl) rfl ?_
  refine sq_u rfl (x_callv rfl en_134 (fun w s => ct_s_l05Product _ _ _ w (q2.mono (s.get 0 rfl)) (by first | assumption | omega) (by first | assumption | omega))) rfl ?_
  refine sq_v rfl (v_leq rfl rfl) rfl ?_
  refine sq_v rfl (v_pickt rfl rfl) rfl ?_
  refine sq_bd 22 rfl (fun c22 => ?_) (fun c22 => ?_)
  · refine sq_v rfl (v_move rfl) rfl ?_
    refine sq_v rfl (v_move rfl) rfl ?_
    refine sq_v rfl (v_move rfl) rfl ?_
    refine sq_v rfl (v_move rfl) rfl ?_
    refine sq_x rfl (x_call rfl en_154 (fun w s => ct_s_l08Keep _ _ _ _ _ _ w (q1.mono (s.get 0 rfl)) (q2.mono (s.get 0 rfl)) (rk.mono (s.get 3 rfl)) (by rw [List.length_map]) (by first | assumption | omega))) rfl ?_; rintro _ h27 ⟨k1, k2, g1, g2, rfl, rk1, rk2, mdk⟩
    refine sq_u rfl (x_callv rfl en_114 (fun w s => ct_s_TensorSize _ _ _ _ _ w ((rk1.toR.mono (mdk.le g1 (by simp))).mono (s.get 0 rfl)) ((fits_k2 rk2 (mdk.le g2 (by simp))).mono (s.get 0 rfl)))) rfl ?_
    refine sq_v rfl (v_geq rfl rfl) rfl ?_
    refine sq_v rfl (v_pickt rfl rfl) rfl ?_
    refine sq_v rfl (v_assign rfl) rfl ?_
    refine sq_end ?_
    refine qs_n ?_
    refine wp_rt ?_
    exact qs_ret1 rfl rfl (fin_q (i := 4) rfl (hb _ (by rw [hiff, decide_eq_true_eq]; exact ⟨fun h => ⟨by omega, h⟩, fun h => h.2⟩)))
  · refine sq_v rfl (v_move rfl) rfl ?_
    refine sq_s rfl rfl ?_
    refine sq_s rfl rfl ?_
    refine sq_s rfl rfl ?_
    refine sq_s rfl rfl ?_
    refine sq_s rfl rfl ?_
    refine sq_s rfl rfl ?_
    refine sq_v rfl (v_pickf rfl rfl) rfl ?_
    refine sq_v rfl (v_assign rfl) rfl ?_
    refine sq_end ?_
    refine qs_n ?_
    refine wp_rt ?_
    exact qs_ret1 rfl rfl (fin_q (i := 3) rfl (hb _ (by rw [hiff]; exact ⟨fun h => (by cases h), fun h => absurd h.1 (by omega)⟩)))
theorem ct_u_l08Pair (k p n : Int) (t u : Ten) (ks : List Int) (a b c a' b' c' v : Value) (w : World) (r1 : IntsR t.l a (hp w)) (r2 : IntsR t.d b (hp w)) (r3 : IntsR t.x c (hp w)) (r1' : IntsR u.l a' (hp w)) (r2' : IntsR u.d b' (hp w)) (r3' : IntsR u.x c' (hp w)) (rk : IntsR ks v (hp w)) (hp' : pairP k p n t u ks) :
    Calls Tryz.prog 99 [ringV k p n, tenV a b c, tenV a' b' c', v].toArray w (Ret w emp (TenT (pairR k p n t u ks))) := by
  have ok := pair_ok hp'.1 hp'.2.1 hp'.2.2.1 hp'.2.2.2.1
  have := ct_s_l08Pair k p n t u (dimJ t u) (keepL t u ks) ks a b c a' b' c' v w r1 r2 r3 r1' r2' r3' rk ok rfl (keep_ok ok hp'.2.2.2.2) (sizeI_ge.1 hp'.2.2.2.2).1.1
  rw [pairR, if_pos hp']
  exact this
set_option maxHeartbeats 1000000 in
theorem ct_s_l18Finish (k p n : Int) (ts : List Ten) (op : List Int) (t : Ten) (vt vo a b c : Value) (w : World) (r : TensR ts vt (hp w)) (r' : IntsR op vo (hp w)) (r1 : IntsR t.l a (hp w)) (r2 : IntsR t.d b (hp w)) (r3 : IntsR t.x c (hp w)) (ht : tensorL k p n t.l t.d t.x) (hn : op.Nodup) (hs : ∀ x ∈ op, x ∈ t.l) :
    Calls Tryz.prog 70 [netV k p n vt vo, tenV a b c].toArray w (Ret w emp (TenT (finT k p n t op))) := by
  have hpm := fin_perm ht hn hs
  refine calls_in Tryz.func70 rfl Tryz.ntmps70 rfl (Sat.start w) ?_
  have hle0 := r.le
  obtain ⟨cs_r, rr_r, hc_r⟩ := r.at
  have hle1 := r'.le
  have hle2 := r1.le
  have hle3 := r2.le
  have hle4 := r3.le
  refine wp_sc ?_
  refine wp_sq ?_
  refine sq_x rfl (x_box rfl rfl) rfl ?_; rintro _ _ ⟨b2, rfl, rfl⟩
  refine sq_x rfl (x_box rfl rfl) rfl ?_; rintro _ _ ⟨b3, rfl, rfl⟩
  refine sq_x rfl (x_alloc ty_44 rfl) rfl ?_; rintro _ _ ⟨b4, rfl, rfl⟩
  refine sq_end ?_
  refine qs_n ?_
  refine wp_sc ?_
  refine wp_rj 11 [(0, true), (1, true), (2, true), (3, true), (4, true), (5, true), (6, true), (8, true), (9, true), (7, false), (10, false), (11, false)] mixed_ok (by kernel_rfl) ?_
  refine rj_v rfl rfl (v_fieldAddr fd_34_0 ty_31 (by decide) rfl) rfl ?_
  refine rj_v rfl rfl (v_loadNB 2 ty_31 rfl rfl rfl rfl) rfl ?_
  refine rj_v rfl rfl (v_fieldAddr fd_34_0 ty_31 (by decide) rfl) rfl ?_
  refine rj_v rfl rfl (v_loadNB 2 ty_31 rfl rfl rfl rfl) rfl ?_
  refine rj_v rfl rfl (v_loadNB 1 ty_44 rfl rfl rfl rfl) rfl ?_
  refine rj_v rfl rfl (v_fieldAddr fd_34_2 ty_25 (by decide) rfl) rfl ?_
  refine rj_v rfl rfl (v_loadB 2 ty_25 rfl rfl rfl) rfl ?_
  refine rj_v rfl rfl (v_fieldAddr fd_34_2 ty_25 (by decide) rfl) rfl ?_
  refine rj_v rfl rfl (v_loadB 2 ty_25 rfl rfl rfl) rfl ?_
  refine rj_x rfl rfl (x_call rfl en_119 (fun w s => ct_s_l08Sum _ _ _ _ _ _ _ _ _ w (r1.mono (s.get 3 rfl)) (r2.mono (s.get 3 rfl)) (r3.mono (s.get 3 rfl)) (r'.mono (s.get 3 rfl)) (by first | assumption | omega))) rfl ?_; rintro _ h12 ⟨va12, vb12, vc12, rfl, o12⟩
  refine rj_x rfl rfl (x_call rfl en_98 (fun w s => ct_s_l06Permute _ _ _ _ _ _ _ _ _ w (o12.toR.1.mono (s.get 0 rfl)) (o12.toR.2.1.mono (s.get 0 rfl)) (o12.toR.2.2.mono (s.get 0 rfl)) (r'.mono (s.get 4 rfl)) (by first | assumption | omega))) rfl ?_; rintro _ h15 ⟨va15, vb15, vc15, rfl, o15⟩
  refine rj_m 2 rfl rfl rfl rfl (m_store 2 ty_44 rfl rfl rfl rfl (by simp [o15.toR.1.sl.one, o15.toR.2.1.sl.one, o15.toR.2.2.sl.one]) rfl (Nat.le_of_ble_eq_true rfl)) rfl ?_; rintro _ _ ⟨rfl, rfl⟩
  refine rj_end ?_
  refine qs_n ?_
  refine wp_rt ?_
  exact qs_retc 2 rfl ty_44 rfl rfl rfl (fin_t 0 (i := 5) rfl rfl rfl (⟨_, _, _, rfl, o15⟩))
set_option maxHeartbeats 1000000 in
theorem ct_i_allIn (xs ys : List Int) (v u : Value) (w : World) (r : IntsR xs v (hp w)) (r' : IntsR ys u (hp w)) : Calls Tryz.prog 126 [v, u].toArray w (RetV w (.bool (decide (∀ x ∈ xs, x ∈ ys)))) := by
  refine calls_in Tryz.func126 rfl Tryz.ntmps126 rfl (Sat.start w) ?_
  have hle0 := r.le
  have hle1 := r'.le
  refine wp_sc ?_
  refine wp_sq ?_
  refine sq_v rfl (v_assign rfl) rfl ?_
  refine sq_end ?_
  refine qs_n ?_
  refine wp_sc ?_
  refine wp_sc ?_
  refine wp_sq ?_
  refine sq_v rfl (v_move rfl) rfl ?_
  refine sq_v rfl (v_len Tryz.underlying25 rfl r.sl) rfl ?_
  refine sq_v rfl (v_move rfl) rfl ?_
  refine sq_end ?_
  refine qs_n ?_
  refine wp_bl ?_
  refine wp_lp (σ := Nat) (fun z_ => [(1, u), (4, .bool false), (7, v), (8, num xs.length), (9, num z_)]) (fun z_ => [hp w]) (fun z_ => z_ ≤ xs.length ∧ (∀ j, j < z_ → xs.getD j 0 ∈ ys)) (fun z_ => xs.length - z_) 0 (⟨by omega, fun j hj => by omega⟩) ⟨rfl, rfl, rfl, rfl, (by first | rfl | exact ksub rfl (by first | omega | (simp; done) | (simp; omega))), trivial⟩ (fun _ s => s) ?_
  rintro i ⟨hi, ha⟩
  refine wp_sc ?_
  refine wp_sq ?_
  refine sq_v rfl (v_lss rfl rfl) rfl ?_
  refine sq_end ?_
  refine qs_n ?_
  refine wp_sc ?_
  refine wp_cd rfl (fun c10 => ?_) (fun c10 => ?_)
  · refine wp_sk ?_
    refine qs_n ?_
    refine wp_sc ?_
    refine wp_bl ?_
    refine wp_sc ?_
    refine wp_sq ?_
    refine sq_v rfl (v_idxI Tryz.underlying25 ty_3 rfl rfl r (by first | omega | (simp only [List.length_cons, List.length_nil]; omega) | (simp only [List.length_append, List.length_cons, List.length_nil]; omega) | (rw [List.length_set]; omega) | (rw [List.length_replicate]; omega) | (simp; omega)) (by first | omega | (simp only [List.length_cons, List.length_nil]; omega) | (simp only [List.length_append, List.length_cons, List.length_nil]; omega) | (rw [List.length_set]; omega) | (rw [List.length_replicate]; omega) | (simp; omega))) rfl ?_
    refine sq_v rfl (v_loadI (k := i) 0 ty_3 rfl rfl r (by first | omega | (simp only [List.length_cons, List.length_nil]; omega) | (simp only [List.length_append, List.length_cons, List.length_nil]; omega) | (rw [List.length_set]; omega) | (rw [List.length_replicate]; omega) | (simp; omega))) rfl ?_
    refine sq_v rfl (v_assign rfl) rfl ?_
    refine sq_end ?_
    refine qs_n ?_
    refine wp_sc ?_
    refine wp_sq ?_
    refine sq_v rfl (v_move rfl) rfl ?_
    refine sq_v rfl (v_move rfl) rfl ?_
    refine sq_u rfl (x_callv rfl en_141 (fun w s => ct_i_hasInt _ _ _ w (r'.mono (s.get 0 rfl)))) rfl ?_
    refine sq_v rfl (v_not rfl) rfl ?_
    refine sq_end ?_
    refine qs_n ?_
    refine wp_cnd rfl (fun c16 => ?_) (fun c16 => ?_)
    · refine wp_sc ?_
      refine wp_sq ?_
      refine sq_v rfl (v_assign rfl) rfl ?_
      refine sq_end ?_
      refine qs_n ?_
      refine wp_rt ?_
      refine qs_br ?_
      refine qs_r ?_
      refine qs_r ?_
      refine qs_br ?_
      refine qs_r ?_
      exact qs_ret1 rfl rfl (fin_q (i := 0) rfl (by rw [decide_eq_false]; exact fun h => absurd (h _ (mem_getD (k := i) (by omega))) (by simpa using c16)))
    · refine wp_sk ?_
      refine qs_bn ?_
      refine qs_n ?_
      refine wp_sq ?_
      refine sq_v rfl (v_add rfl rfl ((by unfold I64; omega))) rfl ?_
      refine sq_v rfl (v_move rfl) rfl ?_
      refine sq_end ?_
      exact qs_bk (i + 1) ⟨by omega, step_all ha (by simpa using c16)⟩ (by omega) ⟨rfl, rfl, rfl, rfl, (by first | rfl | exact ksub rfl (by first | omega | (simp; done) | (simp; omega))), trivial⟩ (fun _ s => s)
  · refine wp_ex ?_
    refine qs_x ?_
    refine qs_x ?_
    refine qs_bx ?_
    refine qs_n ?_
    refine wp_sc ?_
    refine wp_sq ?_
    refine sq_v rfl (v_assign rfl) rfl ?_
    refine sq_end ?_
    refine qs_n ?_
    refine wp_rt ?_
    exact qs_ret1 rfl rfl (fin_q (i := 0) rfl (by rw [decide_eq_true]; exact all_of fun j hj => ha j (by omega)))
theorem PermNo {k p n : Int} {t : Ten} {ls : List Int} {q : Bool} (h : q = false) : TenB (ifB q (permT k n t ls) noTen) q (.tuple [tenV (.slice none 0 0) (.slice none 0 0) (.slice none 0 0), .bool false].toArray) emp :=
  ⟨.slice none 0 0, .slice none 0 0, .slice none 0 0, by rw [h], by rw [h]; exact triO_none⟩
def perP (k p n : Int) (t : Ten) (ls : List Int) : Prop := tensorL k p n t.l t.d t.x ∧ setL t.l ls
open Classical in
noncomputable def perB (k p n : Int) (t : Ten) (ls : List Int) : Bool := decide (perP k p n t ls)
theorem perB_true {k p n : Int} {t : Ten} {ls : List Int} : perB k p n t ls = true ↔ perP k p n t ls := by simp [perB]
theorem perB_no {k p n : Int} {t : Ten} {ls : List Int} (h : ¬ perP k p n t ls) : perB k p n t ls = false := by simp [perB, h]
theorem ct_i_PermuteTensor (k p n : Int) (t : Ten) (ls : List Int) (a b c v : Value) (w : World) (r1 : IntsR t.l a (hp w)) (r2 : IntsR t.d b (hp w)) (r3 : IntsR t.x c (hp w)) (rl : IntsR ls v (hp w)) :
    Calls Tryz.prog 102 [ringV k p n, tenV a b c, v].toArray w (Ret w emp (TenB (ifB (perB k p n t ls) (permT k n t ls) noTen) (perB k p n t ls))) := by
  refine calls_in Tryz.func102 rfl Tryz.ntmps102 rfl (Sat.start w) ?_
  have hle0 := r1.le
  have hle1 := r2.le
  have hle2 := r3.le
  have hle3 := rl.le
  refine wp_sc ?_
  refine wp_sq ?_
  refine sq_x rfl (x_box rfl rfl) rfl ?_; rintro _ _ ⟨b3, rfl, rfl⟩
  refine sq_x rfl (x_box rfl rfl) rfl ?_; rintro _ _ ⟨b4, rfl, rfl⟩
  refine sq_x rfl (x_alloc ty_44 rfl) rfl ?_; rintro _ _ ⟨b6, rfl, rfl⟩
  refine sq_v rfl (v_assign rfl) rfl ?_
  refine sq_end ?_
  refine qs_n ?_
  refine wp_sc ?_
  refine wp_sc ?_
  refine wp_sq ?_
  refine sq_v rfl (v_loadNB 2 ty_31 rfl rfl rfl rfl) rfl ?_
  refine sq_v rfl (v_loadNB 1 ty_44 rfl rfl rfl rfl) rfl ?_
  refine sq_u rfl (x_callv rfl en_125 (fun w s => ct_i_TensorOk _ _ _ _ _ _ _ _ _ w (r1.mono (s.get 3 rfl)) (r2.mono (s.get 3 rfl)) (r3.mono (s.get 3 rfl)))) rfl ?_
  refine sq_bb 10 rfl (fun c10 => ?_) (fun c10 => ?_)
  · refine sq_v rfl (v_not rfl) rfl ?_
    refine sq_v rfl (v_move rfl) rfl ?_
    refine sq_v rfl (v_fieldAddr fd_44_0 ty_25 (by decide) rfl) rfl ?_
    refine sq_v rfl (v_loadB 1 ty_25 rfl rfl rfl) rfl ?_
    refine sq_v rfl (v_move rfl) rfl ?_
    refine sq_u rfl (x_callv rfl en_168 (fun w s => ct_i_sameLabels _ _ _ _ w (r1.mono (s.get 3 rfl)) (rl.mono (s.get 3 rfl)))) rfl ?_
    refine sq_v rfl (v_not rfl) rfl ?_
    refine sq_v rfl (v_pickf rfl rfl) rfl ?_
    refine sq_end ?_
    refine qs_n ?_
    refine wp_cn _ rfl (fun c18 => ?_) (fun c18 => ?_)
    · refine wp_sc ?_
      refine wp_sq ?_
      refine sq_v rfl (v_build [.slice none 0 0, .slice none 0 0, .slice none 0 0] rfl (by kernel_rfl)) rfl ?_
      refine sq_m 0 rfl rfl (m_store 0 ty_44 rfl rfl rfl rfl (by simp [one_sl]) rfl (Nat.le_of_ble_eq_true rfl)) rfl ?_; rintro _ _ ⟨rfl, rfl⟩
      refine sq_v rfl (v_assign rfl) rfl ?_
      refine sq_end ?_
      refine qs_n ?_
      refine wp_rt ?_
      refine qs_r ?_
      exact qs_retct 0 rfl ty_44 rfl rfl rfl rfl (fin_e (i := 3) rfl (PermNo (p := p) (perB_no (fun h => by first | exact tensorB_false.1 c10 h.1 | exact setB_false.1 c18 h.2))))
    · refine wp_sk ?_
      refine qs_n ?_
      refine wp_sc ?_
      refine wp_sq ?_
      refine sq_v rfl (v_loadNB 2 ty_31 rfl rfl rfl rfl) rfl ?_
      refine sq_v rfl (v_loadNB 1 ty_44 rfl rfl rfl rfl) rfl ?_
      refine sq_v rfl (v_move rfl) rfl ?_
      have h1 := tensorB_true.1 c10; have h2 := setB_true.1 c18; have hok : PermOK k p n t ls := ⟨h1.1, h1, setL_perm h2⟩
      refine sq_x rfl (x_call rfl en_169 (fun w s => ct_i_rawPermute _ _ _ _ _ _ _ _ _ w (r1.mono (s.get 3 rfl)) (r2.mono (s.get 3 rfl)) (r3.mono (s.get 3 rfl)) (rl.mono (s.get 3 rfl)) (by first | assumption | omega))) rfl ?_; rintro _ h23 ⟨va23, vb23, vc23, rfl, o23⟩
      refine sq_m 1 rfl rfl (m_store 1 ty_44 rfl rfl rfl rfl (by simp [o23.toR.1.sl.one, o23.toR.2.1.sl.one, o23.toR.2.2.sl.one]) rfl (Nat.le_of_ble_eq_true rfl)) rfl ?_; rintro _ _ ⟨rfl, rfl⟩
      refine sq_v rfl (v_assign rfl) rfl ?_
      refine sq_end ?_
      refine qs_n ?_
      refine wp_rt ?_
      exact qs_retct 1 rfl ty_44 rfl rfl rfl rfl (fin_t 0 (i := 4) rfl rfl rfl (by rw [perB_true.2 ⟨h1, h2⟩]; exact ⟨_, _, _, rfl, o23⟩))
  · refine sq_v rfl (v_not rfl) rfl ?_
    refine sq_v rfl (v_move rfl) rfl ?_
    refine sq_s rfl rfl ?_
    refine sq_s rfl rfl ?_
    refine sq_s rfl rfl ?_
    refine sq_s rfl rfl ?_
    refine sq_s rfl rfl ?_
    refine sq_v rfl (v_pickt rfl rfl) rfl ?_
    refine sq_end ?_
    refine qs_n ?_
    refine wp_ct rfl ?_
    refine wp_sc ?_
    refine wp_sq ?_
    refine sq_v rfl (v_build [.slice none 0 0, .slice none 0 0, .slice none 0 0] rfl (by kernel_rfl)) rfl ?_
    refine sq_m 0 rfl rfl (m_store 0 ty_44 rfl rfl rfl rfl (by simp [one_sl]) rfl (Nat.le_of_ble_eq_true rfl)) rfl ?_; rintro _ _ ⟨rfl, rfl⟩
    refine sq_v rfl (v_assign rfl) rfl ?_
    refine sq_end ?_
    refine qs_n ?_
    refine wp_rt ?_
    refine qs_r ?_
    exact qs_retct 0 rfl ty_44 rfl rfl rfl rfl (fin_e (i := 3) rfl (PermNo (p := p) (perB_no (fun h => by first | exact tensorB_false.1 c10 h.1 | exact setB_false.1 c18 h.2))))
set_option maxHeartbeats 1000000 in
theorem ct_i_FinishTensor (k p n : Int) (ts : List Ten) (op : List Int) (t : Ten) (vt vo a b c : Value) (w : World) (r : TensR ts vt (hp w)) (r' : IntsR op vo (hp w)) (r1 : IntsR t.l a (hp w)) (r2 : IntsR t.d b (hp w)) (r3 : IntsR t.x c (hp w)) (hs : op.length ≤ 1048576) :
    Calls Tryz.prog 74 [netV k p n vt vo, tenV a b c].toArray w (Ret w emp (TenB (finR k p n ts op t) (finB k p n ts op t))) := by
  refine calls_in Tryz.func74 rfl Tryz.ntmps74 rfl (Sat.start w) ?_
  have hle0 := r.le
  obtain ⟨cs_r, rr_r, hc_r⟩ := r.at
  have hle1 := r'.le
  have hle2 := r1.le
  have hle3 := r2.le
  have hle4 := r3.le
  refine wp_sc ?_
  refine wp_sq ?_
  refine sq_x rfl (x_box rfl rfl) rfl ?_; rintro _ _ ⟨b2, rfl, rfl⟩
  refine sq_x rfl (x_box rfl rfl) rfl ?_; rintro _ _ ⟨b3, rfl, rfl⟩
  refine sq_x rfl (x_alloc ty_44 rfl) rfl ?_; rintro _ _ ⟨b4, rfl, rfl⟩
  refine sq_v rfl (v_assign rfl) rfl ?_
  refine sq_end ?_
  refine qs_n ?_
  refine wp_sc ?_
  refine wp_sc ?_
  refine wp_sq ?_
  refine sq_v rfl (v_loadNB 2 ty_34 rfl rfl rfl rfl) rfl ?_
  refine sq_u rfl (x_callv rfl en_78 (fun w s => ct_i_NetworkOk _ _ _ _ _ _ _ w (r.mono (s.get 3 rfl)) (r'.mono (s.get 3 rfl)) (by first | assumption | omega))) rfl ?_
  refine sq_bb 7 rfl (fun c7 => ?_) (fun c7 => ?_)
  · refine sq_v rfl (v_not rfl) rfl ?_
    refine sq_v rfl (v_move rfl) rfl ?_
    refine sq_v rfl (v_fieldAddr fd_34_0 ty_31 (by decide) rfl) rfl ?_
    refine sq_v rfl (v_loadNB 2 ty_31 rfl rfl rfl rfl) rfl ?_
    refine sq_v rfl (v_loadNB 1 ty_44 rfl rfl rfl rfl) rfl ?_
    refine sq_u rfl (x_callv rfl en_125 (fun w s => ct_i_TensorOk _ _ _ _ _ _ _ _ _ w (r1.mono (s.get 3 rfl)) (r2.mono (s.get 3 rfl)) (r3.mono (s.get 3 rfl)))) rfl ?_
    refine sq_v rfl (v_not rfl) rfl ?_
    refine sq_v rfl (v_pickf rfl rfl) rfl ?_
    refine sq_bn 15 rfl (fun c15 => ?_) (fun c15 => ?_)
    · refine sq_v rfl (v_move rfl) rfl ?_
      refine sq_s rfl rfl ?_
      refine sq_s rfl rfl ?_
      refine sq_s rfl rfl ?_
      refine sq_s rfl rfl ?_
      refine sq_s rfl rfl ?_
      refine sq_s rfl rfl ?_
      refine sq_v rfl (v_pickt rfl rfl) rfl ?_
      refine sq_end ?_
      refine qs_n ?_
      refine wp_ct rfl ?_
      refine wp_sc ?_
      refine wp_sq ?_
      refine sq_v rfl (v_build [.slice none 0 0, .slice none 0 0, .slice none 0 0] rfl (by kernel_rfl)) rfl ?_
      refine sq_m 0 rfl rfl (m_store 0 ty_44 rfl rfl rfl rfl (by simp [one_sl]) rfl (Nat.le_of_ble_eq_true rfl)) rfl ?_; rintro _ _ ⟨rfl, rfl⟩
      refine sq_v rfl (v_assign rfl) rfl ?_
      refine sq_end ?_
      refine qs_n ?_
      refine wp_rt ?_
      refine qs_r ?_
      exact qs_retct 0 rfl ty_44 rfl rfl rfl rfl (fin_e (i := 3) rfl (FinNo (fun h => by first | exact netB_false.1 c7 h.1 | exact tensorB_false.1 c15 h.2.1 | exact absurd h.2.2 (by simpa using c23))))
    · refine sq_v rfl (v_move rfl) rfl ?_
      refine sq_v rfl (v_fieldAddr fd_34_2 ty_25 (by decide) rfl) rfl ?_
      refine sq_v rfl (v_loadB 2 ty_25 rfl rfl rfl) rfl ?_
      refine sq_v rfl (v_fieldAddr fd_44_0 ty_25 (by decide) rfl) rfl ?_
      refine sq_v rfl (v_loadB 1 ty_25 rfl rfl rfl) rfl ?_
      refine sq_u rfl (x_callv rfl en_126 (fun w s => ct_i_allIn _ _ _ _ w (r'.mono (s.get 3 rfl)) (r1.mono (s.get 3 rfl)))) rfl ?_
      refine sq_v rfl (v_not rfl) rfl ?_
      refine sq_v rfl (v_pickf rfl rfl) rfl ?_
      refine sq_end ?_
      refine qs_n ?_
      refine wp_cnd rfl (fun c23 => ?_) (fun c23 => ?_)
      · refine wp_sc ?_
        refine wp_sq ?_
        refine sq_v rfl (v_build [.slice none 0 0, .slice none 0 0, .slice none 0 0] rfl (by kernel_rfl)) rfl ?_
        refine sq_m 0 rfl rfl (m_store 0 ty_44 rfl rfl rfl rfl (by simp [one_sl]) rfl (Nat.le_of_ble_eq_true rfl)) rfl ?_; rintro _ _ ⟨rfl, rfl⟩
        refine sq_v rfl (v_assign rfl) rfl ?_
        refine sq_end ?_
        refine qs_n ?_
        refine wp_rt ?_
        refine qs_r ?_
        exact qs_retct 0 rfl ty_44 rfl rfl rfl rfl (fin_e (i := 3) rfl (FinNo (fun h => by first | exact netB_false.1 c7 h.1 | exact tensorB_false.1 c15 h.2.1 | exact absurd h.2.2 (by simpa using c23))))
      · refine wp_sk ?_
        refine qs_n ?_
        refine wp_sc ?_
        refine wp_rj 13 [(0, true), (1, true), (2, true), (3, true), (4, true), (5, true), (6, true), (8, true), (9, true), (7, false), (10, false), (11, true), (12, true), (13, false), (14, false)] mixed_ok (by kernel_rfl) ?_
        have hnet := netB_true.1 c7; have hten := tensorB_true.1 c15; have hall : ∀ x ∈ op, x ∈ t.l := (by simpa using c23); have hfp : finP k p n ts op t := ⟨hnet, hten, hall⟩; have hpm := hfp.perm; have hB := perB_true.2 (show perP k p n (sumR k p n t op) op from ⟨hpm.ten, setL_of_perm hpm.perm.symm (net_open hnet).1⟩)
        refine rj_v rfl rfl (v_fieldAddr fd_34_0 ty_31 (by decide) rfl) rfl ?_
        refine rj_v rfl rfl (v_loadNB 2 ty_31 rfl rfl rfl rfl) rfl ?_
        refine rj_v rfl rfl (v_fieldAddr fd_34_0 ty_31 (by decide) rfl) rfl ?_
        refine rj_v rfl rfl (v_loadNB 2 ty_31 rfl rfl rfl rfl) rfl ?_
        refine rj_v rfl rfl (v_loadNB 1 ty_44 rfl rfl rfl rfl) rfl ?_
        refine rj_v rfl rfl (v_fieldAddr fd_34_2 ty_25 (by decide) rfl) rfl ?_
        refine rj_v rfl rfl (v_loadB 2 ty_25 rfl rfl rfl) rfl ?_
        refine rj_v rfl rfl (v_fieldAddr fd_34_2 ty_25 (by decide) rfl) rfl ?_
        refine rj_v rfl rfl (v_loadB 2 ty_25 rfl rfl rfl) rfl ?_
        refine rj_x rfl rfl (x_call rfl en_127 (fun w s => ct_i_SumLabels _ _ _ _ _ _ _ _ _ w (r1.mono (s.get 3 rfl)) (r2.mono (s.get 3 rfl)) (r3.mono (s.get 3 rfl)) (r'.mono (s.get 3 rfl)))) rfl ?_; rintro _ h32 ⟨va32, vb32, vc32, rfl, o32⟩
        refine rj_x rfl rfl (x_call rfl en_102 (fun w s => ct_i_PermuteTensor _ _ _ _ _ _ _ _ _ w (o32.toR.1.mono (s.get 0 rfl)) (o32.toR.2.1.mono (s.get 0 rfl)) (o32.toR.2.2.mono (s.get 0 rfl)) (r'.mono (s.get 4 rfl)))) rfl ?_; rintro _ h35 ⟨va35, vb35, vc35, rfl, o35⟩
        refine rj_v rfl rfl (v_extract rfl rfl) rfl ?_
        refine rj_v rfl rfl (v_extract rfl rfl) rfl ?_
        refine rj_m 2 rfl rfl rfl rfl (m_store 2 ty_44 rfl rfl rfl rfl (by simp [o35.toR.1.sl.one, o35.toR.2.1.sl.one, o35.toR.2.2.sl.one]) rfl (Nat.le_of_ble_eq_true rfl)) rfl ?_; rintro _ _ ⟨rfl, rfl⟩
        refine rj_fv rfl rfl (v_assign rfl) rfl ?_
        refine rj_end ?_
        rw [hB] at o35
        refine qs_n ?_
        refine wp_rt ?_
        exact qs_retct 2 rfl ty_44 rfl rfl rfl rfl (fin_t 0 (i := 5) rfl rfl rfl (by rw [hB]; exact FinYes hfp o35))
  · refine sq_v rfl (v_not rfl) rfl ?_
    refine sq_v rfl (v_move rfl) rfl ?_
    refine sq_s rfl rfl ?_
    refine sq_s rfl rfl ?_
    refine sq_s rfl rfl ?_
    refine sq_s rfl rfl ?_
    refine sq_s rfl rfl ?_
    refine sq_v rfl (v_pickt rfl rfl) rfl ?_
    refine sq_v rfl (v_move rfl) rfl ?_
    refine sq_s rfl rfl ?_
    refine sq_s rfl rfl ?_
    refine sq_s rfl rfl ?_
    refine sq_s rfl rfl ?_
    refine sq_s rfl rfl ?_
    refine sq_s rfl rfl ?_
    refine sq_v rfl (v_pickt rfl rfl) rfl ?_
    refine sq_end ?_
    refine qs_n ?_
    refine wp_ct rfl ?_
    refine wp_sc ?_
    refine wp_sq ?_
    refine sq_v rfl (v_build [.slice none 0 0, .slice none 0 0, .slice none 0 0] rfl (by kernel_rfl)) rfl ?_
    refine sq_m 0 rfl rfl (m_store 0 ty_44 rfl rfl rfl rfl (by simp [one_sl]) rfl (Nat.le_of_ble_eq_true rfl)) rfl ?_; rintro _ _ ⟨rfl, rfl⟩
    refine sq_v rfl (v_assign rfl) rfl ?_
    refine sq_end ?_
    refine qs_n ?_
    refine wp_rt ?_
    refine qs_r ?_
    exact qs_retct 0 rfl ty_44 rfl rfl rfl rfl (fin_e (i := 3) rfl (FinNo (fun h => by first | exact netB_false.1 c7 h.1 | exact tensorB_false.1 c15 h.2.1 | exact absurd h.2.2 (by simpa using c23))))
end Go.Proofs.YtehjljijionhaaaGreat
namespace Go.Proofs.YtehjljijionhaaaGreat
set_option maxRecDepth 100000
open Go.RowKit
theorem OwnH.at {ts : List Ten} {cs : List Value} {h : PH} (o : OwnH (flat ts) cs h) (i : Nat) (hi : i < ts.length) : ∃ t a b c, ts[i]? = some t ∧ (cs.drop (i * 3)).take 3 = [a, b, c] ∧ IntsR t.l a h ∧ IntsR t.d b h ∧ IntsR t.x c h := by
  obtain ⟨l, ol, m⟩ := o
  have ht : ts[i]? = some ts[i] := List.getElem?_eq_getElem hi
  obtain ⟨f1, f2, f3⟩ := tens_get ht
  obtain ⟨a, h1, e1, g1, r1⟩ := ol.own _ _ f1
  obtain ⟨b, h2, e2, g2, r2⟩ := ol.own _ _ f2
  obtain ⟨c, h3, e3, g3, r3⟩ := ol.own _ _ f3
  exact ⟨_, a, b, c, ht, three_at e1 e2 e3, r1.toR.mono (m.le _ (List.mem_of_getElem? g1)), r2.toR.mono (m.le _ (List.mem_of_getElem? g2)), r3.toR.mono (m.le _ (List.mem_of_getElem? g3))⟩
theorem stp_take {ss : List Stp} {i m : Nat} {x : Stp} (h : (ss.take m)[i]? = some x) : ss[i]? = some x ∧ i < m ∧ i < ss.length := by
  have h1 := (List.getElem?_eq_some_iff.1 h).1
  simp only [List.length_take] at h1
  rw [List.getElem?_take, if_pos (by omega)] at h
  exact ⟨h, by omega, by omega⟩
set_option maxHeartbeats 4000000 in
theorem ct_i_PartialNetwork (k p n m : Int) (ts : List Ten) (op : List Int) (ss : List Stp) (vt vo v : Value) (w : World) (r : TensR ts vt (hp w)) (r' : IntsR op vo (hp w)) (rv : StepsR ss v (hp w)) (hs : op.length ≤ 1048576) :
    Calls Tryz.prog 72 [netV k p n vt vo, v, num m].toArray w (Ret w emp (PartR k p n ts op ss m)) := by
  refine calls_in Tryz.func72 rfl Tryz.ntmps72 rfl (Sat.start w) ?_
  have hle0 := r.le
  obtain ⟨cs_r, rr_r, hc_r⟩ := r.at
  have hle1 := r'.le
  have hle2 := rv.le
  obtain ⟨cs_rv, rr_rv, hc_rv⟩ := rv.at
  refine wp_sc ?_
  refine wp_sq ?_
  refine sq_x rfl (x_box rfl rfl) rfl ?_; rintro _ _ ⟨b3, rfl, rfl⟩
  refine sq_x rfl (x_alloc ty_34 rfl) rfl ?_; rintro _ _ ⟨b6, rfl, rfl⟩
  refine sq_v rfl (v_assign rfl) rfl ?_
  refine sq_end ?_
  refine qs_n ?_
  refine wp_sc ?_
  refine wp_sc ?_
  refine wp_sq ?_
  refine sq_v rfl (v_loadNB 1 ty_34 rfl rfl rfl rfl) rfl ?_
  refine sq_v rfl (v_move rfl) rfl ?_
  refine sq_u rfl (x_callv rfl en_120 (fun w s => ct_i_OrderOk _ _ _ _ _ _ _ _ _ w (r.mono (s.get 2 rfl)) (r'.mono (s.get 2 rfl)) (rv.mono (s.get 2 rfl)) (by first | assumption | omega))) rfl ?_
  refine sq_bb 21 rfl (fun c21 => ?_) (fun c21 => ?_)
  · refine sq_v rfl (v_not rfl) rfl ?_
    refine sq_v rfl (v_move rfl) rfl ?_
    refine sq_v rfl (v_move rfl) rfl ?_
    refine sq_v rfl (v_lss rfl rfl) rfl ?_
    refine sq_v rfl (v_pickf rfl rfl) rfl ?_
    refine sq_bd 26 rfl (fun c26 => ?_) (fun c26 => ?_)
    · refine sq_v rfl (v_move rfl) rfl ?_
      refine sq_s rfl rfl ?_
      refine sq_s rfl rfl ?_
      refine sq_s rfl rfl ?_
      refine sq_s rfl rfl ?_
      refine sq_v rfl (v_pickt rfl rfl) rfl ?_
      refine sq_end ?_
      refine qs_n ?_
      refine wp_ct rfl ?_
      refine wp_sc ?_
      refine wp_sq ?_
      refine sq_v rfl (v_build [num 0, num 0, num 0, .slice none 0 0, .slice none 0 0] rfl (by kernel_rfl)) rfl ?_
      refine sq_m 0 rfl rfl (m_store 0 ty_34 rfl rfl rfl rfl (by simp [one_int, one_sl]) rfl (Nat.le_of_ble_eq_true rfl)) rfl ?_; rintro _ _ ⟨rfl, rfl⟩
      refine sq_v rfl (v_assign rfl) rfl ?_
      refine sq_end ?_
      refine qs_n ?_
      refine wp_rt ?_
      refine qs_r ?_
      exact qs_retct 0 rfl ty_34 rfl rfl rfl rfl (fin_e (i := 2) rfl (PartNo (fun h => by first | exact orderB_false.1 c21 h.1 | (have := h.2.1; omega))))
    · refine sq_v rfl (v_move rfl) rfl ?_
      refine sq_v rfl (v_move rfl) rfl ?_
      refine sq_v rfl (v_move rfl) rfl ?_
      refine sq_v rfl (v_len Tryz.underlying47 rfl rv.sl) rfl ?_
      refine sq_v rfl (v_gtr rfl rfl) rfl ?_
      refine sq_v rfl (v_pickf rfl rfl) rfl ?_
      refine sq_end ?_
      refine qs_n ?_
      refine wp_cd rfl (fun c32 => ?_) (fun c32 => ?_)
      · refine wp_sc ?_
        refine wp_sq ?_
        refine sq_v rfl (v_build [num 0, num 0, num 0, .slice none 0 0, .slice none 0 0] rfl (by kernel_rfl)) rfl ?_
        refine sq_m 0 rfl rfl (m_store 0 ty_34 rfl rfl rfl rfl (by simp [one_int, one_sl]) rfl (Nat.le_of_ble_eq_true rfl)) rfl ?_; rintro _ _ ⟨rfl, rfl⟩
        refine sq_v rfl (v_assign rfl) rfl ?_
        refine sq_end ?_
        refine qs_n ?_
        refine wp_rt ?_
        refine qs_r ?_
        exact qs_retct 0 rfl ty_34 rfl rfl rfl rfl (fin_e (i := 2) rfl (PartNo (fun h => by first | exact orderB_false.1 c21 h.1 | (have := h.2.1; omega))))
      · refine wp_sk ?_
        refine qs_n ?_
        refine wp_sc ?_
        refine wp_sq ?_
        refine sq_v rfl (v_loadNB 1 ty_34 rfl rfl rfl rfl) rfl ?_
        have hord := orderB_true.1 c21; have hnet := hord.1; have hax := net_axes hnet; have h12 := hnet.2.1
        refine sq_x rfl (x_call rfl en_121 (fun w s => ct_i_startState _ _ _ _ _ _ _ w (r.mono (s.get 2 rfl)) (r'.mono (s.get 2 rfl)) hax h12)) rfl ?_; rintro _ h35 ⟨bb, arr, rfl, rst, _⟩
        refine sq_v rfl (v_assign rfl) rfl ?_
        refine sq_end ?_
        refine qs_n ?_
        refine wp_sc ?_
        refine wp_sq ?_
        refine sq_v rfl (v_loadNB 2 ty_34 rfl rfl rfl rfl) rfl ?_
        refine sq_x rfl (x_call rfl en_85 (fun w s => ct_i_copyNetwork _ _ _ _ _ _ _ w (r.mono (s.get 3 rfl)) (r'.mono (s.get 3 rfl)) (by first | assumption | omega) (by first | assumption | omega))) rfl ?_; rintro _ h37 ⟨vt37, vo37, rfl, o37⟩
        obtain ⟨cs_T_37, rr_T_37, hc_T_37⟩ := o37.toR.1.at
        refine sq_x rfl (x_alloc ty_34 rfl) rfl ?_; rintro _ _ ⟨b9, rfl, rfl⟩
        refine sq_m 0 rfl rfl (m_store 0 ty_34 rfl rfl rfl rfl (by simp [one_int, o37.toR.1.sl.one, o37.toR.2.sl.one]) rfl (Nat.le_of_ble_eq_true rfl)) rfl ?_; rintro _ _ ⟨rfl, rfl⟩
        refine sq_end ?_
        obtain ⟨cs0, g0, go, gl, rr0, ro, oh, md37⟩ := o37.split
        have hst0 := few_steps hax hord.2.2
        refine qs_s [box b9 [num k, num p, num n, vt37, vo37] 34, h35, box b6 [num 0, num 0, num 0, .slice none 0 0, .slice none 0 0] 34, box b3 [num k, num p, num n, vt, vo] 34, hp w, g0, go, gl] (fun _ s => Sat.open (A := [box b9 [num k, num p, num n, vt37, vo37] 34, h35, box b6 [num 0, num 0, num 0, .slice none 0 0, .slice none 0 0] 34, box b3 [num k, num p, num n, vt, vo] 34, hp w]) md37 (s.pick [1, 0, 2, 3, 4, 5] (by decide) rfl)) ?_
        refine qs_n ?_
        refine wp_sc ?_
        refine wp_sc ?_
        refine wp_sq ?_
        refine sq_v rfl (v_move rfl) rfl ?_
        refine sq_v rfl (v_move rfl) rfl ?_
        refine sq_v rfl (v_sliceH Tryz.underlying47 ty_87 rfl rfl  rv (by omega) (by omega)) rfl ?_
        obtain ⟨cs_S_40, rr_S_40, hc_S_40⟩ := (rv.subH (hi := (m : Int).toNat) (by omega)).at
        refine sq_v rfl (v_len Tryz.underlying47 rfl (rv.subH (hi := (m : Int).toNat) (by omega)).sl) rfl ?_
        refine sq_v rfl (v_move rfl) rfl ?_
        refine sq_end ?_
        refine qs_n ?_
        refine wp_bl ?_
        refine wp_lp (σ := Nat × Value × PH × (List Value) × PH × PH) (fun z_ => [(3, .pointer (some ⟨b3, 0, none⟩)), (6, .pointer (some ⟨b6, 0, none⟩)), (7, .bool false), (8, ptrV bb), (9, .pointer (some ⟨b9, 0, none⟩)), (34, .agg [num k, num p, num n, vt, vo].toArray), (40, subV v 0 ((m : Int).toNat) 2), (41, num (ss.take ((m : Int).toNat)).length), (42, num z_.1)]) (fun z_ => [box b9 [num k, num p, num n, z_.2.1, vo37] 34, z_.2.2.2.2.2, box b6 [num 0, num 0, num 0, .slice none 0 0, .slice none 0 0] 34, box b3 [num k, num p, num n, vt, vo] 34, hp w, z_.2.2.1, go, z_.2.2.2.2.1]) (fun z_ => z_.1 ≤ (ss.take (m : Int).toNat).length ∧ (∀ j, j < z_.1 → runFit k p n ts op ss j) ∧ StO arr vo (runS ts op ss z_.1) bb z_.2.2.2.2.2 ∧ OwnH (flat (outTo k p n ts op ss z_.1)) z_.2.2.2.1 z_.2.2.2.2.1 ∧ RowO (44) z_.2.2.2.1 (outTo k p n ts op ss z_.1).length 3 z_.2.1 z_.2.2.1) (fun z_ => (ss.take (m : Int).toNat).length - z_.1) (0, vt37, g0, cs0, gl, h35) (⟨by (try dsimp only); omega, fun j hj => by omega, rst, by (try dsimp only); rw [out_zero]; exact oh, by (try dsimp only); rw [out_zero]; exact rr0⟩) ⟨rfl, rfl, rfl, rfl, rfl, rfl, rfl, rfl, (by first | rfl | exact ksub rfl (by first | omega | (simp; done) | (simp; omega))), trivial⟩ (fun _ s => s) ?_
        rintro ⟨i, lx, ha, cs, hl, g⟩ ⟨hi, hfit, rst, hlv, rr⟩
        dsimp only at hi hfit rst hlv rr ⊢
        have hil : i ≤ ss.length ∧ i ≤ (m : Int).toNat := by rw [List.length_take] at hi; omega
        have hRO := run_ok hord i hil.1 hfit
        have hfs := run_fine (ss := ss) hnet i
        have hall := run_all (ts := ts) (op := op) (ss := ss) hil.1
        have hol := out_len (k := k) (p := p) (n := n) (ts := ts) (op := op) (ss := ss) i
        obtain ⟨lv0, rst'⟩ := rst.toR
        refine wp_sc ?_
        refine wp_sq ?_
        refine sq_v rfl (v_lss rfl rfl) rfl ?_
        refine sq_end ?_
        refine qs_n ?_
        refine wp_sc ?_
        refine wp_cd rfl (fun c43 => ?_) (fun c43 => ?_)
        · refine wp_sk ?_
          refine qs_n ?_
          refine wp_sc ?_
          refine wp_bl ?_
          refine wp_sc ?_
          refine wp_sq ?_
          obtain ⟨x44, hx44, hcs44⟩ := hc_S_40 (i) (by first | omega | (rw [List.length_set]; omega))
          refine sq_v rfl (v_indexAddr Tryz.underlying47 ty_87 rfl rfl rr_S_40 (by decide) (by omega) (by first | omega | (rw [List.length_set]; omega))) rfl ?_
          refine sq_v rfl (v_loadNE 4 ty_87 rfl rfl rr_S_40 (by have := rr_S_40.1; omega) rfl hcs44) rfl ?_
          refine sq_x rfl (x_alloc ty_87 rfl) rfl ?_; rintro _ _ ⟨b11, rfl, rfl⟩
          refine sq_m 0 rfl rfl (m_store 0 ty_87 rfl rfl rfl rfl (by simp [Value.oneCell']) rfl (Nat.le_of_ble_eq_true rfl)) rfl ?_; rintro _ _ ⟨rfl, rfl⟩
          refine sq_end ?_
          obtain ⟨hx, him, hiss⟩ := stp_take hx44
          obtain ⟨hst, hs1, _⟩ := run_step hord hiss
          have htwo := hRO.two hord hiss
          rw [stpAt_of hx] at hst hs1
          have p0 := place_ge.2 hst.1
          have q0 := place_ge.2 hst.2.1
          obtain ⟨hpa, hpl⟩ := place_at hst.1
          obtain ⟨hqb, hql⟩ := place_at hst.2.1
          have hosn := out_step hord hiss hRO (by rw [stpAt_of hx]; exact hpa) (by rw [stpAt_of hx]; exact hqb)
          have hfa := hfs.few x44.a.toNat
          have hfb := hfs.few x44.b.toNat
          refine qs_n ?_
          refine wp_sc ?_
          refine wp_rj 10 [(0, true), (1, true), (2, true), (4, true), (5, true), (6, true), (3, false), (7, false), (8, true), (9, true)] mixed_ok (by kernel_rfl) ?_
          refine rj_v rfl rfl (v_move rfl) rfl ?_
          refine rj_v rfl rfl (v_fieldAddr fd_87_0 ty_3 (by decide) rfl) rfl ?_
          refine rj_v rfl rfl (v_loadB 0 ty_3 rfl rfl rfl) rfl ?_
          refine rj_v rfl rfl (v_move rfl) rfl ?_
          refine rj_v rfl rfl (v_fieldAddr fd_87_1 ty_3 (by decide) rfl) rfl ?_
          refine rj_v rfl rfl (v_loadB 0 ty_3 rfl rfl rfl) rfl ?_
          refine rj_u rfl rfl (x_callv rfl en_122 (fun w s => ct_i_place _ _ _ (runS ts op ss i) _ _ w (rst'.mono (s.get 2 rfl)))) rfl ?_
          refine rj_u rfl rfl (x_callv rfl en_122 (fun w s => ct_i_place _ _ _ (runS ts op ss i) _ _ w (rst'.mono (s.get 2 rfl)))) rfl ?_
          refine rj_v rfl rfl (v_assign rfl) rfl ?_
          refine rj_v rfl rfl (v_assign rfl) rfl ?_
          refine rj_end ?_
          refine qs_n ?_
          refine wp_sc ?_
          refine wp_ra (σ := Nat × PH × PH × Value × Value × Value × Value) 22 (fun z_ => IntsO ((runS ts op ss i).res op x44.a.toNat x44.b.toNat) z_.2.2.2.1 z_.2.2.1 ∧ RowO 44 cs (outTo k p n ts op ss i).length 3 lx ha ∧ TriO (pairR k p n (runA k p n ts op ss i) (runB k p n ts op ss i) ((runS ts op ss i).res op x44.a.toNat x44.b.toNat)) z_.2.2.2.2.1 z_.2.2.2.2.2.1 z_.2.2.2.2.2.2 z_.2.1) (fun z_ => [(3, .pointer (some ⟨b3, 0, none⟩)), (6, .pointer (some ⟨b6, 0, none⟩)), (7, .bool false), (8, ptrV bb), (9, .pointer (some ⟨b9, 0, none⟩)), (11, .pointer (some ⟨b11, 0, none⟩)), (12, num ((runS ts op ss i).place x44.a)), (13, num ((runS ts op ss i).place x44.b)), (14, .pointer (some ⟨z_.1, 0, none⟩)), (15, .bool (pairB k p n (runA k p n ts op ss i) (runB k p n ts op ss i) ((runS ts op ss i).res op x44.a.toNat x44.b.toNat))), (34, .agg [num k, num p, num n, vt, vo].toArray), (40, subV v 0 ((m : Int).toNat) 2), (41, num (ss.take ((m : Int).toNat)).length), (42, num i), (43, .bool (decide ((i : Int) < (ss.take ((m : Int).toNat)).length))), (45, .agg [num x44.a, num x44.b].toArray), (46, ptrV bb), (47, .pointer (some ⟨b11, 0, none⟩)), (48, num x44.a), (49, num ((runS ts op ss i).place x44.a)), (50, ptrV bb), (51, .pointer (some ⟨b11, 1, none⟩)), (52, num x44.b), (53, num ((runS ts op ss i).place x44.b))]) (fun z_ => [box z_.1 [z_.2.2.2.2.1, z_.2.2.2.2.2.1, z_.2.2.2.2.2.2] 44, z_.2.1, z_.2.2.1, box b11 [num x44.a, num x44.b] 87, box b9 [num k, num p, num n, lx, vo37] 34, g, box b6 [num 0, num 0, num 0, .slice none 0 0, .slice none 0 0] 34, box b3 [num k, num p, num n, vt, vo] 34, hp w, ha, go, hl]) mixed_ok (by kernel_rfl) ?_ ?_
          · refine rak_of ?_
            refine rak_v (i := 0) (by kernel_rfl) rfl rfl (v_fieldAddr fd_34_0 ty_31 (by decide) rfl) rfl ?_
            refine rak_v (i := 1) (by kernel_rfl) rfl rfl (v_loadNB 4 ty_31 rfl rfl rfl rfl) rfl ?_
            refine rak_v (i := 2) (by kernel_rfl) rfl rfl (v_fieldAddr fd_34_1 ty_32 (by decide) rfl) rfl ?_
            refine rak_v (i := 3) (by kernel_rfl) rfl rfl (v_loadB 1 ty_32 rfl rfl rfl) rfl ?_
            refine rak_v (i := 4) (by kernel_rfl) rfl rfl (v_move rfl) rfl ?_
            obtain ⟨t60, a60, b60, c60, ht60, hcs60, rl60, rd60, rx60⟩ := hlv.at (((runS ts op ss i).place x44.a : Int).toNat) (by first | omega | (rw [List.length_set]; omega))
            refine rak_v (i := 5) (by kernel_rfl) rfl rfl (v_indexAddr Tryz.underlying32 ty_44 rfl rfl rr.toR (by decide) (by omega) (by omega)) rfl ?_
            refine rak_v (i := 6) (by kernel_rfl) rfl rfl (v_loadNE 6 ty_44 rfl rfl rr.toR (by have := rr.toR.1; omega) rfl hcs60) rfl ?_
            refine rak_v (i := 7) (by kernel_rfl) rfl rfl (v_fieldAddr fd_34_1 ty_32 (by decide) rfl) rfl ?_
            refine rak_v (i := 8) (by kernel_rfl) rfl rfl (v_loadB 1 ty_32 rfl rfl rfl) rfl ?_
            refine rak_v (i := 9) (by kernel_rfl) rfl rfl (v_move rfl) rfl ?_
            obtain ⟨t65, a65, b65, c65, ht65, hcs65, rl65, rd65, rx65⟩ := hlv.at (((runS ts op ss i).place x44.b : Int).toNat) (by first | omega | (rw [List.length_set]; omega))
            refine rak_v (i := 10) (by kernel_rfl) rfl rfl (v_indexAddr Tryz.underlying32 ty_44 rfl rfl rr.toR (by decide) (by omega) (by omega)) rfl ?_
            refine rak_v (i := 11) (by kernel_rfl) rfl rfl (v_loadNE 6 ty_44 rfl rfl rr.toR (by have := rr.toR.1; omega) rfl hcs65) rfl ?_
            have e60 : t60 = runA k p n ts op ss i := (by have := out_get (k := k) (p := p) (n := n) hpa; rw [ht60] at this; rw [runA, stpAt_of hx]; exact Option.some.inj this); have e65 : t65 = runB k p n ts op ss i := (by have := out_get (k := k) (p := p) (n := n) hqb; rw [ht65] at this; rw [runB, stpAt_of hx]; exact Option.some.inj this); subst e60; subst e65;
            refine rak_v (i := 12) (by kernel_rfl) rfl rfl (v_move rfl) rfl ?_
            refine rak_v (i := 13) (by kernel_rfl) rfl rfl (v_move rfl) rfl ?_
            refine rak_v (i := 14) (by kernel_rfl) rfl rfl (v_move rfl) rfl ?_
            refine rak_2 (i := 15) (j := 20) (by kernel_rfl) ?_ ?_
            · refine rok_x rfl rfl (x_call rfl en_123 (fun w s => ct_i_resultLabels _ op _ _ (runS ts op ss i) _ _ _ x44.a.toNat x44.b.toNat w (rst'.mono (s.get 2 rfl)) (r'.mono (s.get 5 rfl)) p0 q0 hpa hqb (by omega))) rfl ?_; rintro v70 h70 r70
              refine rak_2 (i := 16) (j := 20) (by kernel_rfl) ?_ ?_
              · refine rok_x rfl rfl (x_call rfl en_101 (fun w s => ct_i_ContractPair _ _ _ _ _ _ _ _ _ _ _ _ _ w (rl60.mono (s.get 9 rfl)) (rd60.mono (s.get 9 rfl)) (rx60.mono (s.get 9 rfl)) (rl65.mono (s.get 9 rfl)) (rd65.mono (s.get 9 rfl)) (rx65.mono (s.get 9 rfl)) (r70.toR.mono (s.get 0 rfl)))) rfl ?_; rintro _ h71 ⟨va71, vb71, vc71, rfl, o71⟩
                refine rak_rk [(17, true), (18, true), (19, true), (20, false), (21, false), (22, false)] (by kernel_rfl) rfl ?_
                refine rk_v rfl rfl (v_move rfl) rfl ?_
                refine rk_v rfl rfl (v_extract rfl rfl) rfl ?_
                refine rk_v rfl rfl (v_extract rfl rfl) rfl ?_
                refine rk_xb rfl rfl (x_alloc ty_44 rfl) rfl ?_; rintro _ _ ⟨b14, rfl, rfl⟩
                refine rk_m 0 rfl rfl rfl rfl (m_store 0 ty_44 rfl rfl rfl rfl (by simp [o71.toR.1.sl.one, o71.toR.2.1.sl.one, o71.toR.2.2.sl.one]) rfl (Nat.le_of_ble_eq_true rfl)) rfl ?_; rintro _ _ ⟨rfl, rfl⟩
                refine rk_fv rfl rfl (v_assign rfl) rfl ?_
                refine rk_end ?_
                exact qs_mid (b14, h71, h70, v70, va71, vb71, vc71) ⟨r70, rr, o71⟩ ⟨rfl, rfl, rfl, rfl, rfl, rfl, rfl, rfl, rfl, rfl, rfl, rfl, rfl, rfl, rfl, rfl, rfl, rfl, rfl, rfl, rfl, rfl, rfl, rfl, trivial⟩ (fun _ s => s.pick [0, 1, 2, 3, 4, 5, 6, 7, 8, 9, 10, 11] (by decide) rfl)
              · refine rok_xb rfl rfl (x_alloc ty_44 rfl) rfl ?_; rintro _ _ ⟨b14, rfl, rfl⟩
                refine rak_rk [(16, false), (17, true), (18, true), (19, true), (21, false), (22, false)] (by kernel_rfl) rfl ?_
                refine rk_x rfl rfl (x_call rfl en_101 (fun w s => ct_i_ContractPair _ _ _ _ _ _ _ _ _ _ _ _ _ w (rl60.mono (s.get 10 rfl)) (rd60.mono (s.get 10 rfl)) (rx60.mono (s.get 10 rfl)) (rl65.mono (s.get 10 rfl)) (rd65.mono (s.get 10 rfl)) (rx65.mono (s.get 10 rfl)) (r70.toR.mono (s.get 1 rfl)))) rfl ?_; rintro _ h71 ⟨va71, vb71, vc71, rfl, o71⟩
                refine rk_v rfl rfl (v_move rfl) rfl ?_
                refine rk_v rfl rfl (v_extract rfl rfl) rfl ?_
                refine rk_v rfl rfl (v_extract rfl rfl) rfl ?_
                refine rk_m 1 rfl rfl rfl rfl (m_store 1 ty_44 rfl rfl rfl rfl (by simp [o71.toR.1.sl.one, o71.toR.2.1.sl.one, o71.toR.2.2.sl.one]) rfl (Nat.le_of_ble_eq_true rfl)) rfl ?_; rintro _ _ ⟨rfl, rfl⟩
                refine rk_fv rfl rfl (v_assign rfl) rfl ?_
                refine rk_end ?_
                exact qs_mid (b14, h71, h70, v70, va71, vb71, vc71) ⟨r70, rr, o71⟩ ⟨rfl, rfl, rfl, rfl, rfl, rfl, rfl, rfl, rfl, rfl, rfl, rfl, rfl, rfl, rfl, rfl, rfl, rfl, rfl, rfl, rfl, rfl, rfl, rfl, trivial⟩ (fun _ s => s.pick [1, 0, 2, 3, 4, 5, 6, 7, 8, 9, 10, 11] (by decide) rfl)
            · refine rok_xb rfl rfl (x_alloc ty_44 rfl) rfl ?_; rintro _ _ ⟨b14, rfl, rfl⟩
              refine rak_rk [(15, false), (16, false), (17, true), (18, true), (19, true), (21, false), (22, false)] (by kernel_rfl) rfl ?_
              refine rk_x rfl rfl (x_call rfl en_123 (fun w s => ct_i_resultLabels _ op _ _ (runS ts op ss i) _ _ _ x44.a.toNat x44.b.toNat w (rst'.mono (s.get 3 rfl)) (r'.mono (s.get 6 rfl)) p0 q0 hpa hqb (by omega))) rfl ?_; rintro v70 h70 r70
              refine rk_x rfl rfl (x_call rfl en_101 (fun w s => ct_i_ContractPair _ _ _ _ _ _ _ _ _ _ _ _ _ w (rl60.mono (s.get 10 rfl)) (rd60.mono (s.get 10 rfl)) (rx60.mono (s.get 10 rfl)) (rl65.mono (s.get 10 rfl)) (rd65.mono (s.get 10 rfl)) (rx65.mono (s.get 10 rfl)) (r70.toR.mono (s.get 0 rfl)))) rfl ?_; rintro _ h71 ⟨va71, vb71, vc71, rfl, o71⟩
              refine rk_v rfl rfl (v_move rfl) rfl ?_
              refine rk_v rfl rfl (v_extract rfl rfl) rfl ?_
              refine rk_v rfl rfl (v_extract rfl rfl) rfl ?_
              refine rk_m 2 rfl rfl rfl rfl (m_store 2 ty_44 rfl rfl rfl rfl (by simp [o71.toR.1.sl.one, o71.toR.2.1.sl.one, o71.toR.2.2.sl.one]) rfl (Nat.le_of_ble_eq_true rfl)) rfl ?_; rintro _ _ ⟨rfl, rfl⟩
              refine rk_fv rfl rfl (v_assign rfl) rfl ?_
              refine rk_end ?_
              exact qs_mid (b14, h71, h70, v70, va71, vb71, vc71) ⟨r70, rr, o71⟩ ⟨rfl, rfl, rfl, rfl, rfl, rfl, rfl, rfl, rfl, rfl, rfl, rfl, rfl, rfl, rfl, rfl, rfl, rfl, rfl, rfl, rfl, rfl, rfl, rfl, trivial⟩ (fun _ s => s.pick [2, 0, 1, 3, 4, 5, 6, 7, 8, 9, 10, 11] (by decide) rfl)
          · rintro ⟨b14, h71, h70, v70, va71, vb71, vc71⟩ ⟨r70, rr, o71⟩
            dsimp only at r70 rr o71 ⊢
            refine qs_n ?_
            refine wp_sc ?_
            refine wp_sc ?_
            refine wp_sq ?_
            refine sq_v rfl (v_move rfl) rfl ?_
            refine sq_v rfl (v_not rfl) rfl ?_
            refine sq_end ?_
            have eK : (runS ts op ss i).res op x44.a.toNat x44.b.toNat = runK ts op ss i := by rw [runK, stpAt_of hx]
            rw [eK] at o71
            refine qs_n ?_
            refine wp_cn _ rfl (fun c75 => ?_) (fun c75 => ?_)
            · refine wp_sc ?_
              refine wp_sq ?_
              refine sq_v rfl (v_build [num 0, num 0, num 0, .slice none 0 0, .slice none 0 0] rfl (by kernel_rfl)) rfl ?_
              refine sq_m 6 rfl rfl (m_store 6 ty_34 rfl rfl rfl rfl (by simp [one_int, one_sl]) rfl (Nat.le_of_ble_eq_true rfl)) rfl ?_; rintro _ _ ⟨rfl, rfl⟩
              refine sq_v rfl (v_assign rfl) rfl ?_
              refine sq_end ?_
              refine qs_n ?_
              refine wp_rt ?_
              refine qs_r ?_
              refine qs_br ?_
              refine qs_r ?_
              refine qs_r ?_
              refine qs_br ?_
              refine qs_r ?_
              exact qs_retct 6 rfl ty_34 rfl rfl rfl rfl (fin_e (i := 8) rfl (PartNo (fun h => by rw [eK] at c75; exact pairB_false.1 c75 (h.2.2 i (by omega)))))
            · refine wp_sk ?_
              refine qs_n ?_
              refine wp_sc ?_
              refine wp_sq ?_
              refine sq_v rfl (v_assign rfl) rfl ?_
              refine sq_end ?_
              have hpf : runFit k p n ts op ss i := by rw [eK] at c75; exact pairB_true.1 c75
              refine qs_n ?_
              refine wp_sc ?_
              refine wp_sc ?_
              refine wp_sq ?_
              refine sq_v rfl (v_fieldAddr fd_34_1 ty_32 (by decide) rfl) rfl ?_
              refine sq_v rfl (v_loadB 4 ty_32 rfl rfl rfl) rfl ?_
              refine sq_v rfl (v_len Tryz.underlying32 rfl rr.toR.sl) rfl ?_
              refine sq_v rfl (v_move rfl) rfl ?_
              refine sq_end ?_
              refine qs_n ?_
              refine wp_bl ?_
              refine wp_lp (σ := Nat × Value × PH × (List Value)) (fun z_ => [(3, .pointer (some ⟨b3, 0, none⟩)), (6, .pointer (some ⟨b6, 0, none⟩)), (7, .bool false), (8, ptrV bb), (9, .pointer (some ⟨b9, 0, none⟩)), (11, .pointer (some ⟨b11, 0, none⟩)), (12, num ((runS ts op ss i).place x44.a)), (13, num ((runS ts op ss i).place x44.b)), (14, .pointer (some ⟨b14, 0, none⟩)), (15, .bool (pairB k p n (runA k p n ts op ss i) (runB k p n ts op ss i) ((runS ts op ss i).res op x44.a.toNat x44.b.toNat))), (16, z_.2.1), (34, .agg [num k, num p, num n, vt, vo].toArray), (40, subV v 0 ((m : Int).toNat) 2), (41, num (ss.take ((m : Int).toNat)).length), (42, num i), (43, .bool (decide ((i : Int) < (ss.take ((m : Int).toNat)).length))), (45, .agg [num x44.a, num x44.b].toArray), (46, ptrV bb), (47, .pointer (some ⟨b11, 0, none⟩)), (48, num x44.a), (49, num ((runS ts op ss i).place x44.a)), (50, ptrV bb), (51, .pointer (some ⟨b11, 1, none⟩)), (52, num x44.b), (53, num ((runS ts op ss i).place x44.b)), (74, .bool (pairB k p n (runA k p n ts op ss i) (runB k p n ts op ss i) ((runS ts op ss i).res op x44.a.toNat x44.b.toNat))), (75, .bool (!(pairB k p n (runA k p n ts op ss i) (runB k p n ts op ss i) ((runS ts op ss i).res op x44.a.toNat x44.b.toNat)))), (77, .pointer (some ⟨b9, 3, none⟩)), (78, lx), (79, num (outTo k p n ts op ss i).length), (80, num z_.1)]) (fun z_ => [z_.2.2.1, box b14 [va71, vb71, vc71] 44, h71, h70, box b11 [num x44.a, num x44.b] 87, box b9 [num k, num p, num n, lx, vo37] 34, g, box b6 [num 0, num 0, num 0, .slice none 0 0, .slice none 0 0] 34, box b3 [num k, num p, num n, vt, vo] 34, hp w, ha, go, hl]) (fun z_ => z_.1 ≤ (outTo k p n ts op ss i).length ∧ z_.2.2.2 = dropK 3 cs ((runS ts op ss i).place x44.a).toNat ((runS ts op ss i).place x44.b).toNat z_.1 ∧ RowO (44) z_.2.2.2 (dropK 1 (outTo k p n ts op ss i) ((runS ts op ss i).place x44.a).toNat ((runS ts op ss i).place x44.b).toNat z_.1).length 3 z_.2.1 z_.2.2.1) (fun z_ => (outTo k p n ts op ss i).length - z_.1) (0, .slice none 0 0, emp, []) (⟨by (try dsimp only); omega, rfl, RowO.nil⟩) ⟨rfl, rfl, rfl, rfl, rfl, rfl, rfl, rfl, rfl, rfl, (by first | rfl | exact ksub rfl (by first | omega | (simp; done) | (simp; omega))), rfl, rfl, rfl, rfl, rfl, rfl, rfl, rfl, rfl, rfl, rfl, rfl, rfl, rfl, rfl, rfl, rfl, rfl, rfl, (by first | rfl | exact ksub rfl (by first | omega | (simp; done) | (simp; omega))), trivial⟩ (fun _ s => (emp_sat s)) ?_
              rintro ⟨j, lz, hz, dz⟩ ⟨hj, hdz, rz⟩
              dsimp only at hj hdz rz ⊢
              have hdl := dropK_len (m := 1) (cs := outTo k p n ts op ss i) (p := ((runS ts op ss i).place x44.a).toNat) (q := ((runS ts op ss i).place x44.b).toNat) j
              have hxl : (runS ts op ss i).ixs.length ≤ (runS ts op ss i).all.length := by have := List.length_filter_le (fun i' => !(runS ts op ss i).gone.getD i' false) (List.range (runS ts op ss i).all.length); simpa [Sh.ixs] using this
              refine wp_sc ?_
              refine wp_sq ?_
              refine sq_v rfl (v_lss rfl rfl) rfl ?_
              refine sq_end ?_
              refine qs_n ?_
              refine wp_sc ?_
              refine wp_cd rfl (fun c81 => ?_) (fun c81 => ?_)
              · refine wp_sk ?_
                refine qs_n ?_
                refine wp_sc ?_
                refine wp_bl ?_
                refine wp_sc ?_
                refine wp_sq ?_
                refine sq_v rfl (v_move rfl) rfl ?_
                obtain ⟨t83, a83, b83, c83, ht83, hcs83, rl83, rd83, rx83⟩ := hlv.at (j) (by first | omega | (rw [List.length_set]; omega))
                refine sq_v rfl (v_indexAddr Tryz.underlying32 ty_44 rfl rfl rr.toR (by decide) (by omega) (by omega)) rfl ?_
                refine sq_v rfl (v_loadNE 10 ty_44 rfl rfl rr.toR (by have := rr.toR.1; omega) rfl hcs83) rfl ?_
                refine sq_x rfl (x_alloc ty_44 rfl) rfl ?_; rintro _ _ ⟨b18, rfl, rfl⟩
                refine sq_v rfl (v_assign rfl) rfl ?_
                refine sq_m 0 rfl rfl (m_store 0 ty_44 rfl rfl rfl rfl (by simp [rl83.sl.one, rd83.sl.one, rx83.sl.one]) rfl (Nat.le_of_ble_eq_true rfl)) rfl ?_; rintro _ _ ⟨rfl, rfl⟩
                refine sq_end ?_
                refine qs_n ?_
                refine wp_sc ?_
                refine wp_sq ?_
                refine sq_v rfl (v_move rfl) rfl ?_
                refine sq_v rfl (v_move rfl) rfl ?_
                refine sq_v rfl (v_neq rfl rfl) rfl ?_
                refine sq_bd 87 rfl (fun c87 => ?_) (fun c87 => ?_)
                · refine sq_v rfl (v_move rfl) rfl ?_
                  refine sq_v rfl (v_move rfl) rfl ?_
                  refine sq_v rfl (v_move rfl) rfl ?_
                  refine sq_v rfl (v_neq rfl rfl) rfl ?_
                  refine sq_v rfl (v_pickt rfl rfl) rfl ?_
                  refine sq_end ?_
                  refine qs_n ?_
                  refine wp_cd rfl (fun c92 => ?_) (fun c92 => ?_)
                  · refine wp_sq ?_
                    refine sq_v rfl (v_move rfl) rfl ?_
                    refine sq_v rfl (v_loadNB 0 ty_44 rfl rfl rfl rfl) rfl ?_
                    refine sq_x rfl (x_buildS [.agg [a83, b83, c83].toArray] Tryz.underlying32 ty_44 (by decide) rfl rfl rfl (by decide) (by decide) (by intro v hv; simp at hv; subst hv; rfl)) rfl ?_; intro v95 h95 (r95 : RowO 44 [a83, b83, c83] 1 3 v95 h95)
                    refine sq_m 2 rfl rfl (m_append 2 0 Tryz.underlying32 ty_44 rfl rfl (by decide) rfl rfl rfl rz rfl r95.toR (by simp [rl83.sl.one, rd83.sl.one, rx83.sl.one]) (by unfold maxLen; omega) (by omega)) rfl ?_; intro v96 h_r96 (r96 : RowO 44 (dz ++ [a83, b83, c83]) ((dropK 1 (outTo k p n ts op ss i) ((runS ts op ss i).place x44.a).toNat ((runS ts op ss i).place x44.b).toNat j).length + 1) 3 v96 h_r96)
                    refine sq_v rfl (v_assign rfl) rfl ?_
                    refine sq_end ?_
                    refine qs_bn ?_
                    refine qs_n ?_
                    refine wp_sq ?_
                    refine sq_v rfl (v_add rfl rfl ((by unfold I64; omega))) rfl ?_
                    refine sq_v rfl (v_move rfl) rfl ?_
                    refine sq_end ?_
                    exact qs_bk (j + 1, v96, h_r96, dz ++ [a83, b83, c83]) ⟨by (try dsimp only); omega, by (try dsimp only); rw [dropK_yes ⟨by omega, by omega⟩, ← hdz, hcs83], by (try dsimp only); rw [dropK_yes ⟨by omega, by omega⟩, one_drop ht83, List.length_append]; exact r96⟩ (by simp only; omega) ⟨rfl, rfl, rfl, rfl, rfl, rfl, rfl, rfl, rfl, rfl, (by first | rfl | exact ksub rfl (by first | omega | (simp; done) | (simp; omega))), rfl, rfl, rfl, rfl, rfl, rfl, rfl, rfl, rfl, rfl, rfl, rfl, rfl, rfl, rfl, rfl, rfl, rfl, rfl, (by first | rfl | exact ksub rfl (by first | omega | (simp; done) | (simp; omega))), trivial⟩ (fun _ s => s.pick [2, 3, 4, 5, 6, 7, 8, 9, 10, 11, 12, 13, 14] (by decide) rfl)
                  · refine wp_sk ?_
                    refine qs_bn ?_
                    refine qs_n ?_
                    refine wp_sq ?_
                    refine sq_v rfl (v_add rfl rfl ((by unfold I64; omega))) rfl ?_
                    refine sq_v rfl (v_move rfl) rfl ?_
                    refine sq_end ?_
                    exact qs_bk (j + 1, lz, hz, dz) ⟨by (try dsimp only); omega, by (try dsimp only); rw [dropK_no (by omega)]; exact hdz, by (try dsimp only); rw [dropK_no (by omega)]; exact rz⟩ (by simp only; omega) ⟨rfl, rfl, rfl, rfl, rfl, rfl, rfl, rfl, rfl, rfl, (by first | rfl | exact ksub rfl (by first | omega | (simp; done) | (simp; omega))), rfl, rfl, rfl, rfl, rfl, rfl, rfl, rfl, rfl, rfl, rfl, rfl, rfl, rfl, rfl, rfl, rfl, rfl, rfl, (by first | rfl | exact ksub rfl (by first | omega | (simp; done) | (simp; omega))), trivial⟩ (fun _ s => s.pick [1, 2, 3, 4, 5, 6, 7, 8, 9, 10, 11, 12, 13] (by decide) rfl)
                · refine sq_v rfl (v_move rfl) rfl ?_
                  refine sq_s rfl rfl ?_
                  refine sq_s rfl rfl ?_
                  refine sq_s rfl rfl ?_
                  refine sq_v rfl (v_pickf rfl rfl) rfl ?_
                  refine sq_end ?_
                  refine qs_n ?_
                  refine wp_cf rfl ?_
                  refine wp_sk ?_
                  refine qs_bn ?_
                  refine qs_n ?_
                  refine wp_sq ?_
                  refine sq_v rfl (v_add rfl rfl ((by unfold I64; omega))) rfl ?_
                  refine sq_v rfl (v_move rfl) rfl ?_
                  refine sq_end ?_
                  exact qs_bk (j + 1, lz, hz, dz) ⟨by (try dsimp only); omega, by (try dsimp only); rw [dropK_no (by omega)]; exact hdz, by (try dsimp only); rw [dropK_no (by omega)]; exact rz⟩ (by simp only; omega) ⟨rfl, rfl, rfl, rfl, rfl, rfl, rfl, rfl, rfl, rfl, (by first | rfl | exact ksub rfl (by first | omega | (simp; done) | (simp; omega))), rfl, rfl, rfl, rfl, rfl, rfl, rfl, rfl, rfl, rfl, rfl, rfl, rfl, rfl, rfl, rfl, rfl, rfl, rfl, (by first | rfl | exact ksub rfl (by first | omega | (simp; done) | (simp; omega))), trivial⟩ (fun _ s => s.pick [1, 2, 3, 4, 5, 6, 7, 8, 9, 10, 11, 12, 13] (by decide) rfl)
              · refine wp_ex ?_
                refine qs_x ?_
                refine qs_x ?_
                refine qs_bx ?_
                refine qs_n ?_
                refine wp_sc ?_
                refine wp_sq ?_
                refine sq_v rfl (v_move rfl) rfl ?_
                refine sq_v rfl (v_loadNB 1 ty_44 rfl rfl rfl rfl) rfl ?_
                refine sq_x rfl (x_buildS [.agg [va71, vb71, vc71].toArray] Tryz.underlying32 ty_44 (by decide) rfl rfl rfl (by decide) (by decide) (by intro v hv; simp at hv; subst hv; rfl)) rfl ?_; intro v100 h100 (r100 : RowO 44 [va71, vb71, vc71] 1 3 v100 h100)
                refine sq_m 1 rfl rfl (m_append 1 0 Tryz.underlying32 ty_44 rfl rfl (by decide) rfl rfl rfl rz rfl r100.toR (by simp [o71.toR.1.sl.one, o71.toR.2.1.sl.one, o71.toR.2.2.sl.one]) (by unfold maxLen; omega) (by omega)) rfl ?_; intro v101 h_r101 (r101 : RowO 44 (dz ++ [va71, vb71, vc71]) ((dropK 1 (outTo k p n ts op ss i) ((runS ts op ss i).place x44.a).toNat ((runS ts op ss i).place x44.b).toNat j).length + 1) 3 v101 h_r101)
                refine sq_v rfl (v_fieldAddr fd_34_1 ty_32 (by decide) rfl) rfl ?_
                refine sq_m 6 rfl rfl (m_store1 6 ty_32 rfl rfl r101.toR.sl.one rfl (Nat.le_of_ble_eq_true rfl)) rfl ?_; rintro _ _ ⟨rfl, rfl⟩
                refine sq_end ?_
                refine qs_n ?_
                refine wp_sq ?_
                refine sq_v rfl (v_move rfl) rfl ?_
                refine sq_v rfl (v_move rfl) rfl ?_
                refine sq_v rfl (v_move rfl) rfl ?_
                refine sq_m 7 rfl rfl (x_call rfl en_124 (fun w s => ct_i_contract arr op vo _ bb _ _ x44.a.toNat x44.b.toNat w _ (s.get 7 rfl) rst (r'.mono (s.getR 7 10 rfl rfl (by decide))) p0 q0 hpa hqb (by omega) (by omega))) rfl ?_; rintro _ h106 ⟨rfl, rst2⟩
                refine sq_end ?_
                refine qs_bn ?_
                refine qs_n ?_
                refine wp_sq ?_
                refine sq_v rfl (v_add rfl rfl ((by unfold I64; omega))) rfl ?_
                refine sq_v rfl (v_move rfl) rfl ?_
                refine sq_end ?_
                refine qs_dj 13 3 rfl rfl rfl (fun hdj => ?_)
                have ej : j = (outTo k p n ts op ss i).length := by omega
                subst ej
                obtain ⟨g2, hg2, oh2⟩ := hlv.dropK ((runS ts op ss i).place x44.a).toNat ((runS ts op ss i).place x44.b).toNat
                rw [← hdz] at oh2
                have oh3 := oh2.snoc o71 (hdj.mono hg2)
                exact qs_bk (i + 1, v101, h_r101, dz ++ [va71, vb71, vc71], PUn g2 h71, h106) ⟨by (try dsimp only); rw [List.length_take]; omega, step_all hfit hpf, by (try dsimp only); rw [hs1]; exact rst2, by (try dsimp only); rw [hosn]; exact oh3, by (try dsimp only); rw [hosn, List.length_append]; exact r101⟩ (by simp only; omega) ⟨rfl, rfl, rfl, rfl, rfl, rfl, rfl, rfl, (by first | rfl | exact ksub rfl (by first | omega | (simp; done) | (simp; omega))), trivial⟩ (fun _ s => ((Sat.merge (s.pick (HS' := [hl, h71, box b9 [num k, num p, num n, v101, vo37] 34, h106, box b6 [num 0, num 0, num 0, .slice none 0 0, .slice none 0 0] 34, box b3 [num k, num p, num n, vt, vo] 34, hp w, h_r101, go]) [13, 3, 6, 7, 8, 9, 10, 1, 12] (by decide) rfl)).less (i := 0) rfl (PUn.mono_l hg2 hdj)).pick [1, 2, 3, 4, 5, 6, 7, 0] (by decide) rfl)
        · refine wp_ex ?_
          refine qs_x ?_
          refine qs_x ?_
          refine qs_bx ?_
          refine qs_n ?_
          refine wp_sc ?_
          refine wp_sq ?_
          refine sq_v rfl (v_loadNB 0 ty_34 rfl rfl rfl rfl) rfl ?_
          refine sq_m 2 rfl rfl (m_store 2 ty_34 rfl rfl rfl rfl (by simp [one_int, rr.toR.sl.one, ro.toR.sl.one]) rfl (Nat.le_of_ble_eq_true rfl)) rfl ?_; rintro _ _ ⟨rfl, rfl⟩
          refine sq_v rfl (v_assign rfl) rfl ?_
          refine sq_end ?_
          refine qs_n ?_
          refine wp_rt ?_
          have ei : i = (m : Int).toNat := by have : ¬ i < (ss.take (m : Int).toNat).length := (by omega); rw [List.length_take] at this; omega
          refine qs_close [box b6 _ _, hp w] [ha, go, hl] (fun _ s => s.pick [2, 4, 5, 6, 7] (by decide) rfl) (fun md => ?_)
          exact qs_retct 1 rfl ty_34 rfl rfl rfl rfl (fin_t 0 (i := 2) rfl rfl rfl (PartYes ⟨hord, ⟨by omega, by omega⟩, by rw [← ei]; exact hfit⟩ (by rw [← ei]; exact NetO.join rr ro hlv md)))
  · refine sq_v rfl (v_not rfl) rfl ?_
    refine sq_v rfl (v_move rfl) rfl ?_
    refine sq_s rfl rfl ?_
    refine sq_s rfl rfl ?_
    refine sq_v rfl (v_pickt rfl rfl) rfl ?_
    refine sq_v rfl (v_move rfl) rfl ?_
    refine sq_s rfl rfl ?_
    refine sq_s rfl rfl ?_
    refine sq_s rfl rfl ?_
    refine sq_s rfl rfl ?_
    refine sq_v rfl (v_pickt rfl rfl) rfl ?_
    refine sq_end ?_
    refine qs_n ?_
    refine wp_ct rfl ?_
    refine wp_sc ?_
    refine wp_sq ?_
    refine sq_v rfl (v_build [num 0, num 0, num 0, .slice none 0 0, .slice none 0 0] rfl (by kernel_rfl)) rfl ?_
    refine sq_m 0 rfl rfl (m_store 0 ty_34 rfl rfl rfl rfl (by simp [one_int, one_sl]) rfl (Nat.le_of_ble_eq_true rfl)) rfl ?_; rintro _ _ ⟨rfl, rfl⟩
    refine sq_v rfl (v_assign rfl) rfl ?_
    refine sq_end ?_
    refine qs_n ?_
    refine wp_rt ?_
    refine qs_r ?_
    exact qs_retct 0 rfl ty_34 rfl rfl rfl rfl (fin_e (i := 2) rfl (PartNo (fun h => by first | exact orderB_false.1 c21 h.1 | (have := h.2.1; omega))))
end Go.Proofs.YtehjljijionhaaaGreat
namespace Go.Proofs.YtehjljijionhaaaGreat
set_option maxRecDepth 100000
open Go.RowKit
def RunR (k p n : Int) (ts : List Ten) (op : List Int) (ss : List Stp) (m : Int) (q : PH) (u : Value) (h : PH) : Prop :=
  ∃ va vb bb, u = .tuple [va, vb, .bool bb].toArray ∧ (bb = true ↔ ∀ j, j < m.toNat → runFit k p n ts op ss j) ∧
    (bb = true → ∃ cs ha hb hs, RowO 44 cs (runTo k p n ts op ss m.toNat).length 3 va ha ∧ IntsO ((runS ts op ss m.toNat).ixs.map Int.ofNat) vb hb ∧ TensL (runTo k p n ts op ss m.toNat) cs (PUn hs q) ∧ Made h [ha, hb, hs])
theorem ixs_step {ts : List Ten} {op : List Int} {ss : List Stp} {i : Nat} {x : Stp} {s' : Sh} (h : s' = (runS ts op ss i).step op x.a.toNat x.b.toNat) (ho : (runS ts op ss i).ok) (h0 : 0 ≤ x.a ∧ 0 ≤ x.b) :
    s'.ixs.map Int.ofNat = ((runS ts op ss i).ixs.map Int.ofNat).filter (fun y => decide (y ≠ x.a ∧ y ≠ x.b)) ++ [((runS ts op ss i).all.length : Int)] := by
  rw [h, step_ixs ho, List.map_append, List.filter_map]
  congr 2
  apply List.filter_congr
  intro j _
  simp only [Function.comp, Int.ofNat_eq_natCast]
  rw [Bool.eq_iff_iff, decide_eq_true_eq, decide_eq_true_eq]
  omega
theorem TensL.at {ts : List Ten} {cs : List Value} {h H : PH} (r : TensL ts cs h) (l : PLe h H) (j : Nat) (hj : j < ts.length) : ∃ t a b c, ts[j]? = some t ∧ (cs.drop (j * 3)).take 3 = [a, b, c] ∧ IntsR t.l a H ∧ IntsR t.d b H ∧ IntsR t.x c H := by
  have ht : ts[j]? = some ts[j] := List.getElem?_eq_getElem hj
  obtain ⟨a, b, c, e, r1, r2, r3⟩ := r.2 j _ ht
  exact ⟨_, a, b, c, ht, e, r1.mono l, r2.mono l, r3.mono l⟩
theorem SpR.mono_2 {f : Int → Int} {s : Sh} {va vg : Value} {b : Nat} {h h' : PH} (r : SpR f s va vg b h) (l : PLe h h') : SpR f s va vg b h' := ⟨r.ok, cellP.mono l r.c0, cellP.mono l r.c1, r.all.mono l, r.gone.mono l⟩
theorem ixs_zero (ts : List Ten) (op : List Int) (ss : List Stp) : (runS ts op ss 0).ixs = List.range ts.length := by rw [← sh0_ixs ts]; rfl
set_option maxHeartbeats 4000000 in
theorem ct_s_l18Run (k p n m : Int) (ts : List Ten) (op : List Int) (ss : List Stp) (vt vo v : Value) (w : World) (q : PH) (lq : PLe q (hp w)) (r : TensR ts vt q) (r' : IntsR op vo (hp w)) (rv : StepsR ss v (hp w)) (hord : orderL k p n ts op ss) (hm : 0 ≤ m ∧ m ≤ ss.length) (hs : op.length ≤ 1048576) :
    Calls Tryz.prog 69 [netV k p n vt vo, v, num m].toArray w (Ret w emp (RunR k p n ts op ss m q)) := by
  have hnet := hord.1
  have hax := net_axes hnet
  have h12 := hnet.2.1
  have hst0 := few_steps hax hord.2.2
  have hlq := r.le
  obtain ⟨csq, rrq, hcq⟩ := r.at
  refine calls_in Tryz.func69 rfl Tryz.ntmps69 rfl (Sat.start w) ?_
  have hle0 := r'.le
  have hle1 := rv.le
  obtain ⟨cs_rv, rr_rv, hc_rv⟩ := rv.at
  refine wp_sc ?_
  refine wp_sq ?_
  refine sq_x rfl (x_box rfl rfl) rfl ?_; rintro _ _ ⟨b3, rfl, rfl⟩
  refine sq_v rfl (v_assign rfl) rfl ?_
  refine sq_v rfl (v_assign rfl) rfl ?_
  refine sq_v rfl (v_assign rfl) rfl ?_
  refine sq_end ?_
  refine qs_n ?_
  refine wp_sc ?_
  refine wp_sq ?_
  refine sq_v rfl (v_loadNB 0 ty_34 rfl rfl rfl rfl) rfl ?_
  refine sq_v rfl (v_move rfl) rfl ?_
  refine sq_x rfl (x_call rfl en_118 (fun w s => ct_s_l17Run (dimOf ts) _ _ _ _ _ _ _ _ _ w q (lq.trans (s.get 1 rfl)) r (r'.mono (s.get 1 rfl)) (rv.mono (s.get 1 rfl)) (net_dmap hnet) (by first | assumption | omega) (by first | assumption | omega) (sh0_fine (net_axes hnet)) (net_fit hnet) hord.2.2 (by first | assumption | omega))) rfl ?_; rintro _ h24 ⟨bb, vc, g1, g2, rfl, hsp, rc, md⟩
  refine sq_v rfl (v_move rfl) rfl ?_
  refine sq_v rfl (v_extract rfl rfl) rfl ?_
  refine sq_v rfl (v_extract rfl rfl) rfl ?_
  refine sq_v rfl (v_assign rfl) rfl ?_
  refine sq_v rfl (v_assign rfl) rfl ?_
  refine sq_end ?_
  refine qs_dj 0 2 rfl rfl rfl (fun hdj0 => ?_)
  obtain ⟨va0, vg0, hsr⟩ := hsp.toR (H := PUn h24 (hp w)) ((md.le g1 (by simp)).trans (PLe.un_l h24 (hp w))) (lq.trans (PLe.un_r hdj0))
  refine qs_n ?_
  refine wp_sc ?_
  refine wp_sq ?_
  refine sq_x rfl (x_build0 Tryz.underlying32 ty_44) rfl ?_; intro v27 h27 r27
  refine sq_v rfl (v_assign rfl) rfl ?_
  refine sq_end ?_
  refine qs_n ?_
  refine wp_sc ?_
  refine wp_sq ?_
  refine sq_x rfl (x_build0 Tryz.underlying25 ty_3) rfl ?_; intro v28 h28 (r28 : IntsO [] v28 h28)
  refine sq_v rfl (v_assign rfl) rfl ?_
  refine sq_end ?_
  refine qs_n ?_
  refine wp_sc ?_
  refine wp_sc ?_
  refine wp_sq ?_
  refine sq_v rfl (v_fieldAddr fd_34_1 ty_32 (by decide) rfl) rfl ?_
  refine sq_v rfl (v_loadB 3 ty_32 rfl rfl rfl) rfl ?_
  refine sq_v rfl (v_len Tryz.underlying32 rfl (r.mono lq).sl) rfl ?_
  refine sq_v rfl (v_move rfl) rfl ?_
  refine sq_end ?_
  refine qs_n ?_
  refine wp_bl ?_
  refine wp_lp (σ := Nat × Value × PH × (List Value) × Value × PH) (fun z_ => [(1, v), (2, num m), (3, .pointer (some ⟨b3, 0, none⟩)), (6, .slice none 0 0), (7, .slice none 0 0), (8, .bool false), (9, ptrV bb), (11, z_.2.1), (12, z_.2.2.2.2.1), (30, vt), (31, num ts.length), (32, num z_.1)]) (fun z_ => [z_.2.2.1, z_.2.2.2.2.2, h24, box b3 [num k, num p, num n, vt, vo] 34, hp w]) (fun z_ => z_.1 ≤ ts.length ∧ TensL (ts.take z_.1) z_.2.2.2.1 q ∧ RowO (44) z_.2.2.2.1 z_.1 3 z_.2.1 z_.2.2.1 ∧ IntsO ((List.range z_.1).map Int.ofNat) z_.2.2.2.2.1 z_.2.2.2.2.2) (fun z_ => ts.length - z_.1) (0, v27, h27, [], v28, h28) (⟨by (try dsimp only); omega, TensL.nil _, r27, r28⟩) ⟨rfl, rfl, rfl, rfl, rfl, rfl, rfl, (by first | rfl | exact ksub rfl (by first | omega | (simp; done) | (simp; omega))), (by first | rfl | exact ksub rfl (by first | omega | (simp; done) | (simp; omega))), rfl, rfl, (by first | rfl | exact ksub rfl (by first | omega | (simp; done) | (simp; omega))), trivial⟩ (fun _ s => s.pick [1, 0, 2, 3, 4] (by decide) rfl) ?_
  rintro ⟨i, va, ha, cs, vb, hb⟩ ⟨hi, hlv, rr, qb⟩
  dsimp only at hi hlv rr qb ⊢
  have hle_qb := qb.toR.le
  have hil : ((List.range i).map Int.ofNat).length = i := by simp
  refine wp_sc ?_
  refine wp_sq ?_
  refine sq_v rfl (v_lss rfl rfl) rfl ?_
  refine sq_end ?_
  refine qs_n ?_
  refine wp_sc ?_
  refine wp_cd rfl (fun c33 => ?_) (fun c33 => ?_)
  · refine wp_sk ?_
    refine qs_n ?_
    refine wp_sc ?_
    refine wp_bl ?_
    refine wp_sc ?_
    refine wp_sq ?_
    refine sq_v rfl (v_move rfl) rfl ?_
    obtain ⟨t35, a35, b35, c35, ht35, hcs35, rl35, rd35, rx35⟩ := hcq (i) (by first | omega | (rw [List.length_set]; omega))
    refine sq_v rfl (v_indexAddr Tryz.underlying32 ty_44 rfl rfl (rrq.mono lq) (by decide) (by omega) (by omega)) rfl ?_
    refine sq_v rfl (v_loadNE 4 ty_44 rfl rfl (rrq.mono lq) (by have := (rrq.mono lq).1; omega) rfl hcs35) rfl ?_
    refine sq_x rfl (x_alloc ty_44 rfl) rfl ?_; rintro _ _ ⟨b14, rfl, rfl⟩
    refine sq_v rfl (v_assign rfl) rfl ?_
    refine sq_m 0 rfl rfl (m_store 0 ty_44 rfl rfl rfl rfl (by simp [rl35.sl.one, rd35.sl.one, rx35.sl.one]) rfl (Nat.le_of_ble_eq_true rfl)) rfl ?_; rintro _ _ ⟨rfl, rfl⟩
    refine sq_end ?_
    refine qs_n ?_
    refine wp_sc ?_
    refine wp_sq ?_
    refine sq_v rfl (v_move rfl) rfl ?_
    refine sq_v rfl (v_loadNB 0 ty_44 rfl rfl rfl rfl) rfl ?_
    refine sq_x rfl (x_buildS [.agg [a35, b35, c35].toArray] Tryz.underlying32 ty_44 (by decide) rfl rfl rfl (by decide) (by decide) (by intro v hv; simp at hv; subst hv; rfl)) rfl ?_; intro v39 h39 (r39 : RowO 44 [a35, b35, c35] 1 3 v39 h39)
    refine sq_m 2 rfl rfl (m_append 2 0 Tryz.underlying32 ty_44 rfl rfl (by decide) rfl rfl rfl rr rfl r39.toR (by simp [rl35.sl.one, rd35.sl.one, rx35.sl.one]) (by unfold maxLen; omega) (by omega)) rfl ?_; intro v40 h_r40 (r40 : RowO 44 (cs ++ [a35, b35, c35]) (i + 1) 3 v40 h_r40)
    refine sq_v rfl (v_assign rfl) rfl ?_
    refine sq_end ?_
    refine qs_n ?_
    refine wp_sq ?_
    refine sq_v rfl (v_move rfl) rfl ?_
    refine sq_v rfl (v_move rfl) rfl ?_
    refine sq_x rfl (x_buildS [num (i)] Tryz.underlying25 ty_3 (by decide) rfl rfl rfl (by decide) (by decide) (by intro v hv; simp at hv; rcases hv with rfl <;> rfl)) rfl ?_; intro v43 h43 (r43 : IntsO [i] v43 h43)
    refine sq_m 4 rfl rfl (m_appI 4 0 Tryz.underlying25 ty_3 rfl rfl rfl rfl qb rfl r43.toR (by first | omega | (simp only [List.length_cons, List.length_nil]; omega) | (simp only [List.length_append, List.length_cons, List.length_nil]; omega) | (rw [List.length_set]; omega) | (rw [List.length_replicate]; omega) | (simp; omega))) rfl ?_; intro v44 h_r44 r44
    refine sq_v rfl (v_assign rfl) rfl ?_
    refine sq_end ?_
    refine qs_bn ?_
    refine qs_n ?_
    refine wp_sq ?_
    refine sq_v rfl (v_add rfl rfl ((by unfold I64; omega))) rfl ?_
    refine sq_v rfl (v_move rfl) rfl ?_
    refine sq_end ?_
    exact qs_bk (i + 1, v40, h_r40, cs ++ [a35, b35, c35], v44, h_r44) ⟨by (try dsimp only); omega, by (try dsimp only); rw [take_ten ht35]; exact hlv.snoc rl35 rd35 rx35, r40, by (try dsimp only); rw [List.range_succ, List.map_append]; exact r44⟩ (by simp only; omega) ⟨rfl, rfl, rfl, rfl, rfl, rfl, rfl, (by first | rfl | exact ksub rfl (by first | omega | (simp; done) | (simp; omega))), (by first | rfl | exact ksub rfl (by first | omega | (simp; done) | (simp; omega))), rfl, rfl, (by first | rfl | exact ksub rfl (by first | omega | (simp; done) | (simp; omega))), trivial⟩ (fun _ s => s.pick [3, 4, 5, 6, 7] (by decide) rfl)
  · refine wp_ex ?_
    refine qs_x ?_
    refine qs_x ?_
    refine qs_bx ?_
    refine qs_n ?_
    refine wp_sc ?_
    refine wp_sc ?_
    refine wp_sq ?_
    refine sq_v rfl (v_move rfl) rfl ?_
    refine sq_v rfl (v_move rfl) rfl ?_
    refine sq_v rfl (v_sliceH Tryz.underlying47 ty_87 rfl rfl  rv (by omega) (by omega)) rfl ?_
    obtain ⟨cs_S_48, rr_S_48, hc_S_48⟩ := (rv.subH (hi := (m : Int).toNat) (by omega)).at
    refine sq_v rfl (v_len Tryz.underlying47 rfl (rv.subH (hi := (m : Int).toNat) (by omega)).sl) rfl ?_
    refine sq_v rfl (v_move rfl) rfl ?_
    refine sq_end ?_
    have ei : i = ts.length := by omega
    subst ei
    rw [List.take_length] at hlv
    refine qs_s [PUn h24 (hp w), ha, hb, box b3 [num k, num p, num n, vt, vo] 34] (fun _ s => Sat.merge (s.pick [2, 4, 0, 1, 3] (by decide) rfl)) ?_
    refine qs_n ?_
    refine wp_bl ?_
    refine wp_lp (σ := Nat × Value × PH × (List Value) × Value × PH × PH) (fun z_ => [(3, .pointer (some ⟨b3, 0, none⟩)), (6, .slice none 0 0), (7, .slice none 0 0), (8, .bool false), (9, ptrV bb), (11, z_.2.1), (12, z_.2.2.2.2.1), (48, subV v 0 ((m : Int).toNat) 2), (49, num (ss.take ((m : Int).toNat)).length), (50, num z_.1)]) (fun z_ => [(PUn z_.2.2.2.2.2.2 (hp w)), z_.2.2.1, z_.2.2.2.2.2.1, box b3 [num k, num p, num n, vt, vo] 34]) (fun z_ => z_.1 ≤ (ss.take (m : Int).toNat).length ∧ (∀ j, j < z_.1 → runFit k p n ts op ss j) ∧ PDj z_.2.2.2.2.2.2 (hp w) ∧ PLe h24 z_.2.2.2.2.2.2 ∧ TensL (runTo k p n ts op ss z_.1) z_.2.2.2.1 (PUn z_.2.2.2.2.2.2 q) ∧ RowO (44) z_.2.2.2.1 (runTo k p n ts op ss z_.1).length 3 z_.2.1 z_.2.2.1 ∧ IntsO ((runS ts op ss z_.1).ixs.map Int.ofNat) z_.2.2.2.2.1 z_.2.2.2.2.2.1) (fun z_ => (ss.take (m : Int).toNat).length - z_.1) (0, va, ha, cs, vb, hb, h24) (⟨by (try dsimp only); omega, fun j hj => by omega, hdj0, fun _ _ e => e, hlv.mono (PLe.un_r (hdj0.symm.mono lq).symm), rr, by (try dsimp only); rw [ixs_zero]; exact qb⟩) ⟨rfl, rfl, rfl, rfl, rfl, (by first | rfl | exact ksub rfl (by first | omega | (simp; done) | (simp; omega))), (by first | rfl | exact ksub rfl (by first | omega | (simp; done) | (simp; omega))), rfl, rfl, (by first | rfl | exact ksub rfl (by first | omega | (simp; done) | (simp; omega))), trivial⟩ (fun _ s => s) ?_
    rintro ⟨i, va, ha, cs, vb, hb, hl⟩ ⟨hi, hfit, hdj, hle, hlv, rr, qb⟩
    dsimp only at hi hfit hdj hle hlv rr qb ⊢
    have hle_qb := qb.toR.le
    have hil : i ≤ ss.length ∧ i ≤ (m : Int).toNat := by rw [List.length_take] at hi; omega
    have hRO := run_ok hord i hil.1 hfit
    have hfs := run_fine (ss := ss) hnet i
    have hall := run_all (ts := ts) (op := op) (ss := ss) hil.1
    have hrl := hRO.len
    have hln : (shTens (dimOf ts) (shTo op (sh0 ts) ss)).length = ts.length + ss.length := by rw [shTens_len, shTo_all]; simp [sh0]
    obtain ⟨csS, rrS, hcS⟩ := ((rv.subH (hi := (m : Int).toNat) (by omega)).mono (PLe.un_r hdj)).at
    have hsr2 := hsr.mono_2 (PUn.mono_l hle hdj)
    ; obtain ⟨cs_hsr2_all, rr_hsr2_all, hc_hsr2_all⟩ := hsr2.all.at
    refine wp_sc ?_
    refine wp_sq ?_
    refine sq_v rfl (v_lss rfl rfl) rfl ?_
    refine sq_end ?_
    refine qs_n ?_
    refine wp_sc ?_
    refine wp_cd rfl (fun c51 => ?_) (fun c51 => ?_)
    · refine wp_sk ?_
      refine qs_n ?_
      refine wp_sc ?_
      refine wp_bl ?_
      refine wp_sc ?_
      refine wp_sq ?_
      refine sq_v rfl (v_move rfl) rfl ?_
      obtain ⟨x53, hx53, hcs53⟩ := hcS (i) (by first | omega | (rw [List.length_set]; omega))
      refine sq_v rfl (v_indexAddr Tryz.underlying47 ty_87 rfl rfl rrS (by decide) (by omega) (by first | omega | (rw [List.length_set]; omega))) rfl ?_
      refine sq_v rfl (v_loadNE 0 ty_87 rfl rfl rrS (by have := rrS.1; omega) rfl hcs53) rfl ?_
      refine sq_x rfl (x_alloc ty_87 rfl) rfl ?_; rintro _ _ ⟨b16, rfl, rfl⟩
      refine sq_v rfl (v_assign rfl) rfl ?_
      refine sq_m 0 rfl rfl (m_store 0 ty_87 rfl rfl rfl rfl (by simp [Value.oneCell']) rfl (Nat.le_of_ble_eq_true rfl)) rfl ?_; rintro _ _ ⟨rfl, rfl⟩
      refine sq_end ?_
      obtain ⟨hx, him, hiss⟩ := stp_take hx53
      obtain ⟨hst, hs1, _⟩ := run_step hord hiss
      have htwo := hRO.two hord hiss
      have hend := run_end hord hiss
      rw [stpAt_of hx] at hst hs1
      obtain ⟨⟨hx0, hx1, _⟩, ⟨hy0, hy1, _⟩, hxy⟩ := hst
      refine qs_n ?_
      refine wp_sc ?_
      refine wp_rj 13 [(0, true), (1, true), (2, true), (3, true), (4, true), (5, true), (6, true), (7, true), (8, true), (9, true), (10, true), (11, true), (12, true)] mixed_ok (by kernel_rfl) ?_
      refine rj_v rfl rfl (v_move rfl) rfl ?_
      refine rj_v rfl rfl (v_nilCheck rfl) rfl ?_
      refine rj_v rfl rfl (v_fieldAddr fd_122_0 ty_32 (by decide) rfl) rfl ?_
      refine rj_v rfl rfl (v_load 1 ty_32 rfl rfl hsr2.c0) rfl ?_
      refine rj_v rfl rfl (v_fieldAddr fd_34_1 ty_32 (by decide) rfl) rfl ?_
      refine rj_v rfl rfl (v_loadB 4 ty_32 rfl rfl rfl) rfl ?_
      refine rj_v rfl rfl (v_len Tryz.underlying32 rfl (r.mono (lq.trans (PLe.un_r hdj))).sl) rfl ?_
      refine rj_v rfl rfl (v_move rfl) rfl ?_
      refine rj_v rfl rfl (v_add rfl rfl ((by unfold I64; omega))) rfl ?_
      obtain ⟨t64, a64, b64, c64, ht64, hcs64, rl64, rd64, rx64⟩ := hc_hsr2_all ((ts.length + i)) (by first | omega | (rw [List.length_set]; omega))
      refine rj_v rfl rfl (v_indexAddr Tryz.underlying32 ty_44 rfl rfl rr_hsr2_all (by decide) (by omega) (by omega)) rfl ?_
      refine rj_v rfl rfl (v_fieldAddrE fd_44_0 ty_25 (by decide) rfl rr_hsr2_all (by have := rr_hsr2_all.1; first | omega | (simp only [Int.toNat_natCast]; omega) | (rw [stepCells_len, List.length_set]; omega))) rfl ?_
      refine rj_v rfl rfl (v_loadE 1 ty_25 rfl rfl rr_hsr2_all (sub_get hcs64 (j := 0) rfl)) rfl ?_
      refine rj_v rfl rfl (v_assign rfl) rfl ?_
      refine rj_end ?_
      have e64 := shTens_at ht64
      have l64 : t64.l = runK ts op ss i := by rw [e64]; first | exact hend | (dsimp only; rw [show ((ts.length : Int) + (i : Int)).toNat = ts.length + i by omega]; exact hend)
      rw [l64] at rl64
      refine qs_n ?_
      refine wp_sc ?_
      refine wp_sc ?_
      refine wp_rj 13 [(0, true), (1, true), (2, true), (3, true), (4, true), (5, true), (6, true), (7, true), (8, true), (9, true), (10, true), (11, false), (12, true)] mixed_ok (by kernel_rfl) ?_
      refine rj_v rfl rfl (v_move rfl) rfl ?_
      refine rj_v rfl rfl (v_fieldAddr fd_87_0 ty_3 (by decide) rfl) rfl ?_
      refine rj_v rfl rfl (v_loadB 0 ty_3 rfl rfl rfl) rfl ?_
      obtain ⟨t70, a70, b70, c70, ht70, hcs70, rl70, rd70, rx70⟩ := (hlv.at (PUn.mono_r lq)) ((x53.a : Int).toNat) (by first | omega | (rw [List.length_set]; omega))
      refine rj_v rfl rfl (v_indexAddr Tryz.underlying32 ty_44 rfl rfl rr.toR (by decide) (by omega) (by omega)) rfl ?_
      refine rj_v rfl rfl (v_loadNE 2 ty_44 rfl rfl rr.toR (by have := rr.toR.1; omega) rfl hcs70) rfl ?_
      refine rj_v rfl rfl (v_move rfl) rfl ?_
      refine rj_v rfl rfl (v_fieldAddr fd_87_1 ty_3 (by decide) rfl) rfl ?_
      refine rj_v rfl rfl (v_loadB 0 ty_3 rfl rfl rfl) rfl ?_
      obtain ⟨t75, a75, b75, c75, ht75, hcs75, rl75, rd75, rx75⟩ := (hlv.at (PUn.mono_r lq)) ((x53.b : Int).toNat) (by first | omega | (rw [List.length_set]; omega))
      refine rj_v rfl rfl (v_indexAddr Tryz.underlying32 ty_44 rfl rfl rr.toR (by decide) (by omega) (by omega)) rfl ?_
      refine rj_v rfl rfl (v_loadNE 2 ty_44 rfl rfl rr.toR (by have := rr.toR.1; omega) rfl hcs75) rfl ?_
      have e70 : t70 = runA k p n ts op ss i := (by rw [runA, stpAt_of hx]; simp [List.getD, ht70]); have e75 : t75 = runB k p n ts op ss i := (by rw [runB, stpAt_of hx]; simp [List.getD, ht75]); subst e70; subst e75;
      refine rj_v rfl rfl (v_move rfl) rfl ?_
      refine rj_u rfl rfl (x_callv rfl en_97 (fun w s => ct_u_l08Fits k p n (dimOf ts) _ _ _ _ _ _ _ _ _ _ w (rl70.mono (s.get 1 rfl)) (rd70.mono (s.get 1 rfl)) (rx70.mono (s.get 1 rfl)) (rl75.mono (s.get 1 rfl)) (rd75.mono (s.get 1 rfl)) (rx75.mono (s.get 1 rfl)) (rl64.mono (s.get 1 rfl)) htwo.1.1 htwo.2.1 htwo.1.2.2 htwo.2.2.2)) rfl ?_
      refine rj_v rfl rfl (v_not rfl) rfl ?_
      refine rj_end ?_
      refine qs_n ?_
      refine wp_cn _ rfl (fun c79 => ?_) (fun c79 => ?_)
      · refine wp_sc ?_
        refine wp_sq ?_
        refine sq_v rfl (v_assign rfl) rfl ?_
        refine sq_v rfl (v_assign rfl) rfl ?_
        refine sq_v rfl (v_assign rfl) rfl ?_
        refine sq_end ?_
        refine qs_n ?_
        refine wp_rt ?_
        refine qs_r ?_
        refine qs_br ?_
        refine qs_r ?_
        refine qs_r ?_
        refine qs_br ?_
        refine qs_r ?_
        refine qs_s [hl, hp w] (fun _ s => Sat.part hdj (s.pick [1] (by decide) rfl)) ?_
        exact qs_ret3 rfl rfl rfl rfl (fin_e (i := 1) rfl ⟨_, _, false, rfl, ⟨fun e => (by cases e), fun h => absurd (h i (by omega)) (pairB_false.1 c79)⟩, fun e => (by cases e)⟩)
      · refine wp_sk ?_
        refine qs_n ?_
        refine wp_sc ?_
        refine wp_rj 16 [(0, true), (1, true), (2, true), (3, true), (4, true), (5, true), (6, true), (7, true), (8, true), (9, true), (10, true), (11, true), (12, true), (13, true), (14, false), (15, false), (16, false), (17, false)] mixed_ok (by kernel_rfl) ?_
        have hpf : runFit k p n ts op ss i := pairB_true.1 c79
        refine rj_v rfl rfl (v_move rfl) rfl ?_
        refine rj_v rfl rfl (v_fieldAddr fd_34_0 ty_31 (by decide) rfl) rfl ?_
        refine rj_v rfl rfl (v_loadNB 4 ty_31 rfl rfl rfl rfl) rfl ?_
        refine rj_v rfl rfl (v_move rfl) rfl ?_
        refine rj_v rfl rfl (v_fieldAddr fd_87_0 ty_3 (by decide) rfl) rfl ?_
        refine rj_v rfl rfl (v_loadB 0 ty_3 rfl rfl rfl) rfl ?_
        obtain ⟨t86, a86, b86, c86, ht86, hcs86, rl86, rd86, rx86⟩ := (hlv.at (PUn.mono_r lq)) ((x53.a : Int).toNat) (by first | omega | (rw [List.length_set]; omega))
        refine rj_v rfl rfl (v_indexAddr Tryz.underlying32 ty_44 rfl rfl rr.toR (by decide) (by omega) (by omega)) rfl ?_
        refine rj_v rfl rfl (v_loadNE 2 ty_44 rfl rfl rr.toR (by have := rr.toR.1; omega) rfl hcs86) rfl ?_
        refine rj_v rfl rfl (v_move rfl) rfl ?_
        refine rj_v rfl rfl (v_fieldAddr fd_87_1 ty_3 (by decide) rfl) rfl ?_
        refine rj_v rfl rfl (v_loadB 0 ty_3 rfl rfl rfl) rfl ?_
        obtain ⟨t91, a91, b91, c91, ht91, hcs91, rl91, rd91, rx91⟩ := (hlv.at (PUn.mono_r lq)) ((x53.b : Int).toNat) (by first | omega | (rw [List.length_set]; omega))
        refine rj_v rfl rfl (v_indexAddr Tryz.underlying32 ty_44 rfl rfl rr.toR (by decide) (by omega) (by omega)) rfl ?_
        refine rj_v rfl rfl (v_loadNE 2 ty_44 rfl rfl rr.toR (by have := rr.toR.1; omega) rfl hcs91) rfl ?_
        have e86 : t86 = runA k p n ts op ss i := (by rw [runA, stpAt_of hx]; simp [List.getD, ht86]); have e91 : t91 = runB k p n ts op ss i := (by rw [runB, stpAt_of hx]; simp [List.getD, ht91]); subst e86; subst e91;
        refine rj_v rfl rfl (v_move rfl) rfl ?_
        refine rj_x rfl rfl (x_call rfl en_99 (fun w s => ct_u_l08Pair _ _ _ _ _ _ _ _ _ _ _ _ _ w (rl86.mono (s.get 1 rfl)) (rd86.mono (s.get 1 rfl)) (rx86.mono (s.get 1 rfl)) (rl91.mono (s.get 1 rfl)) (rd91.mono (s.get 1 rfl)) (rx91.mono (s.get 1 rfl)) (rl64.mono (s.get 1 rfl)) hpf)) rfl ?_; rintro _ h94 ⟨va94, vb94, vc94, rfl, o94⟩
        refine rj_x rfl rfl (x_buildS [.agg [va94, vb94, vc94].toArray] Tryz.underlying32 ty_44 (by decide) rfl rfl rfl (by decide) (by decide) (by intro v hv; simp at hv; subst hv; rfl)) rfl ?_; intro v95 h95 (r95 : RowO 44 [va94, vb94, vc94] 1 3 v95 h95)
        refine rj_m 4 rfl rfl rfl rfl (m_append 4 0 Tryz.underlying32 ty_44 rfl rfl (by decide) rfl rfl rfl rr rfl r95.toR (by simp [o94.toR.1.sl.one, o94.toR.2.1.sl.one, o94.toR.2.2.sl.one]) (by unfold maxLen; omega) (by omega)) rfl ?_; intro v96 h_r96 (r96 : RowO 44 (cs ++ [va94, vb94, vc94]) ((runTo k p n ts op ss i).length + 1) 3 v96 h_r96)
        refine rj_fv rfl rfl (v_assign rfl) rfl ?_
        refine rj_end ?_
        refine qs_n ?_
        refine wp_sc ?_
        refine wp_sq ?_
        refine sq_x rfl (x_build0 Tryz.underlying25 ty_3) rfl ?_; intro v97 h97 (r97 : IntsO [] v97 h97)
        refine sq_v rfl (v_assign rfl) rfl ?_
        refine sq_end ?_
        refine qs_n ?_
        refine wp_sc ?_
        refine wp_sc ?_
        refine wp_sq ?_
        refine sq_v rfl (v_move rfl) rfl ?_
        refine sq_v rfl (v_len Tryz.underlying25 rfl qb.toR.sl) rfl ?_
        refine sq_v rfl (v_move rfl) rfl ?_
        refine sq_end ?_
        refine qs_n ?_
        refine wp_bl ?_
        refine wp_lp (σ := Nat × Value × PH) (fun z_ => [(3, .pointer (some ⟨b3, 0, none⟩)), (6, .slice none 0 0), (7, .slice none 0 0), (8, .bool false), (9, .pointer (some ⟨bb, 0, none⟩)), (11, v96), (12, vb), (15, num i), (16, .pointer (some ⟨b16, 0, none⟩)), (17, a64), (18, z_.2.1), (48, subV v 0 ((m : Int).toNat) 2), (49, num (ss.take ((m : Int).toNat)).length), (50, num i), (51, .bool (decide ((i : Int) < (ss.take ((m : Int).toNat)).length))), (52, num i), (54, .agg [num x53.a, num x53.b].toArray), (55, .pointer (some ⟨bb, 0, none⟩)), (56, .pointer (some ⟨bb, 0, none⟩)), (57, .pointer (some ⟨bb, 0, none⟩)), (58, va0), (59, .pointer (some ⟨b3, 3, none⟩)), (60, vt), (61, num ts.length), (62, num i), (63, num (ts.length + i)), (66, a64), (67, va), (68, .pointer (some ⟨b16, 0, none⟩)), (69, num x53.a), (71, .agg [a70, b70, c70].toArray), (72, va), (73, .pointer (some ⟨b16, 1, none⟩)), (74, num x53.b), (76, .agg [a75, b75, c75].toArray), (77, a64), (78, .bool (pairB k p n (runA k p n ts op ss i) (runB k p n ts op ss i) (runK ts op ss i))), (79, .bool (!(pairB k p n (runA k p n ts op ss i) (runB k p n ts op ss i) (runK ts op ss i)))), (80, va), (81, .pointer (some ⟨b3, 0, none⟩)), (82, .agg [num k, num p, num n].toArray), (83, va), (84, .pointer (some ⟨b16, 0, none⟩)), (85, num x53.a), (87, .agg [a86, b86, c86].toArray), (88, va), (89, .pointer (some ⟨b16, 1, none⟩)), (90, num x53.b), (92, .agg [a91, b91, c91].toArray), (93, a64), (94, .agg [va94, vb94, vc94].toArray), (95, v95), (96, v96), (97, v97), (98, vb), (99, num ((runS ts op ss i).ixs.map Int.ofNat).length), (100, num z_.1)]) (fun z_ => [z_.2.2, h95, h94, box b16 [num x53.a, num x53.b] 87, (PUn hl (hp w)), h_r96, hb, box b3 [num k, num p, num n, vt, vo] 34]) (fun z_ => z_.1 ≤ ((runS ts op ss i).ixs.map Int.ofNat).length ∧ (IntsO ((((runS ts op ss i).ixs.map Int.ofNat).take z_.1).filter fun y => decide (y ≠ x53.a ∧ y ≠ x53.b)) z_.2.1 z_.2.2)) (fun z_ => ((runS ts op ss i).ixs.map Int.ofNat).length - z_.1) (0, v97, h97) (⟨by (try dsimp only); omega, r97⟩) ⟨rfl, rfl, rfl, rfl, rfl, rfl, rfl, rfl, rfl, rfl, (by first | rfl | exact ksub rfl (by first | omega | (simp; done) | (simp; omega))), rfl, rfl, rfl, rfl, rfl, rfl, rfl, rfl, rfl, rfl, rfl, rfl, rfl, rfl, rfl, rfl, rfl, rfl, rfl, rfl, rfl, rfl, rfl, rfl, rfl, rfl, rfl, rfl, rfl, rfl, rfl, rfl, rfl, rfl, rfl, rfl, rfl, rfl, rfl, rfl, rfl, rfl, rfl, rfl, rfl, (by first | rfl | exact ksub rfl (by first | omega | (simp; done) | (simp; omega))), trivial⟩ (fun _ s => s) ?_
        rintro ⟨j, vn, hn⟩ ⟨hj, qn⟩
        dsimp only at hj qn ⊢
        have hle_qn := qn.toR.le
        have hfl := filter_take_len ((runS ts op ss i).ixs.map Int.ofNat) (fun y => decide (y ≠ x53.a ∧ y ≠ x53.b)) j
        have hxl : (runS ts op ss i).ixs.length ≤ (runS ts op ss i).all.length := by have := List.length_filter_le (fun i' => !(runS ts op ss i).gone.getD i' false) (List.range (runS ts op ss i).all.length); simpa [Sh.ixs] using this
        have hml : ((runS ts op ss i).ixs.map Int.ofNat).length = (runS ts op ss i).ixs.length := List.length_map _
        refine wp_sc ?_
        refine wp_sq ?_
        refine sq_v rfl (v_lss rfl rfl) rfl ?_
        refine sq_end ?_
        refine qs_n ?_
        refine wp_sc ?_
        refine wp_cd rfl (fun c101 => ?_) (fun c101 => ?_)
        · refine wp_sk ?_
          refine qs_n ?_
          refine wp_sc ?_
          refine wp_bl ?_
          refine wp_sc ?_
          refine wp_sq ?_
          refine sq_v rfl (v_idxI Tryz.underlying25 ty_3 rfl rfl qb.toR (by first | omega | (simp only [List.length_cons, List.length_nil]; omega) | (simp only [List.length_append, List.length_cons, List.length_nil]; omega) | (rw [List.length_set]; omega) | (rw [List.length_replicate]; omega) | (simp; omega)) (by first | omega | (simp only [List.length_cons, List.length_nil]; omega) | (simp only [List.length_append, List.length_cons, List.length_nil]; omega) | (rw [List.length_set]; omega) | (rw [List.length_replicate]; omega) | (simp; omega))) rfl ?_
          refine sq_v rfl (v_loadI (k := j) 6 ty_3 rfl rfl qb.toR (by first | omega | (simp only [List.length_cons, List.length_nil]; omega) | (simp only [List.length_append, List.length_cons, List.length_nil]; omega) | (rw [List.length_set]; omega) | (rw [List.length_replicate]; omega) | (simp; omega))) rfl ?_
          refine sq_v rfl (v_assign rfl) rfl ?_
          refine sq_end ?_
          refine qs_n ?_
          refine wp_sc ?_
          refine wp_sq ?_
          refine sq_v rfl (v_move rfl) rfl ?_
          refine sq_v rfl (v_fieldAddr fd_87_0 ty_3 (by decide) rfl) rfl ?_
          refine sq_v rfl (v_loadB 3 ty_3 rfl rfl rfl) rfl ?_
          refine sq_v rfl (v_neq rfl rfl) rfl ?_
          refine sq_bd 107 rfl (fun c107 => ?_) (fun c107 => ?_)
          · refine sq_v rfl (v_move rfl) rfl ?_
            refine sq_v rfl (v_move rfl) rfl ?_
            refine sq_v rfl (v_fieldAddr fd_87_1 ty_3 (by decide) rfl) rfl ?_
            refine sq_v rfl (v_loadB 3 ty_3 rfl rfl rfl) rfl ?_
            refine sq_v rfl (v_neq rfl rfl) rfl ?_
            refine sq_v rfl (v_pickt rfl rfl) rfl ?_
            refine sq_end ?_
            refine qs_n ?_
            refine wp_cd rfl (fun c113 => ?_) (fun c113 => ?_)
            · refine wp_sq ?_
              refine sq_v rfl (v_move rfl) rfl ?_
              refine sq_v rfl (v_move rfl) rfl ?_
              refine sq_x rfl (x_buildS [num (((runS ts op ss i).ixs.map Int.ofNat).getD j 0)] Tryz.underlying25 ty_3 (by decide) rfl rfl rfl (by decide) (by decide) (by intro v hv; simp at hv; rcases hv with rfl <;> rfl)) rfl ?_; intro v116 h116 (r116 : IntsO [((runS ts op ss i).ixs.map Int.ofNat).getD j 0] v116 h116)
              refine sq_m 1 rfl rfl (m_appI 1 0 Tryz.underlying25 ty_3 rfl rfl rfl rfl qn rfl r116.toR (by first | omega | (simp only [List.length_cons, List.length_nil]; omega) | (simp only [List.length_append, List.length_cons, List.length_nil]; omega) | (rw [List.length_set]; omega) | (rw [List.length_replicate]; omega) | (simp; omega))) rfl ?_; intro v117 h_r117 r117
              refine sq_v rfl (v_assign rfl) rfl ?_
              refine sq_end ?_
              refine qs_bn ?_
              refine qs_n ?_
              refine wp_sq ?_
              refine sq_v rfl (v_add rfl rfl ((by unfold I64; omega))) rfl ?_
              refine sq_v rfl (v_move rfl) rfl ?_
              refine sq_end ?_
              exact qs_bk (j + 1, v117, h_r117) ⟨by (try dsimp only); omega, by (try dsimp only); rw [filter_yes (by omega) (decide_eq_true ⟨by omega, by omega⟩)]; exact r117⟩ (by simp only; omega) ⟨rfl, rfl, rfl, rfl, rfl, rfl, rfl, rfl, rfl, rfl, (by first | rfl | exact ksub rfl (by first | omega | (simp; done) | (simp; omega))), rfl, rfl, rfl, rfl, rfl, rfl, rfl, rfl, rfl, rfl, rfl, rfl, rfl, rfl, rfl, rfl, rfl, rfl, rfl, rfl, rfl, rfl, rfl, rfl, rfl, rfl, rfl, rfl, rfl, rfl, rfl, rfl, rfl, rfl, rfl, rfl, rfl, rfl, rfl, rfl, rfl, rfl, rfl, rfl, rfl, (by first | rfl | exact ksub rfl (by first | omega | (simp; done) | (simp; omega))), trivial⟩ (fun _ s => s.pick [1, 2, 3, 4, 5, 6, 7, 8] (by decide) rfl)
            · refine wp_sk ?_
              refine qs_bn ?_
              refine qs_n ?_
              refine wp_sq ?_
              refine sq_v rfl (v_add rfl rfl ((by unfold I64; omega))) rfl ?_
              refine sq_v rfl (v_move rfl) rfl ?_
              refine sq_end ?_
              exact qs_bk (j + 1, vn, hn) ⟨by (try dsimp only); omega, by (try dsimp only); rw [filter_no (by omega) (decide_eq_false (by omega))]; exact qn⟩ (by simp only; omega) ⟨rfl, rfl, rfl, rfl, rfl, rfl, rfl, rfl, rfl, rfl, (by first | rfl | exact ksub rfl (by first | omega | (simp; done) | (simp; omega))), rfl, rfl, rfl, rfl, rfl, rfl, rfl, rfl, rfl, rfl, rfl, rfl, rfl, rfl, rfl, rfl, rfl, rfl, rfl, rfl, rfl, rfl, rfl, rfl, rfl, rfl, rfl, rfl, rfl, rfl, rfl, rfl, rfl, rfl, rfl, rfl, rfl, rfl, rfl, rfl, rfl, rfl, rfl, rfl, rfl, (by first | rfl | exact ksub rfl (by first | omega | (simp; done) | (simp; omega))), trivial⟩ (fun _ s => s)
          · refine sq_v rfl (v_move rfl) rfl ?_
            refine sq_s rfl rfl ?_
            refine sq_s rfl rfl ?_
            refine sq_s rfl rfl ?_
            refine sq_s rfl rfl ?_
            refine sq_v rfl (v_pickf rfl rfl) rfl ?_
            refine sq_end ?_
            refine qs_n ?_
            refine wp_cf rfl ?_
            refine wp_sk ?_
            refine qs_bn ?_
            refine qs_n ?_
            refine wp_sq ?_
            refine sq_v rfl (v_add rfl rfl ((by unfold I64; omega))) rfl ?_
            refine sq_v rfl (v_move rfl) rfl ?_
            refine sq_end ?_
            exact qs_bk (j + 1, vn, hn) ⟨by (try dsimp only); omega, by (try dsimp only); rw [filter_no (by omega) (decide_eq_false (by omega))]; exact qn⟩ (by simp only; omega) ⟨rfl, rfl, rfl, rfl, rfl, rfl, rfl, rfl, rfl, rfl, (by first | rfl | exact ksub rfl (by first | omega | (simp; done) | (simp; omega))), rfl, rfl, rfl, rfl, rfl, rfl, rfl, rfl, rfl, rfl, rfl, rfl, rfl, rfl, rfl, rfl, rfl, rfl, rfl, rfl, rfl, rfl, rfl, rfl, rfl, rfl, rfl, rfl, rfl, rfl, rfl, rfl, rfl, rfl, rfl, rfl, rfl, rfl, rfl, rfl, rfl, rfl, rfl, rfl, rfl, (by first | rfl | exact ksub rfl (by first | omega | (simp; done) | (simp; omega))), trivial⟩ (fun _ s => s)
        · refine wp_ex ?_
          refine qs_x ?_
          refine qs_x ?_
          refine qs_bx ?_
          refine qs_n ?_
          refine wp_sq ?_
          refine sq_v rfl (v_move rfl) rfl ?_
          refine sq_v rfl (v_move rfl) rfl ?_
          refine sq_v rfl (v_len Tryz.underlying32 rfl r96.toR.sl) rfl ?_
          refine sq_v rfl (v_sub rfl rfl ((by unfold I64; omega))) rfl ?_
          refine sq_x rfl (x_buildS [num (((((runTo k p n ts op ss i).length + 1) : Nat) - 1))] Tryz.underlying25 ty_3 (by decide) rfl rfl rfl (by decide) (by decide) (by intro v hv; simp at hv; rcases hv with rfl <;> rfl)) rfl ?_; intro v123 h123 (r123 : IntsO [((((runTo k p n ts op ss i).length + 1) : Nat) - 1)] v123 h123)
          refine sq_m 1 rfl rfl (m_appI 1 0 Tryz.underlying25 ty_3 rfl rfl rfl rfl qn rfl r123.toR (by first | omega | (simp only [List.length_cons, List.length_nil]; omega) | (simp only [List.length_append, List.length_cons, List.length_nil]; omega) | (rw [List.length_set]; omega) | (rw [List.length_replicate]; omega) | (simp; omega))) rfl ?_; intro v124 h_r124 r124
          refine sq_v rfl (v_assign rfl) rfl ?_
          refine sq_end ?_
          refine qs_bn ?_
          refine qs_n ?_
          refine wp_sq ?_
          refine sq_v rfl (v_add rfl rfl ((by unfold I64; omega))) rfl ?_
          refine sq_v rfl (v_move rfl) rfl ?_
          refine sq_end ?_
          refine qs_dj 5 3 rfl rfl rfl (fun hdm => ?_)
          have hd1 : PDj hl h94 := hdm.mono (PLe.un_l _ _)
          have hd2 : PDj h94 (hp w) := (hdm.mono (PLe.un_r hdj)).symm
          have hdjN : PDj (PUn hl h94) (hp w) := PDj.un hdj hd2
          have hd3 : PDj (PUn hl h94) q := (hdjN.symm.mono lq).symm
          have hle94 : PLe h94 (PUn (PUn hl h94) q) := (PLe.un_r hd1).trans (PLe.un_l _ _)
          have hlv2 : TensL (runTo k p n ts op ss (i + 1)) (cs ++ [va94, vb94, vc94]) (PUn (PUn hl h94) q) := by rw [runTo_step]; exact (hlv.mono (PUn.mono_l (PLe.un_l _ _) hd3)).snoc (o94.toR.1.mono hle94) (o94.toR.2.1.mono hle94) (o94.toR.2.2.mono hle94)
          have hix := ixs_step (x := x53) hs1 hfs.1 ⟨hx0, hy0⟩
          rw [List.take_of_length_le (by omega)] at r124
          rw [show (((runTo k p n ts op ss i).length + 1 : Nat) : Int) - 1 = ((runS ts op ss i).all.length : Int) by omega] at r124
          exact qs_bk (i + 1, v96, h_r96, cs ++ [va94, vb94, vc94], v124, h_r124, PUn hl h94) ⟨by (try dsimp only); rw [List.length_take]; omega, step_all hfit hpf, hdjN, hle.trans (PLe.un_l _ _), hlv2, by (try dsimp only); rw [runTo_step, List.length_append]; exact r96, by (try dsimp only); rw [hix]; exact r124⟩ (by simp only; omega) ⟨rfl, rfl, rfl, rfl, rfl, (by first | rfl | exact ksub rfl (by first | omega | (simp; done) | (simp; omega))), (by first | rfl | exact ksub rfl (by first | omega | (simp; done) | (simp; omega))), rfl, rfl, (by first | rfl | exact ksub rfl (by first | omega | (simp; done) | (simp; omega))), trivial⟩ (fun _ s => Sat.merge (Sat.merge ((Sat.part hdj (s.pick (HS' := [PUn hl (hp w), h94, h_r96, h_r124, box b3 [num k, num p, num n, vt, vo] 34]) [5, 3, 6, 1, 8] (by decide) rfl)).pick (HS' := [hl, h94, hp w, h_r96, h_r124, box b3 [num k, num p, num n, vt, vo] 34]) [0, 2, 1, 3, 4, 5] (by decide) rfl)))
    · refine wp_ex ?_
      refine qs_x ?_
      refine qs_x ?_
      refine qs_bx ?_
      refine qs_n ?_
      refine wp_sc ?_
      refine wp_sq ?_
      refine sq_v rfl (v_move rfl) rfl ?_
      refine sq_v rfl (v_move rfl) rfl ?_
      refine sq_v rfl (v_assign rfl) rfl ?_
      refine sq_v rfl (v_assign rfl) rfl ?_
      refine sq_v rfl (v_assign rfl) rfl ?_
      refine sq_end ?_
      refine qs_n ?_
      refine wp_rt ?_
      have ei : i = (m : Int).toNat := by have : ¬ i < (ss.take (m : Int).toNat).length := (by omega); rw [List.length_take] at this; omega
      refine qs_s [hl, hp w, ha, hb] (fun _ s => Sat.part hdj (s.pick [0, 1, 2] (by decide) rfl)) ?_
      refine qs_close [hp w] [ha, hb, hl] (fun _ s => s.pick [1, 2, 3, 0] (by decide) rfl) (fun md => ?_)
      exact qs_ret3 rfl rfl rfl rfl (fin_t 0 (i := 1) rfl rfl rfl ⟨va, vb, true, rfl, ⟨fun _ => by rw [← ei]; exact hfit, fun _ => rfl⟩, fun _ => ⟨cs, ha, hb, hl, by rw [← ei]; exact rr, by rw [← ei]; exact qb, by rw [← ei]; exact hlv, md⟩⟩)
end Go.Proofs.YtehjljijionhaaaGreat
namespace Go.Proofs.YtehjljijionhaaaGreat
set_option maxRecDepth 100000
open Go.RowKit
theorem run_read {k p n m : Int} {ts : List Ten} {op : List Int} {ss : List Stp} {q h H : PH} {va vb : Value} (e : ∃ cs ha hb hs, RowO 44 cs (runTo k p n ts op ss m.toNat).length 3 va ha ∧ IntsO ((runS ts op ss m.toNat).ixs.map Int.ofNat) vb hb ∧ TensL (runTo k p n ts op ss m.toNat) cs (PUn hs q) ∧ Made h [ha, hb, hs]) (l : PLe h H) (lq : PLe q H) :
    TensR (runTo k p n ts op ss m.toNat) va H ∧ IntsR ((runS ts op ss m.toNat).ixs.map Int.ofNat) vb H := by
  obtain ⟨cs, ha, hb, hs, r1, r2, r3, md⟩ := e
  exact ⟨(r3.mono (PUn.le ((md.le hs (by simp)).trans l) lq)).tens (r1.toR.mono ((md.le ha (by simp)).trans l)), r2.toR.mono ((md.le hb (by simp)).trans l)⟩
end Go.Proofs.YtehjljijionhaaaGreat
namespace Go.Proofs.YtehjljijionhaaaGreat
set_option maxRecDepth 100000
open Go.RowKit
theorem con_out {k p n : Int} {ts : List Ten} {op : List Int} {ss : List Stp} (h : conP k p n ts op ss) : partTs k p n ts op ss ss.length = outTo k p n ts op ss ss.length ∧ partOp k p n ts op ss ss.length = op ∧ partB k p n ts op ss ss.length = true ∧ ((outTo k p n ts op ss ss.length).length = 0 ↔ ts.length = 0) := by
  have hB := partB_true.2 (con_part.2 h)
  refine ⟨by rw [partTs, hB, Int.toNat_natCast]; rfl, by rw [partOp, hB]; rfl, hB, ?_⟩
  by_cases hn : ts.length = 0
  · have hs := h.1.2.1
    have e : ss.length = 0 := by omega
    rw [e, out_zero]
  · rw [(h.last hn).2]
    simp [hn]
theorem ct_L_iPartial (k p n m : Int) (ts : List Ten) (op : List Int) (ss : List Stp) (vt vo v : Value) (w : World) (r : TensR ts vt (hp w)) (r' : IntsR op vo (hp w)) (rv : StepsR ss v (hp w)) (hs : op.length ≤ 1048576) :
    Calls Tryz.prog 72 [netV k p n vt vo, v, num m].toArray w (Ret w emp (NetB (ifB (partB k p n ts op ss m) k 0) (ifB (partB k p n ts op ss m) p 0) (ifB (partB k p n ts op ss m) n 0) (partTs k p n ts op ss m) (partOp k p n ts op ss m) (partB k p n ts op ss m))) :=
  ct_i_PartialNetwork k p n m ts op ss vt vo v w r r' rv hs
set_option maxHeartbeats 4000000 in
theorem ct_i_Contract (k p n : Int) (ts : List Ten) (op : List Int) (ss : List Stp) (vt vo v : Value) (w : World) (r : TensR ts vt (hp w)) (r' : IntsR op vo (hp w)) (rv : StepsR ss v (hp w)) (hs : op.length ≤ 1048576) :
    Calls Tryz.prog 27 [netV k p n vt vo, v].toArray w (Ret w emp (TenB (conR k p n ts op ss) (conB k p n ts op ss))) := by
  refine calls_in Tryz.func27 rfl Tryz.ntmps27 rfl (Sat.start w) ?_
  have hle0 := r.le
  obtain ⟨cs_r, rr_r, hc_r⟩ := r.at
  have hle1 := r'.le
  have hle2 := rv.le
  obtain ⟨cs_rv, rr_rv, hc_rv⟩ := rv.at
  refine wp_sc ?_
  refine wp_sq ?_
  refine sq_x rfl (x_box rfl rfl) rfl ?_; rintro _ _ ⟨b2, rfl, rfl⟩
  refine sq_x rfl (x_alloc ty_44 rfl) rfl ?_; rintro _ _ ⟨b4, rfl, rfl⟩
  refine sq_v rfl (v_assign rfl) rfl ?_
  refine sq_end ?_
  refine qs_n ?_
  refine wp_sc ?_
  refine wp_sq ?_
  refine sq_v rfl (v_loadNB 1 ty_34 rfl rfl rfl rfl) rfl ?_
  refine sq_v rfl (v_move rfl) rfl ?_
  refine sq_v rfl (v_move rfl) rfl ?_
  refine sq_v rfl (v_len Tryz.underlying47 rfl rv.sl) rfl ?_
  refine sq_x rfl (x_call rfl en_72 (fun w s => ct_L_iPartial _ _ _ _ _ _ _ _ _ _ w (r.mono (s.get 2 rfl)) (r'.mono (s.get 2 rfl)) (rv.mono (s.get 2 rfl)) (by first | assumption | omega))) rfl ?_; rintro _ h13 ⟨vt13, vo13, rfl, o13⟩
  obtain ⟨cs_T_13, rr_T_13, hc_T_13⟩ := o13.toR.1.at
  refine sq_v rfl (v_move rfl) rfl ?_
  refine sq_v rfl (v_extract rfl rfl) rfl ?_
  refine sq_v rfl (v_extract rfl rfl) rfl ?_
  refine sq_x rfl (x_alloc ty_34 rfl) rfl ?_; rintro _ _ ⟨b6, rfl, rfl⟩
  refine sq_m 0 rfl rfl (m_store 0 ty_34 rfl rfl rfl rfl (by simp [one_int, o13.toR.1.sl.one, o13.toR.2.sl.one]) rfl (Nat.le_of_ble_eq_true rfl)) rfl ?_; rintro _ _ ⟨rfl, rfl⟩
  refine sq_v rfl (v_assign rfl) rfl ?_
  refine sq_end ?_
  refine qs_n ?_
  refine wp_sc ?_
  refine wp_sc ?_
  refine wp_sq ?_
  refine sq_v rfl (v_move rfl) rfl ?_
  refine sq_v rfl (v_not rfl) rfl ?_
  refine sq_end ?_
  refine qs_n ?_
  refine wp_cn _ rfl (fun c17 => ?_) (fun c17 => ?_)
  · refine wp_sc ?_
    refine wp_sq ?_
    refine sq_v rfl (v_build [.slice none 0 0, .slice none 0 0, .slice none 0 0] rfl (by kernel_rfl)) rfl ?_
    refine sq_m 2 rfl rfl (m_store 2 ty_44 rfl rfl rfl rfl (by simp [one_sl]) rfl (Nat.le_of_ble_eq_true rfl)) rfl ?_; rintro _ _ ⟨rfl, rfl⟩
    refine sq_v rfl (v_assign rfl) rfl ?_
    refine sq_end ?_
    refine qs_n ?_
    refine wp_rt ?_
    refine qs_r ?_
    exact qs_retct 2 rfl ty_44 rfl rfl rfl rfl (fin_e (i := 4) rfl (ConNo (fun h => by rw [(con_out h).2.2.1] at c17; cases c17)))
  · refine wp_sk ?_
    refine qs_n ?_
    refine wp_sc ?_
    refine wp_sc ?_
    refine wp_sq ?_
    have hcon := con_part.1 (partB_true.1 c17); have hout := con_out hcon; have hring := hcon.1.1.1; rw [hout.1] at o13 hc_T_13 rr_T_13;
    refine sq_v rfl (v_fieldAddr fd_34_1 ty_32 (by decide) rfl) rfl ?_
    refine sq_v rfl (v_loadB 0 ty_32 rfl rfl rfl) rfl ?_
    refine sq_v rfl (v_len Tryz.underlying32 rfl o13.toR.1.sl) rfl ?_
    refine sq_v rfl (v_eql rfl rfl) rfl ?_
    refine sq_end ?_
    refine qs_n ?_
    refine wp_cd rfl (fun c22 => ?_) (fun c22 => ?_)
    · refine wp_sc ?_
      refine wp_sq ?_
      refine sq_v rfl (v_fieldAddr fd_34_0 ty_31 (by decide) rfl) rfl ?_
      refine sq_v rfl (v_loadNB 3 ty_31 rfl rfl rfl rfl) rfl ?_
      refine sq_x rfl (x_call rfl en_73 (fun w s => ct_i_scalarOne _ _ _ w (by first | assumption | omega))) rfl ?_; rintro _ h25 ⟨va25, vb25, vc25, rfl, o25⟩
      refine sq_m 3 rfl rfl (m_store 3 ty_44 rfl rfl rfl rfl (by simp [o25.toR.1.sl.one, o25.toR.2.1.sl.one, o25.toR.2.2.sl.one]) rfl (Nat.le_of_ble_eq_true rfl)) rfl ?_; rintro _ _ ⟨rfl, rfl⟩
      refine sq_v rfl (v_assign rfl) rfl ?_
      refine sq_end ?_
      refine qs_n ?_
      refine wp_rt ?_
      refine qs_r ?_
      exact qs_retct 3 rfl ty_44 rfl rfl rfl rfl (fin_t 0 (i := 5) rfl rfl rfl (ConYes hcon (by rw [conT, if_pos (by rw [← hout.2.2.2]; omega)]; exact o25)))
    · refine wp_sk ?_
      refine qs_n ?_
      refine wp_sc ?_
      refine wp_rj 8 [(0, true), (1, true), (2, true), (3, true), (4, true), (5, false), (6, true), (7, true), (8, false), (9, false)] mixed_ok (by kernel_rfl) ?_
      refine rj_v rfl rfl (v_loadNB 3 ty_34 rfl rfl rfl rfl) rfl ?_
      refine rj_v rfl rfl (v_fieldAddr fd_34_1 ty_32 (by decide) rfl) rfl ?_
      refine rj_v rfl rfl (v_loadB 0 ty_32 rfl rfl rfl) rfl ?_
      obtain ⟨t29, a29, b29, c29, ht29, hcs29, rl29, rd29, rx29⟩ := hc_T_13 (0) (by first | omega | (rw [List.length_set]; omega));  have hn0 : ts.length ≠ 0 := (fun e => c22 (by rw [hout.2.2.2.2 e]; rfl)); obtain ⟨hfin, hlast⟩ := hcon.last hn0; have hol : (outTo k p n ts op ss ss.length).length = 1 := (by rw [hlast]; rfl)
      refine rj_v rfl rfl (v_indexAddr Tryz.underlying32 ty_44 rfl rfl rr_T_13 (by decide) (by omega) (by omega)) rfl ?_
      refine rj_v rfl rfl (v_loadNE 1 ty_44 rfl rfl rr_T_13 (by have := rr_T_13.1; omega) rfl hcs29) rfl ?_
      have e29 : t29 = lastT k p n ts op ss := (by rw [hlast] at ht29; simpa using ht29.symm); subst e29;
      refine rj_x rfl rfl (x_call rfl en_74 (fun w s => ct_i_FinishTensor _ _ _ _ _ _ _ _ _ _ _ w (r.mono (s.get 4 rfl)) (r'.mono (s.get 4 rfl)) (rl29.mono (s.get 1 rfl)) (rd29.mono (s.get 1 rfl)) (rx29.mono (s.get 1 rfl)) (by first | assumption | omega))) rfl ?_; rintro _ h31 ⟨va31, vb31, vc31, rfl, o31⟩
      refine rj_v rfl rfl (v_extract rfl rfl) rfl ?_
      refine rj_v rfl rfl (v_extract rfl rfl) rfl ?_
      refine rj_m 3 rfl rfl rfl rfl (m_store 3 ty_44 rfl rfl rfl rfl (by simp [o31.toR.1.sl.one, o31.toR.2.1.sl.one, o31.toR.2.2.sl.one]) rfl (Nat.le_of_ble_eq_true rfl)) rfl ?_; rintro _ _ ⟨rfl, rfl⟩
      refine rj_fv rfl rfl (v_assign rfl) rfl ?_
      refine rj_end ?_
      have hfb : finB k p n ts op (lastT k p n ts op ss) = true := by simp [finB, hfin]
      rw [finR, if_pos hfin] at o31
      refine qs_n ?_
      refine wp_rt ?_
      exact qs_retct 3 rfl ty_44 rfl rfl rfl rfl (fin_t 0 (i := 5) rfl rfl rfl (by rw [hfb]; exact ConYes hcon (by rw [conT, if_neg hn0]; exact o31)))
set_option maxHeartbeats 4000000 in
theorem ct_s_Contract (k p n : Int) (ts : List Ten) (op : List Int) (ss : List Stp) (vt vo v : Value) (w : World) (r : TensR ts vt (hp w)) (r' : IntsR op vo (hp w)) (rv : StepsR ss v (hp w)) (hs : op.length ≤ 1048576) (hss : ss.length ≤ 1048576) :
    Calls Tryz.prog 25 [netV k p n vt vo, v].toArray w (Ret w emp (TenB (conR k p n ts op ss) (conB k p n ts op ss))) := by
  refine calls_in Tryz.func25 rfl Tryz.ntmps25 rfl (Sat.start w) ?_
  have hle0 := r.le
  obtain ⟨cs_r, rr_r, hc_r⟩ := r.at
  have hle1 := r'.le
  have hle2 := rv.le
  obtain ⟨cs_rv, rr_rv, hc_rv⟩ := rv.at
  refine wp_sc ?_
  refine wp_sq ?_
  refine sq_x rfl (x_box rfl rfl) rfl ?_; rintro _ _ ⟨b2, rfl, rfl⟩
  refine sq_x rfl (x_alloc ty_44 rfl) rfl ?_; rintro _ _ ⟨b4, rfl, rfl⟩
  refine sq_v rfl (v_assign rfl) rfl ?_
  refine sq_end ?_
  refine qs_n ?_
  refine wp_sc ?_
  refine wp_sc ?_
  refine wp_sq ?_
  refine sq_v rfl (v_loadNB 1 ty_34 rfl rfl rfl rfl) rfl ?_
  refine sq_v rfl (v_move rfl) rfl ?_
  refine sq_u rfl (x_callv rfl en_67 (fun w s => ct_s_OrderOk _ _ _ _ _ _ _ _ _ w (r.mono (s.get 2 rfl)) (r'.mono (s.get 2 rfl)) (rv.mono (s.get 2 rfl)) (by first | assumption | omega) (by first | assumption | omega))) rfl ?_
  refine sq_v rfl (v_not rfl) rfl ?_
  refine sq_end ?_
  refine qs_n ?_
  refine wp_cn _ rfl (fun c12 => ?_) (fun c12 => ?_)
  · refine wp_sc ?_
    refine wp_sq ?_
    refine sq_v rfl (v_build [.slice none 0 0, .slice none 0 0, .slice none 0 0] rfl (by kernel_rfl)) rfl ?_
    refine sq_m 0 rfl rfl (m_store 0 ty_44 rfl rfl rfl rfl (by simp [one_sl]) rfl (Nat.le_of_ble_eq_true rfl)) rfl ?_; rintro _ _ ⟨rfl, rfl⟩
    refine sq_v rfl (v_assign rfl) rfl ?_
    refine sq_end ?_
    refine qs_n ?_
    refine wp_rt ?_
    refine qs_r ?_
    exact qs_retct 0 rfl ty_44 rfl rfl rfl rfl (fin_e (i := 2) rfl (ConNo (fun h => orderB_false.1 c12 h.1)))
  · refine wp_sk ?_
    refine qs_n ?_
    refine wp_sc ?_
    refine wp_sc ?_
    refine wp_sq ?_
    have hord := orderB_true.1 c12; have hnet := hord.1; have h12 := hnet.2.1; have hring := hnet.1; have hst0 := few_steps (net_axes hnet) hord.2.2
    refine sq_v rfl (v_fieldAddr fd_34_1 ty_32 (by decide) rfl) rfl ?_
    refine sq_v rfl (v_loadB 1 ty_32 rfl rfl rfl) rfl ?_
    refine sq_v rfl (v_len Tryz.underlying32 rfl r.sl) rfl ?_
    refine sq_v rfl (v_eql rfl rfl) rfl ?_
    refine sq_end ?_
    refine qs_n ?_
    refine wp_cd rfl (fun c17 => ?_) (fun c17 => ?_)
    · refine wp_sc ?_
      refine wp_sq ?_
      refine sq_v rfl (v_fieldAddr fd_34_0 ty_31 (by decide) rfl) rfl ?_
      refine sq_v rfl (v_loadNB 1 ty_31 rfl rfl rfl rfl) rfl ?_
      refine sq_x rfl (x_call rfl en_68 (fun w s => ct_s_l02One _ _ _ w (by first | assumption | omega))) rfl ?_; rintro v20 h20 r20
      refine sq_v rfl (v_build [.slice none 0 0, .slice none 0 0, v20] rfl (by obtain ⟨_, _, rfl⟩ := r20.toR.sl; kernel_rfl)) rfl ?_
      refine sq_m 1 rfl rfl (m_store 1 ty_44 rfl rfl rfl rfl (by simp [one_sl, r20.toR.sl.one]) rfl (Nat.le_of_ble_eq_true rfl)) rfl ?_; rintro _ _ ⟨rfl, rfl⟩
      refine sq_v rfl (v_assign rfl) rfl ?_
      refine sq_end ?_
      refine qs_n ?_
      refine wp_rt ?_
      refine qs_r ?_
      refine qs_close [box b4 _ _, hp w] [emp, emp, h20] (fun _ s => by have s1 := emp_sat (emp_sat (s.pick (HS' := [h20, box b4 [.slice none 0 0, .slice none 0 0, v20] 44, hp w]) [0, 1, 3] (by decide) rfl)); exact s1.pick [3, 4, 0, 1, 2] (by decide) rfl) (fun md => ?_)
      exact qs_retct 1 rfl ty_44 rfl rfl rfl rfl (fin_t 0 (i := 2) rfl rfl rfl (ConYes ⟨hord, fun j hj => by have := hord.2.1; omega⟩ (by rw [conT, if_pos (by omega)]; exact ⟨_, _, _, IntsO.nil, IntsO.nil, r20, md⟩)))
    · refine wp_sk ?_
      refine qs_n ?_
      refine wp_sc ?_
      refine wp_sq ?_
      refine sq_v rfl (v_loadNB 1 ty_34 rfl rfl rfl rfl) rfl ?_
      refine sq_v rfl (v_move rfl) rfl ?_
      refine sq_v rfl (v_move rfl) rfl ?_
      refine sq_v rfl (v_len Tryz.underlying47 rfl rv.sl) rfl ?_
      refine sq_x rfl (x_call rfl en_69 (fun w s => ct_s_l18Run _ _ _ _ _ _ _ _ _ _ w _ (s.get 2 rfl) r (r'.mono (s.get 2 rfl)) (rv.mono (s.get 2 rfl)) hord (by omega) (by first | assumption | omega))) rfl ?_; rintro _ h27 ⟨va, vb, bb, rfl, hbb, hyes⟩
      refine sq_v rfl (v_move rfl) rfl ?_
      refine sq_v rfl (v_extract rfl rfl) rfl ?_
      refine sq_v rfl (v_extract rfl rfl) rfl ?_
      refine sq_v rfl (v_extract rfl rfl) rfl ?_
      refine sq_v rfl (v_assign rfl) rfl ?_
      refine sq_v rfl (v_assign rfl) rfl ?_
      refine sq_v rfl (v_assign rfl) rfl ?_
      refine sq_end ?_
      refine qs_n ?_
      refine wp_sc ?_
      refine wp_sc ?_
      refine wp_sq ?_
      refine sq_v rfl (v_move rfl) rfl ?_
      refine sq_v rfl (v_not rfl) rfl ?_
      refine sq_end ?_
      refine qs_dj 0 3 rfl rfl rfl (fun hdj => ?_)
      refine qs_s [PUn h27 (hp w), box b4 [.slice none 0 0, .slice none 0 0, .slice none 0 0] 44, box b2 [num k, num p, num n, vt, vo] 34] (fun _ s => Sat.merge (s.pick [0, 3, 1, 2] (by decide) rfl)) ?_; obtain ⟨cs__r_mono__PLe_un_r_hdj__, rr__r_mono__PLe_un_r_hdj__, hc__r_mono__PLe_un_r_hdj__⟩ := (r.mono (PLe.un_r hdj)).at
      refine qs_n ?_
      refine wp_cn _ rfl (fun c32 => ?_) (fun c32 => ?_)
      · refine wp_sc ?_
        refine wp_sq ?_
        refine sq_v rfl (v_build [.slice none 0 0, .slice none 0 0, .slice none 0 0] rfl (by kernel_rfl)) rfl ?_
        refine sq_m 1 rfl rfl (m_store 1 ty_44 rfl rfl rfl rfl (by simp [one_sl]) rfl (Nat.le_of_ble_eq_true rfl)) rfl ?_; rintro _ _ ⟨rfl, rfl⟩
        refine sq_v rfl (v_assign rfl) rfl ?_
        refine sq_end ?_
        refine qs_n ?_
        refine wp_rt ?_
        refine qs_r ?_
        refine qs_s [h27, hp w, box b4 [.slice none 0 0, .slice none 0 0, .slice none 0 0] 44] (fun _ s => Sat.part hdj (s.pick [0, 1] (by decide) rfl)) ?_
        exact qs_retct 2 rfl ty_44 rfl rfl rfl rfl (fin_e (i := 1) rfl (ConNo (fun h => by have := hbb.2 (fun j hj => h.2 j (by omega)); rw [c32] at this; cases this)))
      · refine wp_sk ?_
        refine qs_n ?_
        refine wp_sc ?_
        refine wp_rj 8 [(0, true), (1, true), (2, true), (3, true), (4, true), (5, true), (6, true), (7, false), (8, false), (9, false)] mixed_ok (by kernel_rfl) ?_
        have hcon : conP k p n ts op ss := ⟨hord, fun j hj => hbb.1 c32 j (by omega)⟩; obtain ⟨hTa, hIx⟩ := run_read (q := hp w) (H := PUn h27 (hp w)) (hyes c32) (PLe.un_l _ _) (PLe.un_r hdj); rw [Int.toNat_natCast] at hTa; have hrl := (run_ok hord ss.length (Nat.le_refl _) hcon.2).len; obtain ⟨hfin, hlast⟩ := hcon.last (by omega); have hnd := (net_open hnet).1; obtain ⟨cs_hTa, rr_hTa, hc_hTa⟩ := hTa.at
        refine rj_v rfl rfl (v_loadNB 2 ty_34 rfl rfl rfl rfl) rfl ?_
        refine rj_v rfl rfl (v_move rfl) rfl ?_
        refine rj_v rfl rfl (v_move rfl) rfl ?_
        refine rj_v rfl rfl (v_len Tryz.underlying32 rfl hTa.sl) rfl ?_
        refine rj_v rfl rfl (v_sub rfl rfl ((by unfold I64; omega))) rfl ?_
        obtain ⟨t39, a39, b39, c39, ht39, hcs39, rl39, rd39, rx39⟩ := hc_hTa (((runTo k p n ts op ss ss.length).length - 1 : Int).toNat) (by first | omega | (rw [List.length_set]; omega))
        refine rj_v rfl rfl (v_indexAddr Tryz.underlying32 ty_44 rfl rfl rr_hTa (by decide) (by omega) (by omega)) rfl ?_
        refine rj_v rfl rfl (v_loadNE 0 ty_44 rfl rfl rr_hTa (by have := rr_hTa.1; omega) rfl hcs39) rfl ?_
        have e39 : t39 = lastT k p n ts op ss := (by rw [lastT, ← hrl]; simp only [List.getD]; rw [show ((runTo k p n ts op ss ss.length).length : Int) - 1 = (((runTo k p n ts op ss ss.length).length - 1 : Nat) : Int) by omega, Int.toNat_natCast] at ht39; rw [ht39]; rfl); subst e39;
        refine rj_x rfl rfl (x_call rfl en_70 (fun w s => ct_s_l18Finish _ _ _ _ _ _ _ _ _ _ _ w ((r.mono (PLe.un_r hdj)).mono (s.get 0 rfl)) ((r'.mono (PLe.un_r hdj)).mono (s.get 0 rfl)) (rl39.mono (s.get 0 rfl)) (rd39.mono (s.get 0 rfl)) (rx39.mono (s.get 0 rfl)) hfin.2.1 hnd hfin.2.2)) rfl ?_; rintro _ h41 ⟨va41, vb41, vc41, rfl, o41⟩
        refine rj_m 2 rfl rfl rfl rfl (m_store 2 ty_44 rfl rfl rfl rfl (by simp [o41.toR.1.sl.one, o41.toR.2.1.sl.one, o41.toR.2.2.sl.one]) rfl (Nat.le_of_ble_eq_true rfl)) rfl ?_; rintro _ _ ⟨rfl, rfl⟩
        refine rj_fv rfl rfl (v_assign rfl) rfl ?_
        refine rj_end ?_
        refine qs_n ?_
        refine wp_rt ?_
        refine qs_s [h27, hp w, h41, box b4 [va41, vb41, vc41] 44] (fun _ s => Sat.part hdj (s.pick [1, 0, 2] (by decide) rfl)) ?_
        exact qs_retct 3 rfl ty_44 rfl rfl rfl rfl (fin_t 2 (i := 1) rfl rfl rfl (ConYes hcon (by rw [conT, if_neg (by omega)]; exact o41)))
end Go.Proofs.YtehjljijionhaaaGreat
