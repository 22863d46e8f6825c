/-
  Parts of the proof of FnExactRankOf: laws of heaps, contracts of functions.
  Conditions: none.
-/
import Derived.Test.YtmddmahaikineaaGreatQRankOf6
namespace Go.Proofs.YtmddmahaikineaaGreat
set_option maxRecDepth 100000
open Go.RowKit
abbrev noTen : Ten := ⟨[], [], []⟩
theorem dimJ_f {t u : Ten} {f : Int → Int} (ht : t.d = t.l.map f) (hu : u.d = u.l.map f) {x : Int} (hx : x ∈ joinI t.l u.l) : dimJ t u x = f x := by
  unfold dimJ
  by_cases h : x ∈ t.l
  · rw [if_pos h, ht, map_getD (findI_get h).1, (findI_get h).2]
  · have h2 := (mem_joinI.1 hx).resolve_left h; rw [if_neg h, hu, map_getD (findI_get h2).1, (findI_get h2).2]
theorem keep_map {t u : Ten} {f : Int → Int} (ht : t.d = t.l.map f) (hu : u.d = u.l.map f) (ks : List Int) : (keepL t u ks).map (dimJ t u) = (keepL t u ks).map f :=
  List.map_congr_left fun _ hx => dimJ_f ht hu (List.mem_filter.1 hx).1
theorem pair_ten {k p n : Int} {t u : Ten} {ks : List Int} (h : pairP k p n t u ks) : tensorL k p n (pairR k p n t u ks).l (pairR k p n t u ks).d (pairR k p n t u ks).x ∧ (pairR k p n t u ks).l = keepL t u ks ∧ (pairR k p n t u ks).d = (keepL t u ks).map (dimJ t u) := by
  have ok := pair_ok h.1 h.2.1 h.2.2.1 h.2.2.2.1; have hk := keep_ok ok h.2.2.2.2; have ha := ok.all hk (prodI ((joinI t.l u.l).map (dimJ t u))).toNat; have hs := sizeI_ge.1 h.2.2.2.2; rw [pairR, if_pos h]; refine ⟨⟨h.1.1, h.2.2.2.2, ?_, ha.2⟩, rfl, rfl⟩
  show ((pairX k p n (dimJ t u) t u (keepL t u ks) _).length : Int) = sizeI (keepL t u ks) ((keepL t u ks).map (dimJ t u)) * widthI k n
  rw [sizeI_yes hs.1 hs.2]; exact ha.1
theorem pairP_iff {k p n : Int} {t u : Ten} {f : Int → Int} {ks : List Int} (h1 : tensorL k p n t.l t.d t.x) (h2 : tensorL k p n u.l u.d u.x) (ht : t.d = t.l.map f) (hu : u.d = u.l.map f) :
    pairP k p n t u ks ↔ prodI ((joinI t.l u.l).map f) ≤ 65536 ∧ 0 ≤ sizeI (keepL t u ks) ((keepL t u ks).map f) := by
  unfold pairP
  rw [joinD_map ht hu, keep_map ht hu]; exact ⟨fun h => ⟨h.2.2.2.1, h.2.2.2.2⟩, fun h => ⟨h1, h2, mism_not ht hu, h.1, h.2⟩⟩
theorem keepL_self {t u : Ten} {q : Int → Bool} : keepL t u ((joinI t.l u.l).filter q) = (joinI t.l u.l).filter q := by
  unfold keepL
  refine List.filter_congr fun x hx => ?_; rw [Bool.eq_iff_iff, decide_eq_true_eq, List.mem_filter]; exact ⟨fun h => h.2, fun h => ⟨hx, h⟩⟩
theorem pairB_true {k p n : Int} {t u : Ten} {a : List Int} : pairB k p n t u a = true ↔ pairP k p n t u a := by simp [pairB]
theorem pairB_false {k p n : Int} {t u : Ten} {a : List Int} : pairB k p n t u a = false ↔ ¬ pairP k p n t u a := by simp [pairB]
def stpAt (ss : List Stp) (i : Nat) : Stp := ss.getD i ⟨0, 0⟩
theorem stpAt_of {ss : List Stp} {i : Nat} {x : Stp} (h : ss[i]? = some x) : stpAt ss i = x := by simp [stpAt, List.getD, h]
noncomputable def runS (ts : List Ten) (op : List Int) (ss : List Stp) (i : Nat) : Sh := shTo op (sh0 ts) (ss.take i)
noncomputable def runK (ts : List Ten) (op : List Int) (ss : List Stp) (i : Nat) : List Int := (runS ts op ss i).res op (stpAt ss i).a.toNat (stpAt ss i).b.toNat
noncomputable def runTo (k p n : Int) (ts : List Ten) (op : List Int) (ss : List Stp) : Nat → List Ten
  | 0 => ts
  | i + 1 => runTo k p n ts op ss i ++ [pairR k p n ((runTo k p n ts op ss i).getD (stpAt ss i).a.toNat noTen) ((runTo k p n ts op ss i).getD (stpAt ss i).b.toNat noTen) (runK ts op ss i)]
noncomputable def runA (k p n : Int) (ts : List Ten) (op : List Int) (ss : List Stp) (i : Nat) : Ten := (runTo k p n ts op ss i).getD (stpAt ss i).a.toNat noTen
noncomputable def runB (k p n : Int) (ts : List Ten) (op : List Int) (ss : List Stp) (i : Nat) : Ten := (runTo k p n ts op ss i).getD (stpAt ss i).b.toNat noTen
def runFit (k p n : Int) (ts : List Ten) (op : List Int) (ss : List Stp) (i : Nat) : Prop := pairP k p n (runA k p n ts op ss i) (runB k p n ts op ss i) (runK ts op ss i)
structure RunOK (k p n : Int) (ts : List Ten) (op : List Int) (ss : List Stp) (i : Nat) : Prop where
  len : (runTo k p n ts op ss i).length = ts.length + i
  ten : ∀ (j : Nat) (t : Ten), (runTo k p n ts op ss i)[j]? = some t → tensorL k p n t.l t.d t.x ∧ t.l = (runS ts op ss i).lab j ∧ t.d = t.l.map (dimOf ts)
section
variable {k p n : Int} {ts : List Ten} {op : List Int} {ss : List Stp}
theorem runTo_step (i : Nat) : runTo k p n ts op ss (i + 1) = runTo k p n ts op ss i ++ [pairR k p n (runA k p n ts op ss i) (runB k p n ts op ss i) (runK ts op ss i)] := rfl
theorem RunOK.get {i : Nat} (r : RunOK k p n ts op ss i) {j : Nat} (hj : j < ts.length + i) : tensorL k p n ((runTo k p n ts op ss i).getD j noTen).l ((runTo k p n ts op ss i).getD j noTen).d ((runTo k p n ts op ss i).getD j noTen).x ∧
    ((runTo k p n ts op ss i).getD j noTen).l = (runS ts op ss i).lab j ∧ ((runTo k p n ts op ss i).getD j noTen).d = ((runTo k p n ts op ss i).getD j noTen).l.map (dimOf ts) := by
  have hlt : j < (runTo k p n ts op ss i).length := by rw [r.len]; exact hj
  have h := r.ten j _ (List.getElem?_eq_getElem hlt); have e2 : (runTo k p n ts op ss i).getD j noTen = (runTo k p n ts op ss i)[j] := by simp [List.getD, List.getElem?_eq_getElem hlt]
  rw [e2]; exact h
theorem run_step (h : orderL k p n ts op ss) {i : Nat} (hi : i < ss.length) : stepOk (runS ts op ss i) (stpAt ss i) ∧ runS ts op ss (i + 1) = (runS ts op ss i).step op (stpAt ss i).a.toNat (stpAt ss i).b.toNat ∧ (runS ts op ss i).all.length = ts.length + i := by
  have hx : ss[i]? = some ss[i] := List.getElem?_eq_getElem hi; refine ⟨?_, ?_, ?_⟩
  · rw [stpAt_of hx]; exact h.2.2 i hi _ hx
  · rw [stpAt_of hx]; exact shTo_step hx
  · rw [runS, shTo_all, show (sh0 ts).all.length = ts.length by simp [sh0], List.length_take]; omega
theorem run_all {i : Nat} (hi : i ≤ ss.length) : (runS ts op ss i).all.length = ts.length + i := by
  rw [runS, shTo_all, show (sh0 ts).all.length = ts.length by simp [sh0], List.length_take]; omega
theorem run_fine (h : netL k p n ts op) (i : Nat) : (runS ts op ss i).fine := shTo_fine (sh0_fine (net_axes h)) _
theorem RunOK.two {i : Nat} (r : RunOK k p n ts op ss i) (h : orderL k p n ts op ss) (hi : i < ss.length) :
    (tensorL k p n (runA k p n ts op ss i).l (runA k p n ts op ss i).d (runA k p n ts op ss i).x ∧ (runA k p n ts op ss i).l = (runS ts op ss i).lab (stpAt ss i).a.toNat ∧ (runA k p n ts op ss i).d = (runA k p n ts op ss i).l.map (dimOf ts)) ∧
    (tensorL k p n (runB k p n ts op ss i).l (runB k p n ts op ss i).d (runB k p n ts op ss i).x ∧ (runB k p n ts op ss i).l = (runS ts op ss i).lab (stpAt ss i).b.toNat ∧ (runB k p n ts op ss i).d = (runB k p n ts op ss i).l.map (dimOf ts)) := by
  obtain ⟨⟨⟨a0, a1, _⟩, ⟨b0, b1, _⟩, _⟩, _, hl⟩ := run_step h hi; exact ⟨r.get (by omega), r.get (by omega)⟩
theorem RunOK.kept {i : Nat} (r : RunOK k p n ts op ss i) (h : orderL k p n ts op ss) (hi : i < ss.length) : keepL (runA k p n ts op ss i) (runB k p n ts op ss i) (runK ts op ss i) = runK ts op ss i := by
  obtain ⟨⟨_, la, _⟩, ⟨_, lb, _⟩⟩ := r.two h hi; have e : runK ts op ss i = (joinI (runA k p n ts op ss i).l (runB k p n ts op ss i).l).filter fun x => @decide ((runS ts op ss i).kept op (stpAt ss i).a.toNat (stpAt ss i).b.toNat x) (Classical.propDecidable _) := by rw [la, lb]; rfl
  rw [e]; exact keepL_self
theorem RunOK.step {i : Nat} (r : RunOK k p n ts op ss i) (h : orderL k p n ts op ss) (hi : i < ss.length) (hf : runFit k p n ts op ss i) : RunOK k p n ts op ss (i + 1) := by
  obtain ⟨hst, hs1, hl⟩ := run_step h hi; obtain ⟨⟨ta, la, da⟩, ⟨tb, lb, db⟩⟩ := r.two h hi; have hk := r.kept h hi; obtain ⟨p1, p2, p3⟩ := pair_ten hf; rw [keep_map da db, hk] at p3; rw [hk] at p2; refine ⟨by rw [runTo_step, List.length_append, r.len]; simp; omega, fun j t hj => ?_⟩; rw [runTo_step] at hj
  rcases Nat.lt_or_ge j (runTo k p n ts op ss i).length with hlt | hge
  · rw [List.getElem?_append_left hlt] at hj; have := r.ten j t hj; rw [hs1, step_lab (by rw [hl, ← r.len]; exact hlt)]; exact this
  · rw [List.getElem?_append_right hge] at hj; have e0 : j - (runTo k p n ts op ss i).length = 0 := by
      rcases Nat.eq_zero_or_pos (j - (runTo k p n ts op ss i).length) with h0 | h0
      · exact h0
      · rw [List.getElem?_eq_none (by simp; omega)] at hj; cases hj
    rw [e0] at hj
    simp at hj
    subst hj; refine ⟨p1, ?_, ?_⟩
    · rw [p2, hs1, show j = (runS ts op ss i).all.length by rw [hl, ← r.len]; omega, step_lab_new]; rfl
    · rw [p2, p3]
theorem run_ok (h : orderL k p n ts op ss) : ∀ i, i ≤ ss.length → (∀ j, j < i → runFit k p n ts op ss j) → RunOK k p n ts op ss i
  | 0, _, _ => by
    refine ⟨rfl, fun j t hj => ?_⟩; have hj' : ts[j]? = some t := hj; have hm := List.mem_of_getElem? hj'; exact ⟨h.1.2.2.1 t hm, by simp [runS, shTo, Sh.lab, sh0, List.getD, hj'], net_dmap h.1 t hm⟩
  | i + 1, hi, hf => (run_ok h i (by omega) fun j hj => hf j (by omega)).step h (by omega) (hf i (by omega))
theorem lab_stable {op : List Int} : ∀ {s : Sh} {b : List Stp} {j : Nat}, j < s.all.length → (shTo op s b).lab j = s.lab j
  | s, [], j, _ => rfl
  | s, x :: r, j, hj => by
    have := lab_stable (op := op) (s := s.step op x.a.toNat x.b.toNat) (b := r) (j := j) (by simp [Sh.step]; omega)
    show (shTo op (s.step op x.a.toNat x.b.toNat) r).lab j = _
    rw [this, step_lab hj]
/-- What the end's list of labels says of a step. -/
theorem run_end (h : orderL k p n ts op ss) {i : Nat} (hi : i < ss.length) : (shTo op (sh0 ts) ss).lab (ts.length + i) = runK ts op ss i := by
  obtain ⟨hst, hs1, hl⟩ := run_step h hi; have e : shTo op (sh0 ts) ss = shTo op (runS ts op ss (i + 1)) (ss.drop (i + 1)) := by
    conv => lhs; rw [← List.take_append_drop (i + 1) ss]
    simp only [runS, shTo, List.foldl_append]
  rw [e, lab_stable (by rw [hs1]; simp [Sh.step, hl]), hs1, ← hl, step_lab_new]; rfl
/-- The rows of m cells but those at p and q, of the first k. -/
def dropK {α : Type} (m : Nat) (cs : List α) (p q : Nat) : Nat → List α
  | 0 => []
  | k + 1 => if k ≠ p ∧ k ≠ q then dropK m cs p q k ++ (cs.drop (k * m)).take m else dropK m cs p q k
theorem dropK_yes {α : Type} {m : Nat} {cs : List α} {p q k : Nat} (h : k ≠ p ∧ k ≠ q) : dropK m cs p q (k + 1) = dropK m cs p q k ++ (cs.drop (k * m)).take m := by rw [dropK, if_pos h]
theorem dropK_no {α : Type} {m : Nat} {cs : List α} {p q k : Nat} (h : ¬ (k ≠ p ∧ k ≠ q)) : dropK m cs p q (k + 1) = dropK m cs p q k := by rw [dropK, if_neg h]
theorem one_drop {α : Type} {l : List α} {k : Nat} {x : α} (h : l[k]? = some x) : (l.drop (k * 1)).take 1 = [x] := by
  obtain ⟨hk, rfl⟩ := List.getElem?_eq_some_iff.1 h; rw [Nat.mul_one, List.drop_eq_getElem_cons hk]; rfl
theorem dropK_len {α : Type} {m : Nat} {cs : List α} {p q : Nat} : ∀ k, (dropK m cs p q k).length ≤ k * m
  | 0 => by simp [dropK]
  | k + 1 => by
    have ih := dropK_len (m := m) (cs := cs) (p := p) (q := q) k; have e : (k + 1) * m = k * m + m := by rw [Nat.add_mul, Nat.one_mul]
    by_cases h : k ≠ p ∧ k ≠ q
    · rw [dropK_yes h, List.length_append, List.length_take]; omega
    · rw [dropK_no h]; omega
theorem dropK_ixs {β : Type} (g : Nat → β) {s : Sh} {p q a b : Nat} (hp : s.ixs[p]? = some a) (hq : s.ixs[q]? = some b) : ∀ k, k ≤ s.ixs.length → dropK 1 (s.ixs.map g) p q k = ((s.ixs.take k).filter fun i => decide (i ≠ a ∧ i ≠ b)).map g
  | 0, _ => by simp [dropK]
  | k + 1, hk => by
    have ih := dropK_ixs g hp hq k (by omega); have hi : s.ixs[k]? = some s.ixs[k] := List.getElem?_eq_getElem (by omega); have e1 : k = p ↔ s.ixs[k] = a := ⟨fun e => by subst e; rw [hi] at hp; exact Option.some.inj hp, fun e => ixs_inj (e ▸ hi) hp⟩
    have e2 : k = q ↔ s.ixs[k] = b := ⟨fun e => by subst e; rw [hi] at hq; exact Option.some.inj hq, fun e => ixs_inj (e ▸ hi) hq⟩
    have hl : (s.ixs.map g)[k]? = some (g s.ixs[k]) := by rw [List.getElem?_map, hi]; rfl
    rw [List.take_succ_eq_append_getElem (by omega), List.filter_append, List.map_append]
    by_cases hc : k ≠ p ∧ k ≠ q
    · have : s.ixs[k] ≠ a ∧ s.ixs[k] ≠ b := ⟨fun e => hc.1 (e1.2 e), fun e => hc.2 (e2.2 e)⟩
      rw [dropK_yes hc, ih, one_drop hl]
      simp [this]
    · have : ¬ (s.ixs[k] ≠ a ∧ s.ixs[k] ≠ b) := fun e => hc ⟨fun e' => e.1 (e1.1 e'), fun e' => e.2 (e2.1 e')⟩; rw [dropK_no hc, ih]
      simp [this]
noncomputable def outTo (k p n : Int) (ts : List Ten) (op : List Int) (ss : List Stp) (i : Nat) : List Ten := (runS ts op ss i).ixs.map fun j => (runTo k p n ts op ss i).getD j noTen
theorem out_len (i : Nat) : (outTo k p n ts op ss i).length = (runS ts op ss i).ixs.length := by simp [outTo]
theorem out_get {i j a : Nat} (h : (runS ts op ss i).ixs[j]? = some a) : (outTo k p n ts op ss i)[j]? = some ((runTo k p n ts op ss i).getD a noTen) := by
  rw [outTo, List.getElem?_map, h]; rfl
theorem out_zero : outTo k p n ts op ss 0 = ts := by
  have e : (runS ts op ss 0).ixs = List.range ts.length := by rw [← sh0_ixs ts]; rfl
  rw [outTo, e]
  apply List.ext_getElem?
  intro j; rw [List.getElem?_map]
  rcases Nat.lt_or_ge j ts.length with h | h
  · rw [List.getElem?_range h]
    simp [runTo, List.getD, h]
  · rw [List.getElem?_eq_none (by simpa using h), List.getElem?_eq_none h]; rfl
theorem out_step (h : orderL k p n ts op ss) {i : Nat} (hi : i < ss.length) (r : RunOK k p n ts op ss i) {pa pb : Nat} (ha : (runS ts op ss i).ixs[pa]? = some (stpAt ss i).a.toNat) (hb : (runS ts op ss i).ixs[pb]? = some (stpAt ss i).b.toNat) :
    outTo k p n ts op ss (i + 1) = dropK 1 (outTo k p n ts op ss i) pa pb (outTo k p n ts op ss i).length ++ [pairR k p n (runA k p n ts op ss i) (runB k p n ts op ss i) (runK ts op ss i)] := by
  obtain ⟨hst, hs1, hl⟩ := run_step h hi; rw [out_len]
  unfold outTo
  rw [dropK_ixs _ ha hb _ (Nat.le_refl _), List.take_length, hs1, step_ixs (run_fine h.1 i).1, List.map_append]
  congr 1
  · refine List.map_congr_left fun j hj => ?_; have := (mem_ixs.1 (List.mem_filter.1 hj).1).1; rw [runTo_step]; simp only [List.getD]; rw [List.getElem?_append_left (by rw [r.len, ← hl]; exact this)]
  · rw [List.map_singleton, runTo_step, hl, ← r.len]
    simp [List.getD]
theorem dimOf_mem {ts : List Ten} {x : Int} (h : dimOf ts x ≠ 0) : ∃ t ∈ ts, x ∈ t.l := by
  induction ts with
  | nil => simp [dimOf] at h
  | cons t ts ih =>
    rw [dimOf] at h
    by_cases hx : x ∈ t.l
    · exact ⟨t, by simp, hx⟩
    · rw [if_neg hx] at h; obtain ⟨u, hu, hxu⟩ := ih h; exact ⟨u, by simp [hu], hxu⟩
theorem run_open (h : orderL k p n ts op ss) {x : Int} (hx : x ∈ op) : ∀ i, i ≤ ss.length → ∃ j ∈ (runS ts op ss i).ixs, x ∈ (runS ts op ss i).lab j
  | 0, _ => by
    obtain ⟨j, hj, e⟩ := getD_of_mem hx; have ho := (open_at h.1.2.2.2.2 hj).2; rw [e] at ho; obtain ⟨t, ht, hxt⟩ := dimOf_mem (ts := ts) (x := x) (by omega); obtain ⟨m, hm⟩ := List.getElem?_of_mem ht; have hml := (List.getElem?_eq_some_iff.1 hm).1; have e0 : runS ts op ss 0 = sh0 ts := rfl; refine ⟨m, by rw [e0, sh0_ixs]; simpa using hml, ?_⟩; rw [e0]
    simpa [Sh.lab, sh0, List.getD, hm] using hxt
  | i + 1, hi => by
    obtain ⟨j, hj, hxj⟩ := run_open h hx i (by omega); obtain ⟨hst, hs1, hl⟩ := run_step h (i := i) (by omega); have hok := (run_fine (ss := ss) h.1 i).1; rw [hs1]
    by_cases hc : j ≠ (stpAt ss i).a.toNat ∧ j ≠ (stpAt ss i).b.toNat
    · refine ⟨j, by rw [step_ixs hok]; simp [hj, hc], ?_⟩; rw [step_lab (mem_ixs.1 hj).1]; exact hxj
    · refine ⟨(runS ts op ss i).all.length, by rw [step_ixs hok]; simp, ?_⟩; rw [step_lab_new]; refine List.mem_filter.2 ⟨mem_joinI.2 ?_, by simpa using .inl hx⟩
      by_cases ea : j = (stpAt ss i).a.toNat
      · exact .inl (ea ▸ hxj)
      · exact .inr ((show j = (stpAt ss i).b.toNat by omega) ▸ hxj)
theorem run_left (h : orderL k p n ts op ss) (hn : ts ≠ []) : (runS ts op ss ss.length).ixs = [ts.length + ss.length - 1] := by
  have hlen : ts.length ≠ 0 := fun e => hn (List.eq_nil_of_length_eq_zero e); have hc := steps_count (op := op) (sh0_fine (net_axes h.1)) h.2.2 ss.length (Nat.le_refl _); rw [show (sh0 ts).ixs.length = ts.length by rw [sh0_ixs]; simp] at hc; have h1 : (runS ts op ss ss.length).ixs.length = 1 := by
    have := h.2.1
    show (shTo op (sh0 ts) (ss.take ss.length)).ixs.length = 1
    omega
  have hm : ts.length + ss.length - 1 ∈ (runS ts op ss ss.length).ixs := by
    rcases Nat.eq_zero_or_pos ss.length with h0 | h0
    · have e0 : runS ts op ss ss.length = sh0 ts := by rw [h0]; rfl
      rw [e0, sh0_ixs, h0]; simp; omega
    · obtain ⟨hst, hs1, hl⟩ := run_step h (i := ss.length - 1) (by omega); rw [show ss.length - 1 + 1 = ss.length by omega] at hs1; rw [hs1, step_ixs (run_fine (ss := ss) h.1 _).1, hl]
      simp; omega
  obtain ⟨y, hy⟩ := List.length_eq_one_iff.1 h1; rw [hy] at hm ⊢
  simp at hm
  rw [hm]
end
end Go.Proofs.YtmddmahaikineaaGreat
namespace Go.Proofs.YtmddmahaikineaaGreat
set_option maxRecDepth 100000
open Go.RowKit
theorem Made.join3 {h a b : PH} {l : List PH} (m : Made h (a :: b :: l)) : Made h [a, b, joinP l] := by
  have hs := m.sep; have hl : PLe (joinP l) h := fun k o e => by
    obtain ⟨y, hy, e'⟩ := joinP_dom e; exact m.le y (by simp [hy]) k o e'
  refine ⟨⟨fun x hx => ?_, fun x hx => ?_, fun x hx => by simp at hx, trivial⟩, fun x hx => ?_, fun k o e => ?_⟩
  · rcases List.mem_cons.1 hx with rfl | hx
    · exact hs.1 _ (by simp)
    · simp at hx; subst hx
      exact PDj.join fun y hy => hs.1 y (by simp [hy])
  · simp at hx; subst hx
    exact PDj.join fun y hy => hs.2.1 y hy
  · simp at hx
    rcases hx with rfl | rfl | rfl
    · exact m.le _ (by simp)
    · exact m.le _ (by simp)
    · exact hl
  · obtain ⟨x, hx, e'⟩ := m.dom k o e
    simp at hx
    rcases hx with rfl | rfl | hx
    · exact ⟨x, by simp, e'⟩
    · exact ⟨x, by simp, e'⟩
    · exact ⟨joinP l, by simp, PLe.join hs.2.2 x hx k o e'⟩
theorem Made.part3 {h a b c : PH} {l : List PH} (m : Made h [a, b, c]) (ml : Made c l) : Made h (a :: b :: l) := by
  have hs := m.sep; have hc : PLe c h := m.le c (by simp); refine ⟨⟨fun x hx => ?_, fun x hx => ?_, ml.sep⟩, fun x hx => ?_, fun k o e => ?_⟩
  · rcases List.mem_cons.1 hx with rfl | hx
    · exact hs.1 _ (by simp)
    · exact (((hs.1 c (by simp)).symm).mono (ml.le x hx)).symm
  · exact (((hs.2.1 c (by simp)).symm).mono (ml.le x hx)).symm
  · simp at hx
    rcases hx with rfl | rfl | hx
    · exact m.le _ (by simp)
    · exact m.le _ (by simp)
    · exact (ml.le x hx).trans hc
  · obtain ⟨x, hx, e'⟩ := m.dom k o e
    simp at hx
    rcases hx with rfl | rfl | rfl
    · exact ⟨x, by simp, e'⟩
    · exact ⟨x, by simp, e'⟩
    · obtain ⟨y, hy, e2⟩ := ml.dom k o e'; exact ⟨y, by simp [hy], e2⟩
theorem NetO.split {ts : List Ten} {op : List Int} {vt vo : Value} {h : PH} (r : NetO ts op vt vo h) : ∃ cs h0 ho hl, RowO 39 cs ts.length 3 vt h0 ∧ IntsO op vo ho ∧ OwnH (flat ts) cs hl ∧ Made h [h0, ho, hl] := by
  obtain ⟨cs, h0, ho, l, r0, r1, o, m⟩ := r; exact ⟨cs, h0, ho, joinP l, r0, r1, ⟨l, o, Made.join m.sep.2.2⟩, m.join3⟩
theorem NetO.join {ts : List Ten} {op : List Int} {vt vo : Value} {h h0 ho hl : PH} {cs : List Value} (r0 : RowO 39 cs ts.length 3 vt h0) (r1 : IntsO op vo ho) (o : OwnH (flat ts) cs hl) (m : Made h [h0, ho, hl]) : NetO ts op vt vo h := by
  obtain ⟨l, o, ml⟩ := o; exact ⟨cs, h0, ho, l, r0, r1, o, m.part3 ml⟩
theorem OwnL.take {xss : List (List Int)} {vs : List Value} {l : List PH} (o : OwnL xss vs l) (n : Nat) : OwnL (xss.take n) (vs.take n) (l.take n) := by
  refine ⟨by simp [o.l1], by simp [o.l2], fun i xs h => ?_⟩; have hi : i < n := by
    rcases Nat.lt_or_ge i n with h' | h'
    · exact h'
    · rw [List.getElem?_take, if_neg (by omega)] at h; cases h
  rw [List.getElem?_take, if_pos hi] at h ⊢; rw [List.getElem?_take, if_pos hi]; exact o.own i xs h
theorem OwnL.drop {xss : List (List Int)} {vs : List Value} {l : List PH} (o : OwnL xss vs l) (n : Nat) : OwnL (xss.drop n) (vs.drop n) (l.drop n) := by
  refine ⟨by simp [o.l1], by simp [o.l2], fun i xs h => ?_⟩; rw [List.getElem?_drop] at h ⊢; rw [List.getElem?_drop]; exact o.own (n + i) xs h
theorem flat_take {ts : List Ten} {i : Nat} (h : i ≤ ts.length) : flat (ts.take i) = (flat ts).take (i * 3) ∧ flat (ts.drop i) = (flat ts).drop (i * 3) := by
  have e : flat ts = flat (ts.take i) ++ flat (ts.drop i) := by rw [← flat_append, List.take_append_drop]
  have hl : (flat (ts.take i)).length = i * 3 := by rw [flat_len, List.length_take, Nat.min_eq_left h]
  constructor
  · rw [e, List.take_left' hl]
  · rw [e, List.drop_left' hl]
theorem flat_set {ts : List Ten} {i : Nat} (h : i < ts.length) (u : Ten) : flat (ts.set i u) = (flat ts).take (i * 3) ++ [u.l, u.d, u.x] ++ (flat ts).drop (i * 3 + 3) := by
  rw [List.set_eq_take_append_cons_drop, if_pos h, flat_append, (flat_take (Nat.le_of_lt h)).1, show i * 3 + 3 = (i + 1) * 3 by omega, ← (flat_take (show i + 1 ≤ ts.length by omega)).2, List.append_assoc]
  rfl
theorem sep_mono {l l' : List PH} (h : sepL l) (hs : l'.Sublist l) : sepL l' := by
  induction hs with
  | slnil => exact trivial
  | cons x _ ih => exact ih h.2
  | cons_cons x s ih => exact ⟨fun y hy => h.1 y (s.subset hy), ih h.2⟩
theorem OwnH.set {ts : List Ten} {u : Ten} {cs : List Value} {a b c : Value} {h h' : PH} {i : Nat} (hi : i < ts.length) (o : OwnH (flat ts) cs h) (r : TriO u a b c h') (hd : PDj h h') :
    ∃ g, PLe g (PUn h h') ∧ OwnH (flat (ts.set i u)) (cs.take (i * 3) ++ [a, b, c] ++ cs.drop (i * 3 + 3)) g := by
  obtain ⟨l, ol, m⟩ := o; obtain ⟨h1, h2, h3, r1, r2, r3, m'⟩ := r; have hx : ∀ x ∈ l.take (i * 3) ++ [h1, h2, h3] ++ l.drop (i * 3 + 3), PLe x (PUn h h') := fun x hx => by
    simp only [List.mem_append] at hx
    rcases hx with (hx | hx) | hx
    · exact (m.le x (List.mem_of_mem_take hx)).trans (PLe.un_l _ _)
    · exact (m'.le x hx).trans (PLe.un_r hd)
    · exact (m.le x (List.mem_of_mem_drop hx)).trans (PLe.un_l _ _)
  have hab : ∀ x ∈ l, ∀ y ∈ [h1, h2, h3], PDj x y := fun x hx y hy => (((hd.mono (m.le x hx)).symm).mono (m'.le y hy)).symm; have hsub : (l.take (i * 3) ++ l.drop (i * 3 + 3)).Sublist l := by
    conv => rhs; rw [← List.take_append_drop (i * 3) l]
    refine List.Sublist.append (List.Sublist.refl _) ?_; rw [← List.drop_drop]; exact List.drop_sublist _ _
  have hsep := sepL_append.1 (sep_mono m.sep hsub); have hs : sepL (l.take (i * 3) ++ [h1, h2, h3] ++ l.drop (i * 3 + 3)) := by
    refine sepL_append.2 ⟨sepL_append.2 ⟨hsep.1, m'.sep, fun x hx y hy => hab x (List.mem_of_mem_take hx) y hy⟩, hsep.2.1, fun x hx y hy => ?_⟩
    rcases List.mem_append.1 hx with hx | hx
    · exact hsep.2.2 x hx y hy
    · exact (hab y (List.mem_of_mem_drop hy) x hx).symm
  refine ⟨joinP (l.take (i * 3) ++ [h1, h2, h3] ++ l.drop (i * 3 + 3)), fun k o e => ?_, _, ?_, Made.join hs⟩
  · obtain ⟨y, hy, e'⟩ := joinP_dom e; exact hx y hy k o e'
  · rw [flat_set hi]; exact ((ol.take _).append (OwnL.three r1 r2 r3)).append (ol.drop _)
def replP (k p n : Int) (ts : List Ten) (op : List Int) (i : Int) (u : Ten) : Prop := netL k p n ts op ∧ (0 ≤ i ∧ i < ts.length) ∧ fitP k p n (ts.getD i.toNat ⟨[], [], []⟩) u
open Classical in
noncomputable def replB (k p n : Int) (ts : List Ten) (op : List Int) (i : Int) (u : Ten) : Bool := decide (replP k p n ts op i u)
noncomputable def ifB {α : Type} (b : Bool) (x y : α) : α := if b then x else y
noncomputable def replTs (k p n : Int) (ts : List Ten) (op : List Int) (i : Int) (u : Ten) : List Ten := ifB (replB k p n ts op i u) (ts.set i.toNat u) []
noncomputable def replOp (k p n : Int) (ts : List Ten) (op : List Int) (i : Int) (u : Ten) : List Int := ifB (replB k p n ts op i u) op []
def ReplR (k p n : Int) (ts : List Ten) (op : List Int) (i : Int) (u : Ten) (x : Value) (h : PH) : Prop :=
  ∃ vt vo, x = .tuple [netV (ifB (replB k p n ts op i u) k 0) (ifB (replB k p n ts op i u) p 0) (ifB (replB k p n ts op i u) n 0) vt vo, .bool (replB k p n ts op i u)].toArray ∧ NetO (replTs k p n ts op i u) (replOp k p n ts op i u) vt vo h
theorem NetO.nil : NetO [] [] (.slice none 0 0) (.slice none 0 0) emp :=
  ⟨[], emp, emp, [], RowO.nil, IntsO.nil, OwnL.nil, ⟨by simp [sepL, PDj.emp], fun x hx => by simp at hx; subst hx; exact PLe.emp _, fun k o e => by cases e⟩⟩
theorem ReplR.no {k p n i : Int} {ts : List Ten} {op : List Int} {u : Ten} (h : ¬ replP k p n ts op i u) : ReplR k p n ts op i u (.tuple [netV 0 0 0 (.slice none 0 0) (.slice none 0 0), .bool false].toArray) emp := by
  have e : replB k p n ts op i u = false := by simp [replB, h]
  refine ⟨.slice none 0 0, .slice none 0 0, ?_, ?_⟩
  · rw [e]; rfl
  · rw [replTs, replOp, e]; exact NetO.nil
theorem ReplR.yes {k p n i : Int} {ts : List Ten} {op : List Int} {u : Ten} {vt vo : Value} {g : PH} (h : replP k p n ts op i u) (r : NetO (ts.set i.toNat u) op vt vo g) : ReplR k p n ts op i u (.tuple [netV k p n vt vo, .bool true].toArray) g := by
  have e : replB k p n ts op i u = true := by simp [replB, h]
  refine ⟨vt, vo, ?_, ?_⟩
  · rw [e]; rfl
  · rw [replTs, replOp, e]; exact r
end Go.Proofs.YtmddmahaikineaaGreat
namespace Go.Proofs.YtmddmahaikineaaGreat
set_option maxRecDepth 100000
open Go.RowKit
theorem OwnL.piece {ts : List Ten} {vs : List Value} {l : List PH} (o : OwnL (flat ts) vs l) {k : Nat} {t : Ten} (h : ts[k]? = some t) : OwnL (flat [t]) ((vs.drop (k * 3)).take 3) ((l.drop (k * 3)).take 3) := by
  have hk := (List.getElem?_eq_some_iff.1 h).1; have e : ((flat ts).drop (k * 3)).take 3 = flat [t] := by
    rw [← (flat_take (Nat.le_of_lt hk)).2, drop_at h]; rfl
  have := (o.drop (k * 3)).take 3
  rwa [e] at this
theorem OwnL.dropK {ts : List Ten} {vs : List Value} {l : List PH} (o : OwnL (flat ts) vs l) (p q : Nat) : ∀ k, k ≤ ts.length → OwnL (flat (dropK 1 ts p q k)) (dropK 3 vs p q k) (dropK 3 l p q k)
  | 0, _ => OwnL.nil
  | k + 1, hk => by
    have ih := OwnL.dropK o p q k (by omega); have ht : ts[k]? = some ts[k] := List.getElem?_eq_getElem (by omega)
    by_cases h : k ≠ p ∧ k ≠ q
    · rw [dropK_yes h, dropK_yes h, dropK_yes h, one_drop ht, flat_append]; exact ih.append (o.piece ht)
    · rw [dropK_no h, dropK_no h, dropK_no h]; exact ih
theorem dropK_sub {α : Type} (m : Nat) (l : List α) (p q : Nat) : ∀ k, (dropK m l p q k).Sublist (l.take (k * m))
  | 0 => by simp [dropK]
  | k + 1 => by
    have ih := dropK_sub m l p q k; have e : l.take ((k + 1) * m) = l.take (k * m) ++ (l.drop (k * m)).take m := by rw [Nat.add_mul, Nat.one_mul, List.take_add]
    rw [e]
    by_cases h : k ≠ p ∧ k ≠ q
    · rw [dropK_yes h]; exact ih.append (List.Sublist.refl _)
    · rw [dropK_no h]; exact ih.trans (List.sublist_append_left _ _)
theorem OwnH.dropK {ts : List Ten} {cs : List Value} {h : PH} (o : OwnH (flat ts) cs h) (p q : Nat) : ∃ g, PLe g h ∧ OwnH (flat (dropK 1 ts p q ts.length)) (dropK 3 cs p q ts.length) g := by
  obtain ⟨l, ol, m⟩ := o; have hs := (dropK_sub 3 l p q ts.length).trans (List.take_sublist _ _); have hsep := sep_mono m.sep hs; refine ⟨joinP (Go.Proofs.YtmddmahaikineaaGreat.dropK 3 l p q ts.length), fun k o e => ?_, _, ol.dropK p q _ (Nat.le_refl _), Made.join hsep⟩; obtain ⟨y, hy, e'⟩ := joinP_dom e; exact m.le y (hs.subset hy) k o e'
theorem perm_all {k p n : Int} {t : Ten} {ls : List Int} (h : PermOK k p n t ls) : ∀ m : Nat, ((permX (widthI k n) t ls (permD t ls) m).length : Int) = m * widthI k n ∧ ∀ a ∈ permX (widthI k n) t ls (permD t ls) m, 0 ≤ a ∧ a ≤ topI k p n
  | 0 => by simp [permX]
  | m + 1 => by
    have ih := perm_all h m; have ho := h.off m; have he := elt_inR h.ten ho.1 ho.2; have hw := width_range h.ring; rw [permX_step]; refine ⟨?_, fun a ha => ?_⟩
    · rw [List.length_append, he.1, Int.natCast_add, ih.1, show ((m + 1 : Nat) : Int) = (m : Int) + 1 from rfl, Int.add_mul, Int.one_mul]; omega
    · rcases List.mem_append.1 ha with ha | ha
      · exact ih.2 a ha
      · exact he.2 a ha
theorem perm_axes {k p n : Int} {t : Ten} {ls : List Int} (h : PermOK k p n t ls) : axesL ls (permD t ls) := by
  refine ⟨h.len.2.2, (permD_len t ls).symm, fun j hj => ⟨?_, h.dims j (by rw [permD_len]; exact hj), nodup_not_take h.nodup hj⟩⟩; obtain ⟨i, hi, e⟩ := getD_of_mem (h.perm.mem_iff.1 (mem_getD hj)); rw [← e]; exact (h.axes.2.2 i hi).1
theorem perm_ten {k p n : Int} {t : Ten} {ls : List Int} (h : PermOK k p n t ls) : tensorL k p n (permT k n t ls).l (permT k n t ls).d (permT k n t ls).x := by
  have hs := h.small; have ha := perm_axes h; have hx := perm_all h (prodI (permD t ls)).toNat; refine ⟨h.ring, sizeI_ge.2 ⟨ha, hs.2⟩, ?_, hx.2⟩
  show ((permX (widthI k n) t ls (permD t ls) (prodI (permD t ls)).toNat).length : Int) = sizeI ls (permD t ls) * widthI k n
  rw [sizeI_yes ha hs.2, hx.1, show (((prodI (permD t ls)).toNat : Nat) : Int) = prodI (permD t ls) by omega]
theorem setL_of_perm {xs ys : List Int} (h : xs.Perm ys) (hn : ys.Nodup) : setL xs ys :=
  ⟨h.length_eq, fun _ hj => ⟨h.mem_iff.2 (mem_getD hj), nodup_not_take hn hj⟩⟩
theorem net_open {k p n : Int} {ts : List Ten} {op : List Int} (h : netL k p n ts op) : op.Nodup ∧ op.length ≤ 12 := by
  have ha := (sizeI_ge.1 h.2.2.2.2).1; exact ⟨axes_nodup ha, ha.1⟩
theorem mem_keep {t u : Ten} {ks : List Int} {x : Int} : x ∈ keepL t u ks ↔ (x ∈ t.l ∨ x ∈ u.l) ∧ x ∈ ks := by
  unfold keepL
  rw [List.mem_filter, mem_joinI, decide_eq_true_eq]
theorem sum_ten {k p n : Int} {t : Ten} (ht : tensorL k p n t.l t.d t.x) (ks : List Int) : tensorL k p n (sumR k p n t ks).l (sumR k p n t ks).d (sumR k p n t ks).x ∧ (sumR k p n t ks).l = keepL t (oneT k p n) ks ∧ (sumR k p n t ks).d = (keepL t (oneT k p n) ks).map (dimJ t (oneT k p n)) := by
  have := pair_ten (sum_pair ht ks)
  rwa [sumR_pair ht] at this
theorem fin_perm {k p n : Int} {t : Ten} {op : List Int} (ht : tensorL k p n t.l t.d t.x) (hn : op.Nodup) (hs : ∀ x ∈ op, x ∈ t.l) : PermOK k p n (sumR k p n t op) op := by
  obtain ⟨h1, h2, _⟩ := sum_ten ht op; have hk : ∀ x, x ∈ (sumR k p n t op).l ↔ x ∈ op := fun x => by
    rw [h2, mem_keep]; exact ⟨fun h => h.2, fun h => ⟨.inl (hs x h), h⟩⟩
  exact ⟨ht.1, h1, perm_of hn (fun x hx => (hk x).2 hx) (pigeon (axes_nodup (ten_axes h1)) fun x hx => (hk x).1 hx)⟩
noncomputable def finT (k p n : Int) (t : Ten) (op : List Int) : Ten := permT k n (sumR k p n t op) op
def finP (k p n : Int) (ts : List Ten) (op : List Int) (t : Ten) : Prop := netL k p n ts op ∧ tensorL k p n t.l t.d t.x ∧ ∀ x ∈ op, x ∈ t.l
open Classical in
noncomputable def finB (k p n : Int) (ts : List Ten) (op : List Int) (t : Ten) : Bool := decide (finP k p n ts op t)
open Classical in
noncomputable def finR (k p n : Int) (ts : List Ten) (op : List Int) (t : Ten) : Ten := if finP k p n ts op t then finT k p n t op else noTen
theorem finP.perm {k p n : Int} {ts : List Ten} {op : List Int} {t : Ten} (h : finP k p n ts op t) : PermOK k p n (sumR k p n t op) op := fin_perm h.2.1 (net_open h.1).1 h.2.2
theorem FinNo {k p n : Int} {ts : List Ten} {op : List Int} {t : Ten} (h : ¬ finP k p n ts op t) : TenB (finR k p n ts op t) (finB k p n ts op t) (.tuple [tenV (.slice none 0 0) (.slice none 0 0) (.slice none 0 0), .bool false].toArray) emp :=
  ⟨.slice none 0 0, .slice none 0 0, .slice none 0 0, by simp [finB, h], by rw [finR, if_neg h]; exact triO_none⟩
theorem FinYes {k p n : Int} {ts : List Ten} {op : List Int} {t : Ten} {a b c : Value} {h : PH} (hp : finP k p n ts op t) (r : TriO (finT k p n t op) a b c h) : TenB (finR k p n ts op t) (finB k p n ts op t) (.tuple [tenV a b c, .bool true].toArray) h :=
  ⟨a, b, c, by simp [finB, hp], by rw [finR, if_pos hp]; exact r⟩
def partP (k p n : Int) (ts : List Ten) (op : List Int) (ss : List Stp) (m : Int) : Prop := orderL k p n ts op ss ∧ (0 ≤ m ∧ m ≤ ss.length) ∧ ∀ j, j < m.toNat → runFit k p n ts op ss j
open Classical in
noncomputable def partB (k p n : Int) (ts : List Ten) (op : List Int) (ss : List Stp) (m : Int) : Bool := decide (partP k p n ts op ss m)
noncomputable def partTs (k p n : Int) (ts : List Ten) (op : List Int) (ss : List Stp) (m : Int) : List Ten := ifB (partB k p n ts op ss m) (outTo k p n ts op ss m.toNat) []
noncomputable def partOp (k p n : Int) (ts : List Ten) (op : List Int) (ss : List Stp) (m : Int) : List Int := ifB (partB k p n ts op ss m) op []
def PartR (k p n : Int) (ts : List Ten) (op : List Int) (ss : List Stp) (m : Int) (x : Value) (h : PH) : Prop :=
  NetB (ifB (partB k p n ts op ss m) k 0) (ifB (partB k p n ts op ss m) p 0) (ifB (partB k p n ts op ss m) n 0) (partTs k p n ts op ss m) (partOp k p n ts op ss m) (partB k p n ts op ss m) x h
theorem partB_true {k p n : Int} {ts : List Ten} {op : List Int} {ss : List Stp} {m : Int} : partB k p n ts op ss m = true ↔ partP k p n ts op ss m := by simp [partB]
theorem PartNo {k p n m : Int} {ts : List Ten} {op : List Int} {ss : List Stp} (h : ¬ partP k p n ts op ss m) : PartR k p n ts op ss m (.tuple [netV 0 0 0 (.slice none 0 0) (.slice none 0 0), .bool false].toArray) emp := by
  have e : partB k p n ts op ss m = false := by simp [partB, h]
  refine ⟨.slice none 0 0, .slice none 0 0, ?_, ?_⟩
  · rw [e]; rfl
  · rw [partTs, partOp, e]; exact NetO.nil
theorem PartYes {k p n m : Int} {ts : List Ten} {op : List Int} {ss : List Stp} {vt vo : Value} {g : PH} (h : partP k p n ts op ss m) (r : NetO (outTo k p n ts op ss m.toNat) op vt vo g) : PartR k p n ts op ss m (.tuple [netV k p n vt vo, .bool true].toArray) g := by
  have e : partB k p n ts op ss m = true := by simp [partB, h]
  refine ⟨vt, vo, ?_, ?_⟩
  · rw [e]; rfl
  · rw [partTs, partOp, e]; exact r
def conP (k p n : Int) (ts : List Ten) (op : List Int) (ss : List Stp) : Prop := orderL k p n ts op ss ∧ ∀ j, j < ss.length → runFit k p n ts op ss j
open Classical in
noncomputable def conB (k p n : Int) (ts : List Ten) (op : List Int) (ss : List Stp) : Bool := decide (conP k p n ts op ss)
noncomputable def lastT (k p n : Int) (ts : List Ten) (op : List Int) (ss : List Stp) : Ten := (runTo k p n ts op ss ss.length).getD (ts.length + ss.length - 1) noTen
noncomputable def conT (k p n : Int) (ts : List Ten) (op : List Int) (ss : List Stp) : Ten := if ts.length = 0 then oneT k p n else finT k p n (lastT k p n ts op ss) op
open Classical in
noncomputable def conR (k p n : Int) (ts : List Ten) (op : List Int) (ss : List Stp) : Ten := if conP k p n ts op ss then conT k p n ts op ss else noTen
theorem conB_true {k p n : Int} {ts : List Ten} {op : List Int} {ss : List Stp} : conB k p n ts op ss = true ↔ conP k p n ts op ss := by simp [conB]
theorem conB_false {k p n : Int} {ts : List Ten} {op : List Int} {ss : List Stp} : conB k p n ts op ss = false ↔ ¬ conP k p n ts op ss := by simp [conB]
theorem con_part {k p n : Int} {ts : List Ten} {op : List Int} {ss : List Stp} : partP k p n ts op ss ss.length ↔ conP k p n ts op ss := by
  unfold partP conP
  rw [Int.toNat_natCast]; exact ⟨fun h => ⟨h.1, h.2.2⟩, fun h => ⟨h.1, by omega, h.2⟩⟩
section
variable {k p n : Int} {ts : List Ten} {op : List Int} {ss : List Stp}
theorem conP.last (h : conP k p n ts op ss) (hn : ts.length ≠ 0) : finP k p n ts op (lastT k p n ts op ss) ∧ outTo k p n ts op ss ss.length = [lastT k p n ts op ss] := by
  have r := run_ok h.1 ss.length (Nat.le_refl _) h.2; have hl := run_left h.1 (fun e => hn (by rw [e]; rfl)); have hg := r.get (j := ts.length + ss.length - 1) (by omega); refine ⟨⟨h.1.1, hg.1, fun x hx => ?_⟩, by rw [outTo, hl]; rfl⟩; obtain ⟨j, hj, hxj⟩ := run_open h.1 hx ss.length (Nat.le_refl _); rw [hl] at hj
  simp at hj
  show x ∈ ((runTo k p n ts op ss ss.length).getD (ts.length + ss.length - 1) noTen).l
  rw [hg.2.1, ← hj]; exact hxj
theorem conP.empty (h : conP k p n ts op ss) (hn : ts.length = 0) : op = [] := by
  refine List.eq_nil_iff_forall_not_mem.2 fun x hx => ?_; obtain ⟨j, hj, e⟩ := getD_of_mem hx; have ho := (open_at h.1.1.2.2.2.2 hj).2; have e0 : ts = [] := List.eq_nil_of_length_eq_zero hn; rw [e0] at ho
  simp [dimOf] at ho
theorem conP.ten (h : conP k p n ts op ss) : tensorL k p n (conT k p n ts op ss).l (conT k p n ts op ss).d (conT k p n ts op ss).x ∧ (conT k p n ts op ss).l = op := by
  unfold conT
  by_cases hn : ts.length = 0
  · rw [if_pos hn]; exact ⟨one_ten h.1.1.1, (h.empty hn).symm⟩
  · rw [if_neg hn]; exact ⟨perm_ten (h.last hn).1.perm, rfl⟩
end
theorem ConNo {k p n : Int} {ts : List Ten} {op : List Int} {ss : List Stp} (h : ¬ conP k p n ts op ss) : TenB (conR k p n ts op ss) (conB k p n ts op ss) (.tuple [tenV (.slice none 0 0) (.slice none 0 0) (.slice none 0 0), .bool false].toArray) emp :=
  ⟨.slice none 0 0, .slice none 0 0, .slice none 0 0, by simp [conB, h], by rw [conR, if_neg h]; exact triO_none⟩
theorem ConYes {k p n : Int} {ts : List Ten} {op : List Int} {ss : List Stp} {a b c : Value} {h : PH} (hp : conP k p n ts op ss) (r : TriO (conT k p n ts op ss) a b c h) : TenB (conR k p n ts op ss) (conB k p n ts op ss) (.tuple [tenV a b c, .bool true].toArray) h :=
  ⟨a, b, c, by simp [conB, hp], by rw [conR, if_pos hp]; exact r⟩
end Go.Proofs.YtmddmahaikineaaGreat
namespace Go.Proofs.YtmddmahaikineaaGreat
set_option maxRecDepth 100000
open Go.RowKit
theorem dotTo_cons (a b : Int) (xs ys : List Int) : ∀ m, dotTo (a :: xs) (b :: ys) (m + 1) = a * b + dotTo xs ys m
  | 0 => by simp [dotTo]
  | m + 1 => by
    have ih := dotTo_cons a b xs ys m; rw [dotTo, ih, dotTo]; simp only [List.getD_cons_succ]
    omega
theorem dotL_cons (a b : Int) (xs ys : List Int) : dotL (a :: xs) (b :: ys) = a * b + dotL xs ys := by
  unfold dotL
  rw [List.length_cons, dotTo_cons]
theorem steps_skip {labels ls ds : List Int} {l d : Int} (h : l ∉ labels) : stepsL labels (l :: ls) (d :: ds) = stepsL labels ls ds :=
  List.map_congr_left fun x hx => by simp only [strOf]; rw [if_neg (fun e => h (by rw [← e]; exact hx))]
theorem sl_full : ∀ {ls ds is : List Int}, ls.Nodup → ls.length = ds.length → is.length = ls.length → dotL (stepsL ls ls ds) is = offL ds is
  | [], [], [], _, _, _ => by simp [dotL, stepsL, dotTo, offL]
  | l :: ls, d :: ds, i :: is, hn, hl, hi => by
    have hn' := List.nodup_cons.1 hn; have ih := sl_full (ls := ls) (ds := ds) (is := is) hn'.2 (by simpa using hl) (by simpa using hi); have e : stepsL (l :: ls) (l :: ls) (d :: ds) = prodI ds :: stepsL ls ls ds := by
      rw [← steps_skip (l := l) (d := d) hn'.1]
      simp [stepsL, strOf]
    rw [e, dotL_cons, ih, offL, Int.mul_comm]
  | [], _ :: _, _, _, hl, _ => by simp at hl
  | _ :: _, [], _, _, hl, _ => by simp at hl
  | [], [], _ :: _, _, _, hi => by simp at hi
  | _ :: _, _ :: _, [], _, _, hi => by simp at hi
theorem sl_dot : ∀ {ls ds is : List Int} {j : Nat} (v : Int), ls.Nodup → ls.length = ds.length → j < ls.length → is.length + 1 = ls.length → v * strOf ls ds (ls.getD j 0) + dotL (stepsL (ls.eraseIdx j) ls ds) is = offL ds (is.insertIdx j v)
  | l :: ls, d :: ds, is, 0, v, hn, hl, _, hi => by
    have hn' := List.nodup_cons.1 hn; have h := sl_full (ls := ls) (ds := ds) (is := is) hn'.2 (by simpa using hl) (by simpa using hi); rw [List.eraseIdx_zero, List.tail_cons, steps_skip hn'.1, h]
    simp [strOf, offL]
  | l :: ls, d :: ds, i :: is, j + 1, v, hn, hl, hj, hi => by
    have hn' := List.nodup_cons.1 hn; have hj' : j < ls.length := by simpa using hj
    have ih := sl_dot (ls := ls) (ds := ds) (is := is) (j := j) v hn'.2 (by simpa using hl) hj' (by simpa using hi); have hne : ls.getD j 0 ≠ l := fun e => hn'.1 (e ▸ mem_getD hj'); have hm : l ∉ ls.eraseIdx j := fun h => hn'.1 (List.mem_of_mem_eraseIdx h); have e : stepsL (l :: ls.eraseIdx j) (l :: ls) (d :: ds) = prodI ds :: stepsL (ls.eraseIdx j) ls ds := by
      rw [← steps_skip (l := l) (d := d) hm]
      simp [stepsL, strOf]
    rw [List.eraseIdx_cons_succ, e, dotL_cons, List.insertIdx_succ_cons, offL, ← ih, List.getD_cons_succ]; simp only [strOf]; rw [if_neg hne, Int.mul_comm (prodI ds)]
    omega
  | [], _, _, _, _, _, _, hj, _ => by simp at hj
  | _ :: _, [], _, _, _, _, hl, _, _ => by simp at hl
  | l :: ls, _ :: _, [], j + 1, _, _, _, hj, hi => by
    have h1 : (l :: ls).length = ls.length + 1 := rfl; have h2 : ([] : List Int).length = 0 := rfl
    omega
theorem idxL_cons (d : Int) (ds : List Int) (n : Int) : idxL (d :: ds) n = (n / prodI ds % d) :: idxL ds n := by
  unfold idxL
  rw [List.length_cons, List.range_succ_eq_map, List.map_cons, List.map_map]
  rfl
theorem idxL_shift : ∀ {ds : List Int} (_ : ∀ d ∈ ds, 1 ≤ d) (q m : Int), idxL ds (q * prodI ds + m) = idxL ds m
  | [], _, q, m => rfl
  | d :: ds, hd, q, m => by
    have h1 := prodI_one (ds := ds) fun x hx => hd x (by simp [hx]); have hd1 := hd d (by simp); have ih := idxL_shift (ds := ds) (fun x hx => hd x (by simp [hx])) (q * d) m; have e : q * prodI (d :: ds) + m = q * d * prodI ds + m := by rw [prodI_cons, Int.mul_assoc]
    rw [e, idxL_cons, idxL_cons, ih]
    congr 1
    rw [Int.add_comm, Int.add_mul_ediv_right _ _ (by omega), Int.add_mul_emod_self_right]
theorem range_blocks (b : Nat) : ∀ a : Nat, List.range (a * b) = (List.range a).flatMap fun q => (List.range b).map fun r => q * b + r
  | 0 => by simp
  | a + 1 => by
    rw [Nat.add_mul, Nat.one_mul, List.range_add, range_blocks b a, List.range_succ, List.flatMap_append]
    simp
theorem one_block {α : Type} (g : Nat → List α) {v : Nat} : ∀ {a : Nat}, v < a → (List.range a).flatMap (fun q => if q = v then g q else []) = g v
  | 0, h => by omega
  | a + 1, h => by
    rw [List.range_succ, List.flatMap_append]
    by_cases e : a = v
    · subst e; have h0 : (List.range a).flatMap (fun q => if q = a then g q else []) = [] := List.flatMap_eq_nil_iff.2 fun q hq => by
        have := List.mem_range.1 hq; rw [if_neg (by omega)]
      rw [h0]; simp
    · rw [one_block g (show v < a by omega)]; simp [e]
theorem flatMap_congr' {α β : Type} {l : List α} {f g : α → List β} (h : ∀ x ∈ l, f x = g x) : l.flatMap f = l.flatMap g := by
  induction l with
  | nil => rfl
  | cons x l ih => rw [List.flatMap_cons, List.flatMap_cons, h x (by simp), ih fun y hy => h y (by simp [hy])]
theorem filter_flatMap {α β : Type} (p : β → Bool) (f : α → List β) (l : List α) : (l.flatMap f).filter p = l.flatMap fun x => (f x).filter p := by
  induction l with
  | nil => rfl
  | cons x l ih => rw [List.flatMap_cons, List.flatMap_cons, List.filter_append, ih]
theorem map_flatMap' {α β γ : Type} (g : β → γ) (f : α → List β) (l : List α) : (l.flatMap f).map g = l.flatMap fun x => (f x).map g := by
  induction l with
  | nil => rfl
  | cons x l ih => rw [List.flatMap_cons, List.flatMap_cons, List.map_append, ih]
def slHas (ds : List Int) (j : Nat) (v : Int) (n : Nat) : Bool := decide ((idxL ds n).getD j 0 = v)
def slTo (ds : List Int) (j : Nat) (v : Int) (m : Nat) : List Nat := (List.range m).filter (slHas ds j v)
def slAt (ds : List Int) (j : Nat) (v : Int) (m : Nat) : Nat := (offL ds ((idxL (ds.eraseIdx j) m).insertIdx j v)).toNat
theorem ins_in {ds is : List Int} {j : Nat} {v : Int} (hj : j < ds.length) (hv : 0 ≤ v ∧ v < ds.getD j 0) (h : idxIn (ds.eraseIdx j) is) : idxIn ds (is.insertIdx j v) := by
  have hl := h.1; rw [List.length_eraseIdx_of_lt hj] at hl; refine ⟨by rw [List.length_insertIdx_of_le_length (by omega)]; omega, fun i hi => ?_⟩
  rcases Nat.lt_trichotomy i j with c | c | c
  · have e1 : (is.insertIdx j v).getD i 0 = is.getD i 0 := by simp only [List.getD]; rw [List.getElem?_insertIdx_of_lt c]
    have e2 : (ds.eraseIdx j).getD i 0 = ds.getD i 0 := by simp only [List.getD]; rw [List.getElem?_eraseIdx_of_lt c]
    have := h.2 i (by rw [List.length_eraseIdx_of_lt hj]; omega); rw [e1, ← e2]; exact this
  · subst c; have e1 : (is.insertIdx i v).getD i 0 = v := by simp only [List.getD]; rw [List.getElem?_insertIdx_self, if_pos (by omega)]; rfl
    rw [e1]; exact hv
  · have e1 : (is.insertIdx j v).getD i 0 = is.getD (i - 1) 0 := by simp only [List.getD]; rw [List.getElem?_insertIdx_of_gt c]
    have e2 : (ds.eraseIdx j).getD (i - 1) 0 = ds.getD i 0 := by
      simp only [List.getD]; rw [List.getElem?_eraseIdx_of_ge (by omega), show i - 1 + 1 = i by omega]
    have := h.2 (i - 1) (by rw [List.length_eraseIdx_of_lt hj]; omega); rw [e1, ← e2]; exact this
theorem erase_mem {ds : List Int} {j : Nat} {p : Int → Prop} (h : ∀ d ∈ ds, p d) : ∀ d ∈ ds.eraseIdx j, p d := fun d hd => h d (List.mem_of_mem_eraseIdx hd)
theorem sl_in {ds : List Int} (hd : ∀ d ∈ ds, 1 ≤ d) {j : Nat} (hj : j < ds.length) {v : Int} (hv : 0 ≤ v ∧ v < ds.getD j 0) (m : Int) : 0 ≤ offL ds ((idxL (ds.eraseIdx j) m).insertIdx j v) ∧ offL ds ((idxL (ds.eraseIdx j) m).insertIdx j v) ≤ prodI ds - 1 :=
  offL_in hd (ins_in hj hv (idxL_in (erase_mem hd) m))
theorem sl_eq : ∀ {ds : List Int} (_ : ∀ d ∈ ds, 1 ≤ d) {j : Nat} (_ : j < ds.length) {v : Int} (_ : 0 ≤ v ∧ v < ds.getD j 0), slTo ds j v (prodI ds).toNat = (List.range (prodI (ds.eraseIdx j)).toNat).map (slAt ds j v)
  | [], _, j, hj, _, _ => by simp at hj
  | d :: ds, hd, 0, _, v, hv => by
    have hd' : ∀ x ∈ ds, 1 ≤ x := fun x hx => hd x (by simp [hx]); have hd1 := hd d (by simp); have hP := prodI_one hd'; have hv' : 0 ≤ v ∧ v < d := by simpa using hv
    have eP : (prodI (d :: ds)).toNat = d.toNat * (prodI ds).toNat := by rw [prodI_cons, Int.toNat_mul (by omega) (by omega)]
    rw [slTo, eP, range_blocks, filter_flatMap, List.eraseIdx_zero, List.tail_cons]; have e : ∀ q ∈ List.range d.toNat, ((List.range (prodI ds).toNat).map fun r => q * (prodI ds).toNat + r).filter (slHas (d :: ds) 0 v) = if q = v.toNat then (List.range (prodI ds).toNat).map fun r => q * (prodI ds).toNat + r else [] := fun q hq => by
      have hq' := List.mem_range.1 hq; have hdig : ∀ r, r < (prodI ds).toNat → slHas (d :: ds) 0 v (q * (prodI ds).toNat + r) = decide (q = v.toNat) := fun r hr => by
        unfold slHas
        rw [idxL_cons]; have e1 : ((q * (prodI ds).toNat + r : Nat) : Int) = r + q * prodI ds := by
          rw [Int.natCast_add, Int.natCast_mul, show (((prodI ds).toNat : Nat) : Int) = prodI ds by omega, Int.add_comm]
        rw [e1, Int.add_mul_ediv_right _ _ (by omega), Int.ediv_eq_zero_of_lt (by omega) (by omega), Int.zero_add, Int.emod_eq_of_lt (by omega) (by omega), Bool.eq_iff_iff, decide_eq_true_eq, decide_eq_true_eq]; simp only [List.getD_cons_zero]
        omega
      by_cases c : q = v.toNat
      · rw [if_pos c, List.filter_eq_self]; intro x hx; obtain ⟨r, hr, rfl⟩ := List.mem_map.1 hx; rw [hdig r (List.mem_range.1 hr)]; simpa using c
      · rw [if_neg c, List.filter_eq_nil_iff]; intro x hx; obtain ⟨r, hr, rfl⟩ := List.mem_map.1 hx; rw [hdig r (List.mem_range.1 hr)]; simpa using c
    rw [flatMap_congr' e, one_block _ (show v.toNat < d.toNat by omega)]; refine List.map_congr_left fun r hr => ?_; have hr' := List.mem_range.1 hr
    unfold slAt
    rw [List.eraseIdx_zero, List.tail_cons, List.insertIdx_zero, offL, offL_idx hd' (by omega) (by omega), Int.toNat_add (Int.mul_nonneg hv'.1 (by omega)) (by omega), Int.toNat_mul hv'.1 (by omega)]
    simp
  | d :: ds, hd, j + 1, hj, v, hv => by
    have hd' : ∀ x ∈ ds, 1 ≤ x := fun x hx => hd x (by simp [hx]); have hd1 := hd d (by simp); have hP := prodI_one hd'; have hj' : j < ds.length := by simpa using hj
    have hv' : 0 ≤ v ∧ v < ds.getD j 0 := by simpa using hv
    have he := erase_mem (j := j) hd'; have hP' := prodI_one he; have ih := sl_eq hd' hj' hv'; have eP : (prodI (d :: ds)).toNat = d.toNat * (prodI ds).toNat := by rw [prodI_cons, Int.toNat_mul (by omega) (by omega)]
    have eP' : (prodI ((d :: ds).eraseIdx (j + 1))).toNat = d.toNat * (prodI (ds.eraseIdx j)).toNat := by rw [List.eraseIdx_cons_succ, prodI_cons, Int.toNat_mul (by omega) (by omega)]
    rw [slTo, eP, eP', range_blocks, range_blocks, filter_flatMap, map_flatMap']; refine flatMap_congr' fun q hq => ?_; have hq' := List.mem_range.1 hq; rw [List.filter_map]; have e2 : (slHas (d :: ds) (j + 1) v ∘ fun r => q * (prodI ds).toNat + r) = slHas ds j v := by
      funext r
      simp only [Function.comp, slHas]; rw [idxL_cons, List.getD_cons_succ]; have e1 : ((q * (prodI ds).toNat + r : Nat) : Int) = q * prodI ds + r := by
        rw [Int.natCast_add, Int.natCast_mul, show (((prodI ds).toNat : Nat) : Int) = prodI ds by omega]
      rw [e1, idxL_shift hd']
    rw [e2]; have ih' : (List.range (prodI ds).toNat).filter (slHas ds j v) = (List.range (prodI (ds.eraseIdx j)).toNat).map (slAt ds j v) := ih; rw [ih', List.map_map, List.map_map]; refine List.map_congr_left fun m hm => ?_; have hm' := List.mem_range.1 hm; have hin := sl_in hd' hj' hv' m; simp only [Function.comp, slAt]; have e1 : ((q * (prodI (ds.eraseIdx j)).toNat + m : Nat) : Int) = m + q * prodI (ds.eraseIdx j) := by
      rw [Int.natCast_add, Int.natCast_mul, show (((prodI (ds.eraseIdx j)).toNat : Nat) : Int) = prodI (ds.eraseIdx j) by omega, Int.add_comm]
    rw [List.eraseIdx_cons_succ, idxL_cons, e1, Int.add_mul_ediv_right _ _ (by omega), Int.ediv_eq_zero_of_lt (by omega) (by omega), Int.zero_add, Int.emod_eq_of_lt (by omega) (by omega), List.insertIdx_succ_cons, offL, Int.add_comm (m : Int), idxL_shift he,
      Int.toNat_add (Int.mul_nonneg (by omega) (by omega)) hin.1, Int.toNat_mul (by omega) (by omega)]
    simp
end Go.Proofs.YtmddmahaikineaaGreat
namespace Go.Proofs.YtmddmahaikineaaGreat
set_option maxRecDepth 100000
open Go.RowKit
theorem one_drop_none {α : Type} {l : List α} {k : Nat} (h : l[k]? = none) : (l.drop (k * 1)).take 1 = [] := by
  rw [Nat.mul_one, List.drop_of_length_le (List.getElem?_eq_none_iff.1 h)]; rfl
theorem mem_dropK {α : Type} {l : List α} {p q : Nat} {t : α} : ∀ k, t ∈ dropK 1 l p q k ↔ ∃ m, m < k ∧ m ≠ p ∧ m ≠ q ∧ l[m]? = some t
  | 0 => by simp [dropK]
  | k + 1 => by
    have ih := mem_dropK (l := l) (p := p) (q := q) (t := t) k; have hx : t ∈ (l.drop (k * 1)).take 1 ↔ l[k]? = some t := by
      cases h : l[k]? with
      | none => rw [one_drop_none h]; simp
      | some x => rw [one_drop h]; simp [eq_comm]
    by_cases hc : k ≠ p ∧ k ≠ q
    · rw [dropK_yes hc, List.mem_append, ih, hx]
      constructor
      · rintro (⟨m, h1, h2⟩ | h)
        · exact ⟨m, by omega, h2⟩
        · exact ⟨k, by omega, hc.1, hc.2, h⟩
      · rintro ⟨m, h1, h2, h3, h4⟩
        by_cases e : m = k
        · subst e; exact .inr h4
        · exact .inl ⟨m, by omega, h2, h3, h4⟩
    · rw [dropK_no hc, ih]
      constructor
      · rintro ⟨m, h1, h2⟩; exact ⟨m, by omega, h2⟩
      · rintro ⟨m, h1, h2, h3, h4⟩; have : m ≠ k := fun e => hc (e ▸ ⟨h2, h3⟩); exact ⟨m, by omega, h2, h3, h4⟩
def needS (ts : List Ten) (op : List Int) (i j m : Nat) : List Int := op ++ (dropK 1 ts i j m).flatMap (·.l)
section
variable {ts : List Ten} {op : List Int} {i j k : Nat} {t : Ten}
end
theorem dimOf_map {us : List Ten} {f : Int → Int} {x : Int} (h : ∀ t ∈ us, t.d = t.l.map f) (hx : ∃ t ∈ us, x ∈ t.l) : dimOf us x = f x := by
  induction us with
  | nil => obtain ⟨t, ht, _⟩ := hx; simp at ht
  | cons t us ih =>
    rw [dimOf]
    by_cases hm : x ∈ t.l
    · rw [if_pos hm, h t (by simp), map_getD (findI_get hm).1, (findI_get hm).2]
    · rw [if_neg hm]; refine ih (fun u hu => h u (by simp [hu])) ?_; obtain ⟨u, hu, hxu⟩ := hx
      rcases List.mem_cons.1 hu with rfl | hu
      · exact absurd hxu hm
      · exact ⟨u, hu, hxu⟩
theorem dimOf_none {us : List Ten} {x : Int} (hx : ¬ ∃ t ∈ us, x ∈ t.l) : dimOf us x = 0 := Classical.byContradiction fun h => hx (dimOf_mem h)
theorem cons_of_map {us : List Ten} {f : Int → Int} (h : ∀ t ∈ us, t.d = t.l.map f) : consL us := fun i _ t ht j hj t' ht' => by
  rw [ht] at ht'
  cases ht'
  by_cases hx : ∃ u ∈ us.take i, t.l.getD j 0 ∈ u.l
  · right
    rw [dimOf_map (fun u hu => h u (List.mem_of_mem_take hu)) hx, h t (List.mem_of_getElem? ht), map_getD hj]
  · exact .inl (dimOf_none hx)
theorem net_of {k p n : Int} {ts us : List Ten} {op : List Int} (h : netL k p n ts op) (hl : us.length ≤ 12) (ht : ∀ t ∈ us, tensorL k p n t.l t.d t.x) (hd : ∀ t ∈ us, t.d = t.l.map (dimOf ts)) (ho : ∀ x ∈ op, ∃ t ∈ us, x ∈ t.l) : netL k p n us op := by
  refine ⟨h.1, hl, ht, cons_of_map hd, ?_⟩; have e : dimsFor us op = dimsFor ts op := List.map_congr_left fun x hx => dimOf_map hd (ho x hx); rw [e]; exact h.2.2.2.2
theorem net_has {k p n : Int} {ts : List Ten} {op : List Int} (h : netL k p n ts op) {x : Int} (hx : x ∈ op) : ∃ t ∈ ts, x ∈ t.l := by
  obtain ⟨j, hj, e⟩ := getD_of_mem hx; have ho := (open_at h.2.2.2.2 hj).2; rw [e] at ho; exact dimOf_mem (by omega)
def mgLo (i j : Int) : Nat := (min i j).toNat
def mgHi (i j : Int) : Nat := (max i j).toNat
def mgA (ts : List Ten) (i j : Int) : Ten := ts.getD (mgLo i j) noTen
def mgB (ts : List Ten) (i j : Int) : Ten := ts.getD (mgHi i j) noTen
def mergN (ts : List Ten) (op : List Int) (i j : Int) : List Int := needS ts op i.toNat j.toNat ts.length
def mergP (k p n : Int) (ts : List Ten) (op : List Int) (i j : Int) : Prop := netL k p n ts op ∧ (0 ≤ i ∧ i < ts.length) ∧ (0 ≤ j ∧ j < ts.length) ∧ i ≠ j ∧ pairP k p n (mgA ts i j) (mgB ts i j) (mergN ts op i j)
noncomputable def mergT (k p n : Int) (ts : List Ten) (op : List Int) (i j : Int) : Ten := pairR k p n (mgA ts i j) (mgB ts i j) (mergN ts op i j)
noncomputable def mergL (k p n : Int) (ts : List Ten) (op : List Int) (i j : Int) (m : Nat) : List Ten := dropK 1 (ts.set (mgLo i j) (mergT k p n ts op i j)) (mgHi i j) (mgHi i j) m
section
variable {k p n : Int} {ts : List Ten} {op : List Int} {i j : Int}
theorem merg_hi {m : Nat} (h : (m : Int) = max i j) : mergL k p n ts op i j (m + 1) = mergL k p n ts op i j m := by
  have e : m = mgHi i j := by unfold mgHi; omega
  unfold mergL
  rw [dropK_no (by omega)]
theorem merg_len (m : Nat) : (mergL k p n ts op i j m).length ≤ m := by
  have := dropK_len (m := 1) (cs := ts.set (mgLo i j) (mergT k p n ts op i j)) (p := mgHi i j) (q := mgHi i j) m
  unfold mergL; omega
theorem mergP.mem (h : mergP k p n ts op i j) {t : Ten} : t ∈ mergL k p n ts op i j ts.length ↔ t = mergT k p n ts op i j ∨ ∃ m, m < ts.length ∧ m ≠ mgLo i j ∧ m ≠ mgHi i j ∧ ts[m]? = some t := by
  obtain ⟨_, hi, hj, hne, _⟩ := h; have e : mgLo i j ≠ mgHi i j := by unfold mgLo mgHi; omega
  have e2 : mgLo i j < ts.length := by unfold mgLo; omega
  rw [mergL, mem_dropK]
  constructor
  · rintro ⟨m, h1, h2, _, h4⟩
    by_cases c : mgLo i j = m
    · subst c; rw [List.getElem?_set_self h1] at h4
      cases h4; exact .inl rfl
    · rw [List.getElem?_set_ne c] at h4; exact .inr ⟨m, h1, Ne.symm c, h2, h4⟩
  · rintro (rfl | ⟨m, h1, h2, h3, h4⟩)
    · exact ⟨mgLo i j, e2, e, e, List.getElem?_set_self e2⟩
    · exact ⟨m, h1, h3, h3, by rw [List.getElem?_set_ne (Ne.symm h2)]; exact h4⟩
theorem mergP.less (h : mergP k p n ts op i j) : (mergL k p n ts op i j ts.length).length + 1 ≤ ts.length := by
  obtain ⟨_, hi, hj, hne, _⟩ := h; have e : mgHi i j < ts.length := by unfold mgHi; omega
  have hs : ∀ (c m : Nat), mgHi i j < m → m = mgHi i j + 1 + c → (mergL k p n ts op i j m).length + 1 ≤ m := by
    intro c
    induction c with
    | zero =>
      intro m hm e; have := merg_len (k := k) (p := p) (n := n) (ts := ts) (op := op) (i := i) (j := j) (mgHi i j); rw [show m = mgHi i j + 1 by omega, merg_hi (by unfold mgHi; omega)]
      omega
    | succ c ih =>
      intro m hm e; have ih := ih (mgHi i j + 1 + c) (by omega) rfl; have e3 : mgHi i j + 1 + c ≠ mgHi i j := by omega
      rw [show m = (mgHi i j + 1 + c) + 1 by omega, mergL, dropK_yes ⟨e3, e3⟩, List.length_append, List.length_take]
      unfold mergL at ih
      omega
  exact hs (ts.length - (mgHi i j + 1)) ts.length e (by omega)
end
end Go.Proofs.YtmddmahaikineaaGreat
namespace Go.Proofs.YtmddmahaikineaaGreat
set_option maxRecDepth 100000
open Go.RowKit
theorem skip_yes {xs : List Int} {i j : Nat} (h : i < xs.length) (hij : i ≠ j) : (xs.take (i + 1)).eraseIdx j = (xs.take i).eraseIdx j ++ [xs.getD i 0] := by
  have hl : (xs.take i).length = i := by simp; omega
  rw [take_succ h]
  rcases Nat.lt_or_ge j i with c | c
  · rw [List.eraseIdx_append_of_lt_length (by rw [hl]; exact c)]
  · rw [List.eraseIdx_of_length_le (by simp; omega), List.eraseIdx_of_length_le (by rw [hl]; exact c)]
theorem skip_no {xs : List Int} {j : Nat} (h : j < xs.length) : (xs.take (j + 1)).eraseIdx j = (xs.take j).eraseIdx j := by
  have hl : (xs.take j).length = j := by simp; omega
  have h1 : (xs.take j ++ [xs.getD j 0]).eraseIdx j = xs.take j := by
    rw [List.eraseIdx_append_of_length_le (by omega), hl, Nat.sub_self]
    simp
  rw [take_succ h, h1, List.eraseIdx_of_length_le (by omega)]
theorem erase_filter {ls : List Int} (hn : ls.Nodup) {x : Int} (hx : x ∈ ls) : ls.filter (fun y => decide (y ≠ x)) = ls.eraseIdx (findI ls x).toNat := by
  have e : (findI ls x).toNat = ls.idxOf x := by unfold findI; rw [if_pos hx]; simp
  rw [e, ← List.erase_eq_eraseIdx_of_idxOf rfl, List.Nodup.erase_eq_filter hn x]
  apply List.filter_congr
  intro y _; rw [Bool.eq_iff_iff]
  simp
theorem prod_erase : ∀ {ds : List Int} {j : Nat}, j < ds.length → prodI (ds.eraseIdx j) * ds.getD j 0 = prodI ds
  | [], j, h => by simp at h
  | d :: ds, 0, _ => by rw [List.eraseIdx_zero, List.tail_cons, prodI_cons, Int.mul_comm]; rfl
  | d :: ds, j + 1, h => by
    have ih := prod_erase (ds := ds) (j := j) (by simpa using h); rw [List.eraseIdx_cons_succ, prodI_cons, prodI_cons, List.getD_cons_succ, Int.mul_assoc, ih]
theorem map_erase {α β : Type} (f : α → β) : ∀ (l : List α) (j : Nat), (l.eraseIdx j).map f = (l.map f).eraseIdx j
  | [], j => by simp
  | a :: l, 0 => by simp
  | a :: l, j + 1 => by simp [map_erase f l j]
def slJ (t : Ten) (x : Int) : Nat := (findI t.l x).toNat
def slX (wd : Int) (t : Ten) (j : Nat) (v : Int) (m : Nat) : List Int := (slTo t.d j v m).flatMap fun (n : Nat) => elt t.x wd n
noncomputable def slT (k n : Int) (t : Ten) (x v : Int) : Ten := ⟨t.l.eraseIdx (slJ t x), t.d.eraseIdx (slJ t x), slX (widthI k n) t (slJ t x) v (prodI t.d).toNat⟩
theorem slX_yes {wd : Int} {t : Ten} {j m : Nat} {v : Int} (h : (idxL t.d m).getD j 0 = v) : slX wd t j v (m + 1) = slX wd t j v m ++ elt t.x wd m := by
  have e : slHas t.d j v m = true := decide_eq_true h
  unfold slX slTo
  rw [List.range_succ, List.filter_append, List.flatMap_append, List.filter_cons_of_pos e]
  simp
theorem slX_no {wd : Int} {t : Ten} {j m : Nat} {v : Int} (h : (idxL t.d m).getD j 0 ≠ v) : slX wd t j v (m + 1) = slX wd t j v m := by
  have e : ¬ slHas t.d j v m = true := by unfold slHas; simpa using h
  unfold slX slTo
  rw [List.range_succ, List.filter_append, List.flatMap_append, List.filter_cons_of_neg e]
  simp
/-- The numbers as the program meets them. -/
def slY (wd : Int) (t : Ten) (j : Nat) (v : Int) (m : Nat) : List Int := ((List.range m).map (slAt t.d j v)).flatMap fun (n : Nat) => elt t.x wd n
theorem slY_step {wd : Int} {t : Ten} {j m : Nat} {v : Int} : slY wd t j v (m + 1) = slY wd t j v m ++ elt t.x wd (slAt t.d j v m) := by
  unfold slY
  rw [List.range_succ, List.map_append, List.flatMap_append]
  simp
structure SlOK (k p n : Int) (t : Ten) (x v : Int) : Prop where
  ten : tensorL k p n t.l t.d t.x
  mem : x ∈ t.l
  val : 0 ≤ v ∧ v < t.d.getD (slJ t x) 0
section
variable {k p n : Int} {t : Ten} {x v : Int}
theorem sl_j (h : tensorL k p n t.l t.d t.x) (hx : x ∈ t.l) : slJ t x < t.l.length ∧ slJ t x < t.d.length ∧ t.l.getD (slJ t x) 0 = x := by
  have hg := findI_get hx; have ha := ten_axes h; exact ⟨hg.1, by rw [← ha.2.1]; exact hg.1, hg.2⟩
theorem SlOK.eq (h : SlOK k p n t x v) : slX (widthI k n) t (slJ t x) v (prodI t.d).toNat = slY (widthI k n) t (slJ t x) v (prodI (t.d.eraseIdx (slJ t x))).toNat := by
  have hj := sl_j h.ten h.mem
  unfold slX slY
  rw [sl_eq (fun d hd => (dims_mem (axes_dims (ten_axes h.ten)) d hd).1) hj.2.1 h.val]
theorem SlOK.at_ (h : SlOK k p n t x v) (m : Nat) : slAt t.d (slJ t x) v m < (prodI t.d).toNat ∧ ((slAt t.d (slJ t x) v m : Nat) : Int) = v * strOf t.l t.d x + dotL (stepsL (t.l.eraseIdx (slJ t x)) t.l t.d) (idxL (t.d.eraseIdx (slJ t x)) m) := by
  have hj := sl_j h.ten h.mem; have ha := ten_axes h.ten; have hd : ∀ d ∈ t.d, 1 ≤ d := fun d hd => (dims_mem (axes_dims ha) d hd).1; have hin := sl_in hd hj.2.1 h.val m; have hs := sl_dot (ls := t.l) (ds := t.d) (is := idxL (t.d.eraseIdx (slJ t x)) m) (j := slJ t x) v (axes_nodup ha) ha.2.1 hj.1 (by rw [idxL_len, List.length_eraseIdx_of_lt hj.2.1]; have := hj.2.1; have := ha.2.1; omega); rw [hj.2.2] at hs
  unfold slAt
  omega
theorem SlOK.dims (h : SlOK k p n t x v) : dimsIn (t.d.eraseIdx (slJ t x)) ∧ 1 ≤ prodI (t.d.eraseIdx (slJ t x)) ∧ prodI (t.d.eraseIdx (slJ t x)) ≤ 4096 := by
  have hj := sl_j h.ten h.mem; have ha := ten_axes h.ten; have hm := erase_mem (j := slJ t x) (dims_mem (axes_dims ha)); have hp1 := prodI_one fun d hd => (hm d hd).1; have hpe := prod_erase hj.2.1; have hd := axes_dims ha (slJ t x) hj.2.1; have hp := ten_prod h.ten; have h1 : prodI (t.d.eraseIdx (slJ t x)) * 1 ≤ prodI (t.d.eraseIdx (slJ t x)) * t.d.getD (slJ t x) 0 := Int.mul_le_mul_of_nonneg_left hd.1 (by omega); exact ⟨fun j hj => hm _ (mem_getD hj), hp1, by omega⟩
theorem SlOK.el (h : SlOK k p n t x v) (m : Nat) : InR k p n (elt t.x (widthI k n) (slAt t.d (slJ t x) v m)) := by
  have := (h.at_ m).1; exact elt_inR h.ten (by omega) (by omega)
theorem SlOK.all (h : SlOK k p n t x v) : ∀ m : Nat, ((slY (widthI k n) t (slJ t x) v m).length : Int) = m * widthI k n ∧ ∀ a ∈ slY (widthI k n) t (slJ t x) v m, 0 ≤ a ∧ a ≤ topI k p n
  | 0 => by simp [slY]
  | m + 1 => by
    have ih := SlOK.all h m; have he := h.el m; have hw := width_range h.ten.1; rw [slY_step]; refine ⟨?_, fun a ha => ?_⟩
    · rw [List.length_append, he.1, Int.natCast_add, ih.1, show ((m + 1 : Nat) : Int) = (m : Int) + 1 from rfl, Int.add_mul, Int.one_mul]; omega
    · rcases List.mem_append.1 ha with ha | ha
      · exact ih.2 a ha
      · exact he.2 a ha
theorem SlOK.axes (h : SlOK k p n t x v) : axesL (t.l.eraseIdx (slJ t x)) (t.d.eraseIdx (slJ t x)) := by
  have hj := sl_j h.ten h.mem; have ha := ten_axes h.ten; have hl := List.length_eraseIdx_of_lt hj.1; have hl2 := List.length_eraseIdx_of_lt hj.2.1; have hn : (t.l.eraseIdx (slJ t x)).Nodup := (axes_nodup ha).sublist (List.eraseIdx_sublist _ _); refine ⟨by rw [hl]; have := ha.1; omega, by rw [hl, hl2, ha.2.1], fun i hi => ⟨?_, h.dims.1 i (by rw [hl] at hi; rw [hl2]; have := ha.2.1; omega), nodup_not_take hn hi⟩⟩; obtain ⟨q, hq, e⟩ := getD_of_mem (List.mem_of_mem_eraseIdx (mem_getD hi)); rw [← e]; exact (ha.2.2 q hq).1
theorem SlOK.out (h : SlOK k p n t x v) : tensorL k p n (slT k n t x v).l (slT k n t x v).d (slT k n t x v).x := by
  have hd := h.dims; have ha := h.axes; have hx := h.all (prodI (t.d.eraseIdx (slJ t x))).toNat; refine ⟨h.ten.1, sizeI_ge.2 ⟨ha, hd.2.2⟩, ?_, fun a hm => ?_⟩
  · show ((slX (widthI k n) t (slJ t x) v (prodI t.d).toNat).length : Int) = sizeI (t.l.eraseIdx (slJ t x)) (t.d.eraseIdx (slJ t x)) * widthI k n
    rw [h.eq, sizeI_yes ha hd.2.2, hx.1, show (((prodI (t.d.eraseIdx (slJ t x))).toNat : Nat) : Int) = prodI (t.d.eraseIdx (slJ t x)) by omega]
  · have hm' : a ∈ slX (widthI k n) t (slJ t x) v (prodI t.d).toNat := hm; rw [h.eq] at hm'; exact hx.2 a hm'
end
theorem slX_len {k p n : Int} {t : Ten} (h : tensorL k p n t.l t.d t.x) (j : Nat) (v : Int) : ∀ m : Nat, (slX (widthI k n) t j v m).length ≤ m * 6
  | 0 => by simp [slX, slTo]
  | m + 1 => by
    have ih := slX_len h j v m; have hw := width_range h.1; have he : (elt t.x (widthI k n) (m : Int)).length ≤ 6 := by
      unfold elt
      rw [List.length_take]
      omega
    by_cases c : (idxL t.d m).getD j 0 = v
    · rw [slX_yes c, List.length_append]; omega
    · rw [slX_no c]; omega
noncomputable def fix1 (k n : Int) (t : Ten) (x v : Int) : Ten := if x ∈ t.l then slT k n t x v else t
noncomputable def fixTo (k n : Int) (t : Ten) (ls vs : List Int) : Nat → Ten
  | 0 => t
  | i + 1 => fix1 k n (fixTo k n t ls vs i) (ls.getD i 0) (vs.getD i 0)
theorem fixTo_congr {k n : Int} {t : Ten} {ls ls' vs vs' : List Int} : ∀ {i : Nat}, (∀ j, j < i → ls.getD j 0 = ls'.getD j 0 ∧ vs.getD j 0 = vs'.getD j 0) → fixTo k n t ls vs i = fixTo k n t ls' vs' i
  | 0, _ => rfl
  | i + 1, h => by
    have ih := fixTo_congr (k := k) (n := n) (t := t) (i := i) fun j hj => h j (by omega); rw [fixTo, fixTo, ih, (h i (by omega)).1, (h i (by omega)).2]
end Go.Proofs.YtmddmahaikineaaGreat
namespace Go.Proofs.YtmddmahaikineaaGreat
set_option maxRecDepth 100000
open Go.RowKit
section
variable (m : Int) (ss : List Stp) (C : List Int) (W : Int)
def done (S : List Int) : Prop := ∀ i, i < S.length → 0 ≤ S.getD i 0
end
section
variable {m : Int} {ss : List Stp} {C : List Int} {W : Int} {S : List Int} {T : Int}
end
end Go.Proofs.YtmddmahaikineaaGreat
namespace Go.Proofs.YtmddmahaikineaaGreat
set_option maxRecDepth 100000
open Go.RowKit
section
variable {P : Program} {n : Nat} {w0 : World} {K : Env} {HS : List PH} {d : Option Tmp} {ty : TypeId} {ps : String} {af : Array Edge} {g : Option (Nat × Bool)}
end
section
variable {m : Int} {ss : List Stp} {C : List Int} {W : Int} {S : List Int} {T : Int} {n : Nat}
end
def IntsB (xs : List Int) (b : Bool) (x : Value) (h : PH) : Prop := ∃ v, x = .tuple [v, .bool b].toArray ∧ IntsO xs v h
end Go.Proofs.YtmddmahaikineaaGreat
namespace Go.Proofs.YtmddmahaikineaaGreat
set_option maxRecDepth 100000
open Go.RowKit
def plainAt (m k : Nat) : Stp := if k = 0 then ⟨0, 1⟩ else ⟨(k : Int) + 1, (m : Int) + k - 1⟩
def plainTo (m j : Nat) : List Stp := (List.range j).map (plainAt m)
def plainL (m : Nat) : List Stp := plainTo m (m - 1)
theorem plain_step (m j : Nat) : plainTo m (j + 1) = plainTo m j ++ [plainAt m j] := by simp [plainTo, List.range_succ]
theorem plain_len (m j : Nat) : (plainTo m j).length = j := by simp [plainTo]
theorem plain_len' (m : Nat) : (plainL m).length = m - 1 := plain_len m _
theorem net_nil {k p n : Int} {ts : List Ten} {op : List Int} (h : netL k p n ts op) : netL k p n ts [] := by
  refine ⟨h.1, h.2.1, h.2.2.1, h.2.2.2.1, ?_⟩; have : axesL [] (dimsFor ts []) := ⟨by decide, rfl, fun j hj => by simp at hj⟩
  exact sizeI_ge.2 ⟨this, by simp [dimsFor, prodI]⟩
def totP (k p n : Int) (ts : List Ten) (op : List Int) : Prop := netL k p n ts op ∧ conP k p n ts [] (plainL ts.length)
open Classical in
noncomputable def totB (k p n : Int) (ts : List Ten) (op : List Int) : Bool := decide (totP k p n ts op)
noncomputable def totX (k p n : Int) (ts : List Ten) (op : List Int) : List Int := ifB (totB k p n ts op) (conT k p n ts [] (plainL ts.length)).x []
section
variable {k p n : Int} {ts : List Ten} {op : List Int}
theorem totB_true : totB k p n ts op = true ↔ totP k p n ts op := by simp [totB]
theorem totB_false : totB k p n ts op = false ↔ ¬ totP k p n ts op := by simp [totB]
theorem totX_yes (h : totP k p n ts op) : totX k p n ts op = (conT k p n ts [] (plainL ts.length)).x := by rw [totX, totB_true.2 h]; rfl
theorem totX_no (h : ¬ totP k p n ts op) : totX k p n ts op = [] := by rw [totX, totB_false.2 h]; rfl
theorem totP.inR (h : totP k p n ts op) : InR k p n (totX k p n ts op) := by
  obtain ⟨ht, hl⟩ := h.2.ten; rw [totX_yes h]; have hax := ten_axes ht; have hd : (conT k p n ts [] (plainL ts.length)).d = [] := List.eq_nil_of_length_eq_zero (by rw [← hax.2.1, hl]; rfl); have hx := ht.2.2.1; rw [hl, hd] at hx; have hs : sizeI [] [] = 1 := by
    have : axesL [] [] := ⟨by decide, rfl, fun j hj => by simp at hj⟩
    rw [sizeI_yes this (by decide)]; rfl
  rw [hs, Int.one_mul] at hx; exact ⟨by omega, ht.2.2.2⟩
theorem TotNo (h : ¬ totP k p n ts op) : IntsB (totX k p n ts op) (totB k p n ts op) (.tuple [.slice none 0 0, .bool false].toArray) emp :=
  ⟨.slice none 0 0, by rw [totB_false.2 h], by rw [totX_no h]; exact IntsO.nil⟩
theorem TotYes {v : Value} {g : PH} (h : totP k p n ts op) (r : IntsO (conT k p n ts [] (plainL ts.length)).x v g) : IntsB (totX k p n ts op) (totB k p n ts op) (.tuple [v, .bool true].toArray) g :=
  ⟨v, by rw [totB_true.2 h], by rw [totX_yes h]; exact r⟩
end
section
variable {k p n x : Int} {ts : List Ten} {op : List Int}
end
end Go.Proofs.YtmddmahaikineaaGreat
namespace Go.Proofs.YtmddmahaikineaaGreat
set_option maxRecDepth 100000
open Go.RowKit
def onesT (k p n : Int) (t : Ten) : Ten := ⟨t.l, t.d, (List.replicate (prodI t.d).toNat (oneL k p n)).flatten⟩
def envTs (k p n : Int) (ts : List Ten) (i : Int) : List Ten := ts.set i.toNat (onesT k p n (ts.getD i.toNat noTen))
def envOp (ts : List Ten) (op : List Int) (i : Int) : List Int := joinI op (ts.getD i.toNat noTen).l
def envP (k p n : Int) (ts : List Ten) (op : List Int) (i : Int) : Prop := netL k p n ts op ∧ (0 ≤ i ∧ i < ts.length) ∧ conP k p n (envTs k p n ts i) (envOp ts op i) (plainL ts.length)
open Classical in
noncomputable def envB (k p n : Int) (ts : List Ten) (op : List Int) (i : Int) : Bool := decide (envP k p n ts op i)
noncomputable def envR (k p n : Int) (ts : List Ten) (op : List Int) (i : Int) : Ten := ifB (envB k p n ts op i) (conT k p n (envTs k p n ts i) (envOp ts op i) (plainL ts.length)) noTen
section
variable {k p n i : Int} {ts : List Ten} {op : List Int}
theorem envB_true : envB k p n ts op i = true ↔ envP k p n ts op i := by simp [envB]
end
theorem dimOf_set {ts : List Ten} {j : Nat} {t u : Ten} (ht : ts[j]? = some t) (hl : u.l = t.l) (hd : u.d = t.d) (x : Int) : dimOf (ts.set j u) x = dimOf ts x := by
  induction ts generalizing j with
  | nil => simp at ht
  | cons y ts ih =>
    cases j with
    | zero =>
      have e : y = t := by simpa using ht
      subst e; simp only [List.set_cons_zero, dimOf, hl, hd]
    | succ j =>
      have := ih (j := j) (by simpa using ht); simp only [List.set_cons_succ, dimOf, this]
theorem idxAt_map {ls ds op : List Int} {f : Int → Int} (hd : ds = ls.map f) (hs : ∀ x ∈ op, x ∈ ls) : idxAt ls ds op = op.map f := List.map_congr_left fun x hx => by
  have hg := findI_get (hs x hx); rw [hd, map_getD hg.1, hg.2]
theorem conP.dims {k p n : Int} {ts : List Ten} {op : List Int} {ss : List Stp} (h : conP k p n ts op ss) : (conT k p n ts op ss).d = op.map (dimOf ts) := by
  unfold conT
  by_cases hn : ts.length = 0
  · rw [if_pos hn, h.empty hn]; rfl
  · rw [if_neg hn]; have hf := (h.last hn).1; have r := run_ok h.1 ss.length (Nat.le_refl _) h.2; have hg := r.get (j := ts.length + ss.length - 1) (by omega); have hs := sum_ten hf.2.1 op; have e : (sumR k p n (lastT k p n ts op ss) op).d = (sumR k p n (lastT k p n ts op ss) op).l.map (dimOf ts) := by
      rw [hs.2.2, hs.2.1]; exact keep_map (t := lastT k p n ts op ss) (u := oneT k p n) hg.2.2 rfl op
    exact idxAt_map e fun x hx => hf.perm.perm.mem_iff.1 hx
def crP (k p n : Int) (ts : List Ten) (op : List Int) (i : Int) (u : Ten) : Prop := replP k p n ts op i u ∧ envP k p n ts op i ∧ pairP k p n u (envR k p n ts op i) op
section
variable {k p n i : Int} {ts : List Ten} {op : List Int} {u : Ten}
theorem envP.ten (h : envP k p n ts op i) : tensorL k p n (envR k p n ts op i).l (envR k p n ts op i).d (envR k p n ts op i).x ∧ (envR k p n ts op i).l = envOp ts op i ∧ (envR k p n ts op i).d = (envR k p n ts op i).l.map (dimOf ts) := by
  have e : envR k p n ts op i = conT k p n (envTs k p n ts i) (envOp ts op i) (plainL ts.length) := by rw [envR, envB_true.2 h]; rfl
  have ht := h.2.2.ten; have hd := h.2.2.dims; rw [e]; have hi : i.toNat < ts.length := by have := h.2.1; omega
  have hj : ts[i.toNat]? = some (ts.getD i.toNat noTen) := by simp [List.getD, hi]
  refine ⟨ht.1, ht.2, ?_⟩; rw [hd, ht.2]; exact List.map_congr_left fun x _ => dimOf_set (u := onesT k p n (ts.getD i.toNat noTen)) hj rfl rfl x
theorem crP.perm (h : crP k p n ts op i u) : PermOK k p n (pairR k p n u (envR k p n ts op i) op) op := by
  obtain ⟨h1, h2, _⟩ := pair_ten h.2.2; have he := h.2.1.ten; have hn := (net_open h.1.1).1; have hk : ∀ x, x ∈ (pairR k p n u (envR k p n ts op i) op).l ↔ x ∈ op := fun x => by
    rw [h2, mem_keep]; exact ⟨fun h => h.2, fun h => ⟨.inr (by rw [he.2.1]; exact mem_joinI.2 (.inl h)), h⟩⟩
  exact ⟨h1.1, h1, perm_of hn (fun x hx => (hk x).2 hx) (pigeon (axes_nodup (ten_axes h1)) fun x hx => (hk x).1 hx)⟩
end
end Go.Proofs.YtmddmahaikineaaGreat
namespace Go.Proofs.YtmddmahaikineaaGreat
set_option maxRecDepth 100000
open Go.RowKit

section
variable {P : Program} {n : Nat} {w0 : World} {K : Env} {HS : List PH} {d : Option Tmp} {ty : TypeId} {ps : String} {af : Array Edge} {g : Option (Nat × Bool)}
/-- 'append(ts, t)', tensors. -/
theorem m_appT {t e' : TypeId} {x y : Operand} {z : Value} {m : Nat} {a b c v u : Value} {vs : List Value} {h hy' : PH} (p q : Nat) (ht : P.underlying t = some (.slice e')) (he : TyF P e' z 3 72 true) (hz : z.cells = nil3.toArray)
    (hx : ev K x = some v) (hy : ev K y = some u) (hp' : HS[p]? = some h) (r : RowO e' vs m 3 v h) (hq : HS[q]? = some hy') (ru : RowO e' [a, b, c] 1 3 u hy') (h1 : ∀ x ∈ [a, b, c], x.oneCell' = true) (hm : m ≤ 1000) :
    StepX P n w0 K HS ⟨d, .call ⟨.builtin .append, #[x, y], #[t, t]⟩, ty, ps, af, g⟩ h (RowO e' (vs ++ [a, b, c]) (m + 1) 3) :=
  m_append p q ht he hz rfl (by decide) hx hy hp' r hq ru.toR h1 (by unfold maxLen; omega) (by omega)
end
theorem NetO.none : NetO [] [] (.slice none 0 0) (.slice none 0 0) emp :=
  ⟨[], emp, emp, [], ⟨rfl, .inl ⟨rfl, rfl, rfl⟩⟩, IntsO.nil, OwnL.nil, ⟨⟨fun x hx => PDj.emp _, fun x hx => PDj.emp _, trivial⟩, fun x hx => by simp at hx; subst hx; exact PLe.emp _, fun k o e => by cases e⟩⟩
def bitsL (k p n : Int) (t : Ten) (m : Nat) : List Int := (List.range m).map fun (i : Nat) => if elt t.x (widthI k n) i = zeroL k p n then 0 else 1
theorem bits_step (k p n : Int) (t : Ten) (m : Nat) : bitsL k p n t (m + 1) = bitsL k p n t m ++ [if elt t.x (widthI k n) m = zeroL k p n then 0 else 1] := by simp [bitsL, List.range_succ]
def suppT (k p n : Int) (t : Ten) : Ten := ⟨t.l, t.d, bitsL k p n t (prodI t.d).toNat⟩
def suppTs (k p n : Int) (ts : List Ten) : List Ten := ts.map (suppT k p n)
def SuppR (k p n : Int) (ts : List Ten) (op : List Int) (u : Value) (h : PH) : Prop :=
  (netL k p n ts op → ∃ vt vo, u = netV 3 1000000 0 vt vo ∧ NetO (suppTs k p n ts) op vt vo h) ∧ (¬ netL k p n ts op → u = netV 0 0 0 (.slice none 0 0) (.slice none 0 0) ∧ NetO [] [] (.slice none 0 0) (.slice none 0 0) h)
theorem ten_facts {k p n : Int} {t : Ten} (h : tensorL k p n t.l t.d t.x) : dimsIn t.d ∧ 1 ≤ prodI t.d ∧ prodI t.d ≤ 4096 ∧ (t.x.length : Int) = prodI t.d * widthI k n ∧ t.l.length ≤ 12 ∧ t.d.length ≤ 12 := by
  have h1 := sizeI_ge.1 h.2.1; have h2 := sizeI_yes h1.1 h1.2; have h3 := sizeI_range t.l t.d; have h4 := h.2.2.1; have h5 := h.2.1; rw [h2] at h3 h4 h5; exact ⟨axes_dims h1.1, by omega, h1.2, h4, h1.1.1, by have := h1.1.2.1; have := h1.1.1; omega⟩
theorem elt_in {s wd j l : Int} (hs : j < s) (hw : 1 ≤ wd) (hl : l = s * wd) : j * wd + wd ≤ l := by
  have h1 : (j + 1) * wd ≤ s * wd := Int.mul_le_mul_of_nonneg_right (by omega) (by omega); rw [Int.add_mul, Int.one_mul] at h1
  omega
theorem size_in {s wd l : Int} (hs : 1 ≤ s ∧ s ≤ 4096) (hw : 1 ≤ wd ∧ wd ≤ 6) (hl : l = s * wd) : l ≤ 24576 := by
  have : s * wd ≤ 4096 * 6 := Int.mul_le_mul hs.2 hw.2 (by omega) (by omega)
  omega
set_option maxHeartbeats 2000000 in
theorem ct_s_SupportNetwork (k p n : Int) (ts : List Ten) (op : List Int) (vt vo : Value) (w : World) (r : TensR ts vt (hp w)) (r' : IntsR op vo (hp w)) (hs : op.length ≤ 1048576) :
    Calls Tryz.prog 103 [netV k p n vt vo].toArray w (Ret w emp (SuppR k p n ts op)) := by
  have hx := r.le; obtain ⟨cells, rr, hc⟩ := r.at; refine calls_in Tryz.func103 rfl Tryz.ntmps103 rfl (Sat.start w) (wp_sc (wp_sq ?_)); refine sq_x rfl (x_box rfl rfl) rfl ?_; rintro _ _ ⟨b1, rfl, rfl⟩; refine sq_x rfl (x_alloc ty_32 rfl) rfl ?_; rintro _ _ ⟨b2, rfl, rfl⟩; refine sq_end (qs_n (wp_sc (wp_sc (wp_sq (sq_v rfl (v_loadNB 1 ty_32 rfl rfl rfl rfl) rfl (sq_u rfl (x_callv rfl en_52 (fun w s => ct_s_NetworkOk _ _ _ _ _ _ _ w (r.mono (s.get 2 rfl)) (r'.mono (s.get 2 rfl)) hs)) rfl (sq_v rfl (v_not rfl) rfl (sq_end (qs_n ?_))))))))); refine wp_cn _ rfl (fun c11 => ?_) (fun c11 => ?_)
  · refine wp_sc (wp_sq (sq_v rfl (v_build [num 0, num 0, num 0, .slice none 0 0, .slice none 0 0] rfl (by kernel_rfl)) rfl ?_)); refine sq_m 0 rfl rfl (m_store 0 ty_32 rfl rfl rfl rfl (by simp [Value.oneCell']) rfl (Nat.le_of_ble_eq_true rfl)) rfl ?_; rintro _ _ ⟨rfl, rfl⟩; refine sq_end (qs_n (wp_rt (qs_r ?_))); exact qs_retc 0 rfl ty_32 rfl rfl rfl (fin_e (i := 2) rfl ⟨fun h => absurd h (netB_false.1 c11), fun _ => ⟨rfl, NetO.none⟩⟩)
  · refine wp_sk (qs_n (wp_sc (wp_sq (sq_v rfl (v_build [num 3, num 1000000, num 0] rfl (by kernel_rfl)) rfl (sq_v rfl (v_fieldAddr fd_32_2 ty_25 (by decide) rfl) rfl (sq_v rfl (v_loadB 1 ty_25 rfl rfl rfl) rfl ?_)))))); have hnet := netB_true.1 c11; have hring := hnet.1; have hwd := width_range hring; refine sq_x rfl (x_call rfl en_107 (fun w s => ct_s_l05Ints _ _ w (r'.mono (s.get 2 rfl)) (by omega))) rfl ?_; rintro v16 h16 r16; refine sq_v rfl (v_build [num 3, num 1000000, num 0, .slice none 0 0, v16] rfl (by obtain ⟨_, _, rfl⟩ := r16.toR.sl; kernel_rfl)) rfl ?_; refine sq_x rfl (x_alloc ty_32 rfl) rfl ?_; rintro _ _ ⟨b3, rfl, rfl⟩; refine sq_m 0 rfl rfl (m_store 0 ty_32 rfl rfl rfl rfl (by simp [one_int, r16.toR.sl.one, one_sl]) rfl (Nat.le_of_ble_eq_true rfl)) rfl ?_; rintro _ _ ⟨rfl, rfl⟩; refine sq_end (qs_n (wp_sc (wp_sc (wp_sq (sq_v rfl (v_fieldAddr fd_32_1 ty_30 (by decide) rfl) rfl (sq_v rfl (v_loadB 3 ty_30 rfl rfl rfl) rfl (sq_v rfl (v_len Tryz.underlying30 rfl r.sl) rfl (sq_v rfl (v_move rfl) rfl (sq_end (qs_n (wp_bl (wp_lp (fun s : Nat × Value × PH × List Value × List PH => [(1, .pointer (some ⟨b1, 0, none⟩)), (2, .pointer (some ⟨b2, 0, none⟩)), (3, .pointer (some ⟨b3, 0, none⟩)), (19, vt), (20, num ts.length), (21, num s.1)]) (fun s => box b3 [num 3, num 1000000, num 0, s.2.1, v16] 32 :: s.2.2.1 :: h16 :: box b2 [num 0, num 0, num 0, .slice none 0 0, .slice none 0 0] 32 :: box b1 [num k, num p, num n, vt, vo] 32 :: hp w :: s.2.2.2.2) (fun s => s.1 ≤ ts.length ∧ RowO 39 s.2.2.2.1 s.1 3 s.2.1 s.2.2.1 ∧ OwnL (flat (suppTs k p n (ts.take s.1))) s.2.2.2.1 s.2.2.2.2) (fun s => ts.length - s.1) (0, .slice none 0 0, emp, [], []) ⟨by omega, ⟨rfl, .inl ⟨rfl, rfl, rfl⟩⟩, OwnL.nil⟩ ⟨rfl, rfl, rfl, rfl, rfl, rfl, trivial⟩ (fun _ s => Sat.pick (emp_sat s) [1, 0, 2, 3, 4, 5] (by decide) rfl) ?_)))))))))))); rintro ⟨i, vx, h0, vs, hs'⟩ ⟨hi, r0, ow⟩; dsimp only at hi r0 ow ⊢; refine wp_sc (wp_sq (sq_v rfl (v_lss rfl rfl) rfl (sq_end (qs_n (wp_sc ?_))))); refine wp_cd rfl (fun c22 => ?_) (fun c22 => ?_)
    · refine wp_sk (qs_n (wp_sc (wp_bl (wp_sc (wp_sq ?_))))); obtain ⟨t, a, b, c, ht, hcs, r1, r2, r3⟩ := hc i (by omega); have hten := hnet.2.2.1 t (List.mem_of_getElem? ht); obtain ⟨hdm, hp1, hp2, hxl, hll, hdl⟩ := ten_facts hten; have hxs := size_in ⟨hp1, hp2⟩ hwd hxl; have hts := hnet.2.1; refine sq_v rfl (v_indexAddr Tryz.underlying30 ty_39 rfl rfl rr (by decide) (by omega) (by omega)) rfl ?_; refine sq_v rfl (v_loadNE 5 ty_39 rfl rfl rr (by have := rr.1; omega) rfl hcs) rfl ?_; refine sq_x rfl (x_alloc ty_39 rfl) rfl ?_; rintro _ _ ⟨b5, rfl, rfl⟩; refine sq_m 0 rfl rfl (m_store 0 ty_39 rfl rfl rfl rfl (by simp [r1.sl.one, r2.sl.one, r3.sl.one]) rfl (Nat.le_of_ble_eq_true rfl)) rfl ?_; rintro _ _ ⟨rfl, rfl⟩; refine sq_end (qs_n (wp_sc ?_)); refine wp_ra 8 (σ := Value × PH × Value × PH × Nat) (fun s => IntsO t.l s.1 s.2.1 ∧ IntsO t.d s.2.2.1 s.2.2.2.1) (fun s => [(1, .pointer (some ⟨b1, 0, none⟩)), (2, .pointer (some ⟨b2, 0, none⟩)), (3, .pointer (some ⟨b3, 0, none⟩)), (5, .pointer (some ⟨b5, 0, none⟩)), (6, .pointer (some ⟨s.2.2.2.2, 0, none⟩)), (19, vt), (20, num ts.length), (21, num i)]) (fun s => box s.2.2.2.2 [s.1, s.2.2.1, .slice none 0 0] 39 :: s.2.1 :: s.2.2.2.1 :: box b5 [a, b, c] 39 :: box b3 [num 3, num 1000000, num 0, vx, v16] 32 :: h0 :: h16 :: box b2 [num 0, num 0, num 0, .slice none 0 0, .slice none 0 0] 32 :: box b1 [num k, num p, num n, vt, vo] 32 :: hp w :: hs') mixed_ok (by kernel_rfl) ?_ ?_
      · refine ra_v (i := 0) (by kernel_rfl) rfl rfl (v_fieldAddr fd_39_0 ty_25 (by decide) rfl) rfl (ra_v (i := 1) (by kernel_rfl) rfl rfl (v_loadB 0 ty_25 rfl rfl rfl) rfl (ra_v (i := 3) (by kernel_rfl) rfl rfl (v_fieldAddr fd_39_1 ty_25 (by decide) rfl) rfl (ra_v (i := 4) (by kernel_rfl) rfl rfl (v_loadB 0 ty_25 rfl rfl rfl) rfl ?_))); refine ra_2 (i := 2) (j := 7) (by kernel_rfl) ?_ ?_
        · refine ro_x rfl rfl (x_call rfl en_107 (fun w s => ct_s_l05Ints _ _ w (r1.mono (s.get 6 rfl)) (by omega))) rfl ?_; rintro v27 h27 r27; refine ra_2 (i := 5) (j := 7) (by kernel_rfl) ?_ ?_
          · refine ro_x rfl rfl (x_call rfl en_107 (fun w s => ct_s_l05Ints _ _ w (r2.mono (s.get 7 rfl)) (by omega))) rfl ?_; rintro v30 h30 r30; refine ra_rj [(6, true), (7, false), (8, false)] (by kernel_rfl) rfl ?_; refine rj_v rfl rfl (v_build [v27, v30, .slice none 0 0] rfl (by obtain ⟨_, _, rfl⟩ := r27.toR.sl; obtain ⟨_, _, rfl⟩ := r30.toR.sl; kernel_rfl)) rfl ?_; refine rj_x rfl rfl (x_alloc ty_39 rfl) rfl ?_; rintro _ _ ⟨b6, rfl, rfl⟩; refine rj_m 0 rfl rfl rfl rfl (m_store 0 ty_39 rfl rfl rfl rfl (by simp [r27.toR.sl.one, r30.toR.sl.one, one_sl]) rfl (Nat.le_of_ble_eq_true rfl)) rfl ?_; rintro _ _ ⟨rfl, rfl⟩; refine rj_end ?_; exact qs_mid (v27, h27, v30, h30, b6) ⟨r27, r30⟩ ⟨rfl, rfl, rfl, rfl, rfl, rfl, rfl, rfl, trivial⟩ (fun _ s => s.pickF 10 [0, 2, 1, 3, 4, 5, 6, 7, 8, 9] (by decide) rfl rfl)
          · refine ro_x rfl rfl (x_alloc ty_39 rfl) rfl ?_; rintro _ _ ⟨b6, rfl, rfl⟩; refine ra_rj [(5, false), (6, true), (8, false)] (by kernel_rfl) rfl ?_; refine rj_x rfl rfl (x_call rfl en_107 (fun w s => ct_s_l05Ints _ _ w (r2.mono (s.get 8 rfl)) (by omega))) rfl ?_; rintro v30 h30 r30; refine rj_v rfl rfl (v_build [v27, v30, .slice none 0 0] rfl (by obtain ⟨_, _, rfl⟩ := r27.toR.sl; obtain ⟨_, _, rfl⟩ := r30.toR.sl; kernel_rfl)) rfl ?_; refine rj_m 1 rfl rfl rfl rfl (m_store 1 ty_39 rfl rfl rfl rfl (by simp [r27.toR.sl.one, r30.toR.sl.one, one_sl]) rfl (Nat.le_of_ble_eq_true rfl)) rfl ?_; rintro _ _ ⟨rfl, rfl⟩; refine rj_end ?_; exact qs_mid (v27, h27, v30, h30, b6) ⟨r27, r30⟩ ⟨rfl, rfl, rfl, rfl, rfl, rfl, rfl, rfl, trivial⟩ (fun _ s => s.pickF 10 [1, 2, 0, 3, 4, 5, 6, 7, 8, 9] (by decide) rfl rfl)
        · refine ro_x rfl rfl (x_alloc ty_39 rfl) rfl ?_; rintro _ _ ⟨b6, rfl, rfl⟩; refine ra_rj [(2, false), (5, false), (6, true), (8, false)] (by kernel_rfl) rfl ?_; refine rj_x rfl rfl (x_call rfl en_107 (fun w s => ct_s_l05Ints _ _ w (r1.mono (s.get 7 rfl)) (by omega))) rfl ?_; rintro v27 h27 r27; refine rj_x rfl rfl (x_call rfl en_107 (fun w s => ct_s_l05Ints _ _ w (r2.mono (s.get 8 rfl)) (by omega))) rfl ?_; rintro v30 h30 r30; refine rj_v rfl rfl (v_build [v27, v30, .slice none 0 0] rfl (by obtain ⟨_, _, rfl⟩ := r27.toR.sl; obtain ⟨_, _, rfl⟩ := r30.toR.sl; kernel_rfl)) rfl ?_; refine rj_m 2 rfl rfl rfl rfl (m_store 2 ty_39 rfl rfl rfl rfl (by simp [r27.toR.sl.one, r30.toR.sl.one, one_sl]) rfl (Nat.le_of_ble_eq_true rfl)) rfl ?_; rintro _ _ ⟨rfl, rfl⟩; refine rj_end ?_; exact qs_mid (v27, h27, v30, h30, b6) ⟨r27, r30⟩ ⟨rfl, rfl, rfl, rfl, rfl, rfl, rfl, rfl, trivial⟩ (fun _ s => s.pickF 10 [2, 1, 0, 3, 4, 5, 6, 7, 8, 9] (by decide) rfl rfl)
      · rintro ⟨v27, h27, v30, h30, b6⟩ ⟨r27, r30⟩; dsimp only at r27 r30 ⊢; refine qs_n (wp_sc (wp_sc (wp_sq (sq_v rfl (v_assign rfl) rfl (sq_end (qs_n (wp_bl ?_))))))); refine wp_lp (fun s : Nat × Value × PH => [(1, .pointer (some ⟨b1, 0, none⟩)), (2, .pointer (some ⟨b2, 0, none⟩)), (3, .pointer (some ⟨b3, 0, none⟩)), (5, .pointer (some ⟨b5, 0, none⟩)), (6, .pointer (some ⟨b6, 0, none⟩)), (7, num s.1), (19, vt), (20, num ts.length), (21, num i)]) (fun s => box b6 [v27, v30, s.2.1] 39 :: s.2.2 :: h27 :: h30 :: box b5 [a, b, c] 39 :: box b3 [num 3, num 1000000, num 0, vx, v16] 32 :: h0 :: h16 :: box b2 [num 0, num 0, num 0, .slice none 0 0, .slice none 0 0] 32 :: box b1 [num k, num p, num n, vt, vo] 32 :: hp w :: hs') (fun s => (s.1 : Int) ≤ prodI t.d ∧ IntsO (bitsL k p n t s.1) s.2.1 s.2.2) (fun s => (prodI t.d).toNat - s.1) (0, .slice none 0 0, emp) ⟨by simp only; omega, IntsO.nil⟩ ⟨rfl, rfl, rfl, rfl, rfl, rfl, rfl, rfl, rfl, trivial⟩ (fun _ s => (emp_sat s).pickF 11 [1, 0, 2, 3, 4, 5, 6, 7, 8, 9, 10] (by decide) rfl rfl) ?_; rintro ⟨j, vd, hd⟩ ⟨hj, rd⟩; dsimp only at hj rd ⊢; have hbl : (bitsL k p n t j).length = j := by simp [bitsL]
        refine wp_sc (wp_sc (wp_sq (sq_v rfl (v_move rfl) rfl (sq_v rfl (v_fieldAddr fd_39_1 ty_25 (by decide) rfl) rfl (sq_v rfl (v_loadB 4 ty_25 rfl rfl rfl) rfl (sq_u rfl (x_callv rfl en_172 (fun w s => ct_s_l05Product _ _ _ w (r2.mono (s.get 10 rfl)) hdm (by omega))) rfl (sq_v rfl (v_lss rfl rfl) rfl (sq_end (qs_n ?_))))))))); refine wp_cd rfl (fun c36 => ?_) (fun c36 => ?_)
        · refine wp_sk (qs_n (wp_sc (wp_bl (wp_sc (wp_sq (sq_v rfl (v_assign rfl) rfl (sq_end (qs_n (wp_sc (wp_sc (wp_rj 9 [(0, true), (1, true), (2, true), (3, true), (5, true), (6, true), (4, false), (7, false), (8, false)] mixed_ok (by kernel_rfl) (rj_v rfl rfl (v_fieldAddr fd_32_0 ty_29 (by decide) rfl) rfl (rj_v rfl rfl (v_loadNB 9 ty_29 rfl rfl rfl rfl) rfl (rj_v rfl rfl (v_loadNB 4 ty_39 rfl rfl rfl rfl) rfl (rj_v rfl rfl (v_move rfl) rfl (rj_v rfl rfl (v_fieldAddr fd_32_0 ty_29 (by decide) rfl) rfl (rj_v rfl rfl (v_loadNB 9 ty_29 rfl rfl rfl rfl) rfl ?_))))))))))))))))); refine rj_x rfl rfl (x_call rfl en_174 (fun w s => ct_s_l05Get _ _ _ _ _ _ _ _ w hring (r3.mono (s.get 10 rfl)) (by omega) (elt_in (by omega) hwd.1 hxl) (by omega))) rfl ?_; rintro v43 h43 r43; refine rj_x rfl rfl (x_call rfl en_198 (fun w s => ct_s_l02Zero _ _ _ w hring)) rfl ?_; rintro v46 h46 r46; refine rj_u rfl rfl (x_callv rfl en_114 (fun w s => ct_s_l06Equal _ _ _ _ w (r43.toR.mono (s.get 1 rfl)) (r46.toR.mono (s.get 0 rfl)))) rfl (rj_end (qs_n ?_)); refine wp_cd rfl (fun c47 => ?_) (fun c47 => ?_)
          · refine wp_sq (sq_v rfl (v_assign rfl) rfl (sq_end (qs_n (wp_sq (sq_v rfl (v_fieldAddr fd_39_2 ty_25 (by decide) rfl) rfl (sq_v rfl (v_loadB 2 ty_25 rfl rfl rfl) rfl (sq_v rfl (v_move rfl) rfl ?_))))))); refine sq_x rfl (x_buildS [num (_)] Tryz.underlying25 ty_3 (by decide) rfl rfl rfl (by decide) (by decide) (by intro v hv; simp at hv; rcases hv with rfl <;> rfl)) rfl ?_; intro v51 h51 (r51 : IntsO [_] v51 h51); refine sq_m 4 rfl rfl (m_appI 4 0 Tryz.underlying25 ty_3 rfl rfl rfl rfl rd rfl r51.toR (by simp; omega)) rfl ?_; intro v52 h_r52 r52; refine sq_v rfl (v_fieldAddr fd_39_2 ty_25 (by decide) rfl) rfl ?_; refine sq_m 3 rfl rfl (m_store1 3 ty_25 rfl rfl r52.toR.sl.one rfl (Nat.le_of_ble_eq_true rfl)) rfl ?_; rintro _ _ ⟨rfl, rfl⟩; refine sq_end (qs_bn (qs_n (wp_sq (sq_v rfl (v_move rfl) rfl ?_)))); refine sq_v rfl (v_add rfl rfl ((by unfold I64; omega))) rfl ?_; refine sq_v rfl (v_assign rfl) rfl (sq_end ?_); exact qs_bk (j + 1, v52, h_r52) ⟨by simp only; omega, by simp only; rw [bits_step, if_pos c47]; exact r52⟩ (by simp only; omega) ⟨rfl, rfl, rfl, rfl, rfl, rfl, rfl, rfl, rfl, trivial⟩ (fun _ s => s.pickF 14 [3, 4, 5, 6, 7, 8, 9, 10, 11, 12, 13] (by decide) rfl rfl)
          · refine wp_sk (qs_n (wp_sq (sq_v rfl (v_fieldAddr fd_39_2 ty_25 (by decide) rfl) rfl (sq_v rfl (v_loadB 2 ty_25 rfl rfl rfl) rfl (sq_v rfl (v_move rfl) rfl ?_))))); refine sq_x rfl (x_buildS [num (_)] Tryz.underlying25 ty_3 (by decide) rfl rfl rfl (by decide) (by decide) (by intro v hv; simp at hv; rcases hv with rfl <;> rfl)) rfl ?_; intro v51 h51 (r51 : IntsO [_] v51 h51); refine sq_m 4 rfl rfl (m_appI 4 0 Tryz.underlying25 ty_3 rfl rfl rfl rfl rd rfl r51.toR (by simp; omega)) rfl ?_; intro v52 h_r52 r52; refine sq_v rfl (v_fieldAddr fd_39_2 ty_25 (by decide) rfl) rfl ?_; refine sq_m 3 rfl rfl (m_store1 3 ty_25 rfl rfl r52.toR.sl.one rfl (Nat.le_of_ble_eq_true rfl)) rfl ?_; rintro _ _ ⟨rfl, rfl⟩; refine sq_end (qs_bn (qs_n (wp_sq (sq_v rfl (v_move rfl) rfl ?_)))); refine sq_v rfl (v_add rfl rfl ((by unfold I64; omega))) rfl ?_; refine sq_v rfl (v_assign rfl) rfl (sq_end ?_); exact qs_bk (j + 1, v52, h_r52) ⟨by simp only; omega, by simp only; rw [bits_step, if_neg c47]; exact r52⟩ (by simp only; omega) ⟨rfl, rfl, rfl, rfl, rfl, rfl, rfl, rfl, rfl, trivial⟩ (fun _ s => s.pickF 14 [3, 4, 5, 6, 7, 8, 9, 10, 11, 12, 13] (by decide) rfl rfl)
        · refine wp_ex (qs_x (qs_x (qs_bx (qs_n (wp_sq (sq_v rfl (v_fieldAddr fd_32_1 ty_30 (by decide) rfl) rfl (sq_v rfl (v_loadB 5 ty_30 rfl rfl rfl) rfl (sq_v rfl (v_loadNB 0 ty_39 rfl rfl rfl rfl) rfl ?_)))))))); refine sq_x rfl (x_buildS [tenV v27 v30 vd] Tryz.underlying30 ty_39 (by decide) rfl rfl rfl (by decide) (by decide) (by intro v hv; simp at hv; subst hv; rfl)) rfl ?_; intro v57 h57 r57; refine sq_m 7 rfl rfl (m_appT (a := v27) (b := v30) (c := vd) 7 0 Tryz.underlying30 ty_39 rfl rfl rfl rfl r0 rfl r57 (by simp [r27.toR.sl.one, r30.toR.sl.one, rd.toR.sl.one]) (by omega)) rfl ?_; intro v58 h58 r58; refine sq_v rfl (v_fieldAddr fd_32_1 ty_30 (by decide) rfl) rfl ?_; refine sq_m 6 rfl rfl (m_store1 6 ty_30 rfl rfl r58.toR.sl.one rfl (Nat.le_of_ble_eq_true rfl)) rfl ?_; rintro _ _ ⟨rfl, rfl⟩; refine sq_end (qs_bn (qs_n (wp_sq ?_))); refine sq_v rfl (v_add rfl rfl ((by unfold I64; omega))) rfl ?_; refine sq_v rfl (v_move rfl) rfl (sq_end ?_); have hjj : j = (prodI t.d).toNat := by omega
          subst hjj; refine qs_bk (i + 1, v58, h58, vs ++ [v27, v30, vd], hs' ++ [h27, h30, hd]) ⟨by simp only; omega, r58, ?_⟩ (by simp only; omega) ⟨rfl, rfl, rfl, rfl, rfl, rfl, trivial⟩ (fun _ s => Sat.toEnd [h27, h30, hd] [_, h58, h16, _, _, hp w] (s.pickF 12 [3, 4, 2, 6, 7, 8, 9, 10, 11] (by decide) rfl rfl))
          simp only
          rw [take_ten ht, suppTs, List.map_append, flat_append]; exact ow.append (OwnL.three r27 r30 rd)
    · refine wp_ex (qs_x (qs_x (qs_bx (qs_n (wp_sc (wp_sq (sq_v rfl (v_loadNB 0 ty_32 rfl rfl rfl rfl) rfl ?_))))))); refine sq_m 3 rfl rfl (m_store 3 ty_32 rfl rfl rfl rfl (by simp [one_int, r16.toR.sl.one, r0.toR.sl.one]) rfl (Nat.le_of_ble_eq_true rfl)) rfl ?_; rintro _ _ ⟨rfl, rfl⟩; refine sq_end (qs_n (wp_rt ?_)); have e : i = ts.length := by omega
      subst e; rw [List.take_length] at ow; refine qs_close [box b2 _ _, hp w] (h0 :: h16 :: hs') (fun _ s => s.pickF 6 [3, 5, 1, 2] (by decide) rfl rfl) (fun md => ?_); exact qs_retc 1 rfl ty_32 rfl rfl rfl (fin_t 0 (i := 2) rfl rfl rfl ⟨fun _ => ⟨_, _, rfl, vs, h0, h16, hs', by simpa [suppTs] using r0, r16, ow, md⟩, fun h => absurd hnet h⟩)
theorem bit_not {q : Prop} [Decidable q] : (if (!decide q) = true then (1 : Int) else 0) = if q then 0 else 1 := by by_cases h : q <;> simp [h]
set_option maxHeartbeats 2000000 in
theorem ct_i_SupportNetwork (k p n : Int) (ts : List Ten) (op : List Int) (vt vo : Value) (w : World) (r : TensR ts vt (hp w)) (r' : IntsR op vo (hp w)) (hs : op.length ≤ 1048576) :
    Calls Tryz.prog 116 [netV k p n vt vo].toArray w (Ret w emp (SuppR k p n ts op)) := by
  have hx := r.le; obtain ⟨cells, rr, hc⟩ := r.at; refine calls_in Tryz.func116 rfl Tryz.ntmps116 rfl (Sat.start w) (wp_sc (wp_sq ?_)); refine sq_x rfl (x_box rfl rfl) rfl ?_; rintro _ _ ⟨b1, rfl, rfl⟩; refine sq_x rfl (x_alloc ty_32 rfl) rfl ?_; rintro _ _ ⟨b2, rfl, rfl⟩; refine sq_end (qs_n (wp_sc (wp_sc (wp_sq (sq_v rfl (v_loadNB 1 ty_32 rfl rfl rfl rfl) rfl (sq_u rfl (x_callv rfl en_60 (fun w s => ct_i_NetworkOk _ _ _ _ _ _ _ w (r.mono (s.get 2 rfl)) (r'.mono (s.get 2 rfl)) hs)) rfl (sq_v rfl (v_not rfl) rfl (sq_end (qs_n ?_))))))))); refine wp_cn _ rfl (fun c11 => ?_) (fun c11 => ?_)
  · refine wp_sc (wp_sq (sq_v rfl (v_build [num 0, num 0, num 0, .slice none 0 0, .slice none 0 0] rfl (by kernel_rfl)) rfl ?_)); refine sq_m 0 rfl rfl (m_store 0 ty_32 rfl rfl rfl rfl (by simp [Value.oneCell']) rfl (Nat.le_of_ble_eq_true rfl)) rfl ?_; rintro _ _ ⟨rfl, rfl⟩; refine sq_end (qs_n (wp_rt (qs_r ?_))); exact qs_retc 0 rfl ty_32 rfl rfl rfl (fin_e (i := 2) rfl ⟨fun h => absurd h (netB_false.1 c11), fun _ => ⟨rfl, NetO.none⟩⟩)
  · refine wp_sk (qs_n (wp_sc (wp_sq (sq_v rfl (v_fieldAddr fd_32_0 ty_29 (by decide) rfl) rfl (sq_v rfl (v_loadNB 1 ty_29 rfl rfl rfl rfl) rfl ?_))))); have hnet := netB_true.1 c11; have hring := hnet.1; have hwd := width_range hring; refine sq_x rfl (x_call rfl en_187 (fun w s => ct_i_rawZero _ _ _ w hring)) rfl ?_; rintro v15 h15 r15; refine sq_v rfl (v_assign rfl) rfl (sq_end (qs_n (wp_sc (wp_sq (sq_v rfl (v_build [num 3, num 1000000, num 0] rfl (by kernel_rfl)) rfl (sq_v rfl (v_fieldAddr fd_32_2 ty_25 (by decide) rfl) rfl (sq_v rfl (v_loadB 2 ty_25 rfl rfl rfl) rfl ?_))))))); refine sq_x rfl (x_call rfl en_148 (fun w s => ct_i_copyInts _ _ w (r'.mono (s.get 3 rfl)) (by omega))) rfl ?_; rintro v19 h19 r19; refine sq_v rfl (v_build [num 3, num 1000000, num 0, .slice none 0 0, v19] rfl (by obtain ⟨_, _, rfl⟩ := r19.toR.sl; kernel_rfl)) rfl ?_; refine sq_x rfl (x_alloc ty_32 rfl) rfl ?_; rintro _ _ ⟨b4, rfl, rfl⟩; refine sq_m 0 rfl rfl (m_store 0 ty_32 rfl rfl rfl rfl (by simp [one_int, r19.toR.sl.one, one_sl]) rfl (Nat.le_of_ble_eq_true rfl)) rfl ?_; rintro _ _ ⟨rfl, rfl⟩; refine sq_end (qs_n (wp_sc (wp_sc (wp_sq (sq_v rfl (v_fieldAddr fd_32_1 ty_30 (by decide) rfl) rfl (sq_v rfl (v_loadB 4 ty_30 rfl rfl rfl) rfl (sq_v rfl (v_len Tryz.underlying30 rfl r.sl) rfl (sq_v rfl (v_move rfl) rfl (sq_end (qs_n (wp_bl (wp_lp (fun s : Nat × Value × PH × List Value × List PH => [(1, .pointer (some ⟨b1, 0, none⟩)), (2, .pointer (some ⟨b2, 0, none⟩)), (3, v15), (4, .pointer (some ⟨b4, 0, none⟩)), (22, vt), (23, num ts.length), (24, num s.1)]) (fun s => box b4 [num 3, num 1000000, num 0, s.2.1, v19] 32 :: s.2.2.1 :: h19 :: h15 :: box b2 [num 0, num 0, num 0, .slice none 0 0, .slice none 0 0] 32 :: box b1 [num k, num p, num n, vt, vo] 32 :: hp w :: s.2.2.2.2) (fun s => s.1 ≤ ts.length ∧ RowO 39 s.2.2.2.1 s.1 3 s.2.1 s.2.2.1 ∧ OwnL (flat (suppTs k p n (ts.take s.1))) s.2.2.2.1 s.2.2.2.2) (fun s => ts.length - s.1) (0, .slice none 0 0, emp, [], []) ⟨by omega, ⟨rfl, .inl ⟨rfl, rfl, rfl⟩⟩, OwnL.nil⟩ ⟨rfl, rfl, rfl, rfl, rfl, rfl, rfl, trivial⟩ (fun _ s => Sat.pick (emp_sat s) [1, 0, 2, 3, 4, 5, 6] (by decide) rfl) ?_)))))))))))); rintro ⟨i, vx, h0, vs, hs'⟩ ⟨hi, r0, ow⟩; dsimp only at hi r0 ow ⊢; refine wp_sc (wp_sq (sq_v rfl (v_lss rfl rfl) rfl (sq_end (qs_n (wp_sc ?_))))); refine wp_cd rfl (fun c25 => ?_) (fun c25 => ?_)
    · refine wp_sk (qs_n (wp_sc (wp_bl (wp_sc (wp_sq ?_))))); obtain ⟨t, a, b, c, ht, hcs, r1, r2, r3⟩ := hc i (by omega); have hten := hnet.2.2.1 t (List.mem_of_getElem? ht); obtain ⟨hdm, hp1, hp2, hxl, hll, hdl⟩ := ten_facts hten; have hxs := size_in ⟨hp1, hp2⟩ hwd hxl; have hts := hnet.2.1; refine sq_v rfl (v_indexAddr Tryz.underlying30 ty_39 rfl rfl rr (by decide) (by omega) (by omega)) rfl ?_; refine sq_v rfl (v_loadNE 6 ty_39 rfl rfl rr (by have := rr.1; omega) rfl hcs) rfl ?_; refine sq_x rfl (x_alloc ty_39 rfl) rfl ?_; rintro _ _ ⟨b6, rfl, rfl⟩; refine sq_m 0 rfl rfl (m_store 0 ty_39 rfl rfl rfl rfl (by simp [r1.sl.one, r2.sl.one, r3.sl.one]) rfl (Nat.le_of_ble_eq_true rfl)) rfl ?_; rintro _ _ ⟨rfl, rfl⟩; refine sq_end (qs_n (wp_sc ?_)); refine wp_ra 8 (σ := Value × PH × Value × PH × Nat) (fun s => IntsO t.l s.1 s.2.1 ∧ IntsO t.d s.2.2.1 s.2.2.2.1) (fun s => [(1, .pointer (some ⟨b1, 0, none⟩)), (2, .pointer (some ⟨b2, 0, none⟩)), (3, v15), (4, .pointer (some ⟨b4, 0, none⟩)), (6, .pointer (some ⟨b6, 0, none⟩)), (7, .pointer (some ⟨s.2.2.2.2, 0, none⟩)), (22, vt), (23, num ts.length), (24, num i)]) (fun s => box s.2.2.2.2 [s.1, s.2.2.1, .slice none 0 0] 39 :: s.2.1 :: s.2.2.2.1 :: box b6 [a, b, c] 39 :: box b4 [num 3, num 1000000, num 0, vx, v19] 32 :: h0 :: h19 :: h15 :: box b2 [num 0, num 0, num 0, .slice none 0 0, .slice none 0 0] 32 :: box b1 [num k, num p, num n, vt, vo] 32 :: hp w :: hs') mixed_ok (by kernel_rfl) ?_ ?_
      · refine ra_v (i := 0) (by kernel_rfl) rfl rfl (v_fieldAddr fd_39_0 ty_25 (by decide) rfl) rfl (ra_v (i := 1) (by kernel_rfl) rfl rfl (v_loadB 0 ty_25 rfl rfl rfl) rfl (ra_v (i := 3) (by kernel_rfl) rfl rfl (v_fieldAddr fd_39_1 ty_25 (by decide) rfl) rfl (ra_v (i := 4) (by kernel_rfl) rfl rfl (v_loadB 0 ty_25 rfl rfl rfl) rfl ?_))); refine ra_2 (i := 2) (j := 7) (by kernel_rfl) ?_ ?_
        · refine ro_x rfl rfl (x_call rfl en_148 (fun w s => ct_i_copyInts _ _ w (r1.mono (s.get 7 rfl)) (by omega))) rfl ?_; rintro v30 h30 r30; refine ra_2 (i := 5) (j := 7) (by kernel_rfl) ?_ ?_
          · refine ro_x rfl rfl (x_call rfl en_148 (fun w s => ct_i_copyInts _ _ w (r2.mono (s.get 8 rfl)) (by omega))) rfl ?_; rintro v33 h33 r33; refine ra_rj [(6, true), (7, false), (8, false)] (by kernel_rfl) rfl ?_; refine rj_v rfl rfl (v_build [v30, v33, .slice none 0 0] rfl (by obtain ⟨_, _, rfl⟩ := r30.toR.sl; obtain ⟨_, _, rfl⟩ := r33.toR.sl; kernel_rfl)) rfl ?_; refine rj_x rfl rfl (x_alloc ty_39 rfl) rfl ?_; rintro _ _ ⟨b7, rfl, rfl⟩; refine rj_m 0 rfl rfl rfl rfl (m_store 0 ty_39 rfl rfl rfl rfl (by simp [r30.toR.sl.one, r33.toR.sl.one, one_sl]) rfl (Nat.le_of_ble_eq_true rfl)) rfl ?_; rintro _ _ ⟨rfl, rfl⟩; refine rj_end ?_; exact qs_mid (v30, h30, v33, h33, b7) ⟨r30, r33⟩ ⟨rfl, rfl, rfl, rfl, rfl, rfl, rfl, rfl, rfl, trivial⟩ (fun _ s => s.pickF 11 [0, 2, 1, 3, 4, 5, 6, 7, 8, 9, 10] (by decide) rfl rfl)
          · refine ro_x rfl rfl (x_alloc ty_39 rfl) rfl ?_; rintro _ _ ⟨b7, rfl, rfl⟩; refine ra_rj [(5, false), (6, true), (8, false)] (by kernel_rfl) rfl ?_; refine rj_x rfl rfl (x_call rfl en_148 (fun w s => ct_i_copyInts _ _ w (r2.mono (s.get 9 rfl)) (by omega))) rfl ?_; rintro v33 h33 r33; refine rj_v rfl rfl (v_build [v30, v33, .slice none 0 0] rfl (by obtain ⟨_, _, rfl⟩ := r30.toR.sl; obtain ⟨_, _, rfl⟩ := r33.toR.sl; kernel_rfl)) rfl ?_; refine rj_m 1 rfl rfl rfl rfl (m_store 1 ty_39 rfl rfl rfl rfl (by simp [r30.toR.sl.one, r33.toR.sl.one, one_sl]) rfl (Nat.le_of_ble_eq_true rfl)) rfl ?_; rintro _ _ ⟨rfl, rfl⟩; refine rj_end ?_; exact qs_mid (v30, h30, v33, h33, b7) ⟨r30, r33⟩ ⟨rfl, rfl, rfl, rfl, rfl, rfl, rfl, rfl, rfl, trivial⟩ (fun _ s => s.pickF 11 [1, 2, 0, 3, 4, 5, 6, 7, 8, 9, 10] (by decide) rfl rfl)
        · refine ro_x rfl rfl (x_alloc ty_39 rfl) rfl ?_; rintro _ _ ⟨b7, rfl, rfl⟩; refine ra_rj [(2, false), (5, false), (6, true), (8, false)] (by kernel_rfl) rfl ?_; refine rj_x rfl rfl (x_call rfl en_148 (fun w s => ct_i_copyInts _ _ w (r1.mono (s.get 8 rfl)) (by omega))) rfl ?_; rintro v30 h30 r30; refine rj_x rfl rfl (x_call rfl en_148 (fun w s => ct_i_copyInts _ _ w (r2.mono (s.get 9 rfl)) (by omega))) rfl ?_; rintro v33 h33 r33; refine rj_v rfl rfl (v_build [v30, v33, .slice none 0 0] rfl (by obtain ⟨_, _, rfl⟩ := r30.toR.sl; obtain ⟨_, _, rfl⟩ := r33.toR.sl; kernel_rfl)) rfl ?_; refine rj_m 2 rfl rfl rfl rfl (m_store 2 ty_39 rfl rfl rfl rfl (by simp [r30.toR.sl.one, r33.toR.sl.one, one_sl]) rfl (Nat.le_of_ble_eq_true rfl)) rfl ?_; rintro _ _ ⟨rfl, rfl⟩; refine rj_end ?_; exact qs_mid (v30, h30, v33, h33, b7) ⟨r30, r33⟩ ⟨rfl, rfl, rfl, rfl, rfl, rfl, rfl, rfl, rfl, trivial⟩ (fun _ s => s.pickF 11 [2, 1, 0, 3, 4, 5, 6, 7, 8, 9, 10] (by decide) rfl rfl)
      · rintro ⟨v30, h30, v33, h33, b7⟩ ⟨r30, r33⟩; dsimp only at r30 r33 ⊢; refine qs_n (wp_sc (wp_sc (wp_sq (sq_v rfl (v_assign rfl) rfl (sq_end (qs_n (wp_bl ?_))))))); refine wp_lp (fun s : Nat × Value × PH => [(1, .pointer (some ⟨b1, 0, none⟩)), (2, .pointer (some ⟨b2, 0, none⟩)), (3, v15), (4, .pointer (some ⟨b4, 0, none⟩)), (6, .pointer (some ⟨b6, 0, none⟩)), (7, .pointer (some ⟨b7, 0, none⟩)), (8, num s.1), (22, vt), (23, num ts.length), (24, num i)]) (fun s => box b7 [v30, v33, s.2.1] 39 :: s.2.2 :: h30 :: h33 :: box b6 [a, b, c] 39 :: box b4 [num 3, num 1000000, num 0, vx, v19] 32 :: h0 :: h19 :: h15 :: box b2 [num 0, num 0, num 0, .slice none 0 0, .slice none 0 0] 32 :: box b1 [num k, num p, num n, vt, vo] 32 :: hp w :: hs') (fun s => (s.1 : Int) ≤ prodI t.d ∧ IntsO (bitsL k p n t s.1) s.2.1 s.2.2) (fun s => (prodI t.d).toNat - s.1) (0, .slice none 0 0, emp) ⟨by simp only; omega, IntsO.nil⟩ ⟨rfl, rfl, rfl, rfl, rfl, rfl, rfl, rfl, rfl, rfl, trivial⟩ (fun _ s => (emp_sat s).pickF 12 [1, 0, 2, 3, 4, 5, 6, 7, 8, 9, 10, 11] (by decide) rfl rfl) ?_; rintro ⟨j, vd, hd⟩ ⟨hj, rd⟩; dsimp only at hj rd ⊢; have hbl : (bitsL k p n t j).length = j := by simp [bitsL]
        refine wp_sc (wp_sc (wp_sq (sq_v rfl (v_move rfl) rfl (sq_v rfl (v_fieldAddr fd_39_1 ty_25 (by decide) rfl) rfl (sq_v rfl (v_loadB 4 ty_25 rfl rfl rfl) rfl (sq_u rfl (x_callv rfl en_185 (fun w s => ct_i_productOf _ _ w (r2.mono (s.get 11 rfl)) hdm (by omega))) rfl (sq_v rfl (v_lss rfl rfl) rfl (sq_end (qs_n ?_))))))))); refine wp_cd rfl (fun c39 => ?_) (fun c39 => ?_)
        · refine wp_sk (qs_n (wp_sc (wp_bl (wp_rj 11 [(0, true), (1, true), (2, true), (3, true), (4, true), (5, true), (7, true), (6, false), (8, false), (9, true), (10, false), (11, false), (12, false), (13, false)] mixed_ok (by kernel_rfl) (rj_v rfl rfl (v_fieldAddr fd_39_2 ty_25 (by decide) rfl) rfl (rj_v rfl rfl (v_loadB 0 ty_25 rfl rfl rfl) rfl (rj_v rfl rfl (v_fieldAddr fd_32_0 ty_29 (by decide) rfl) rfl (rj_v rfl rfl (v_loadNB 10 ty_29 rfl rfl rfl rfl) rfl (rj_v rfl rfl (v_loadNB 4 ty_39 rfl rfl rfl rfl) rfl (rj_v rfl rfl (v_move rfl) rfl (rj_v rfl rfl (v_move rfl) rfl ?_))))))))))); have hin := elt_in (j := j) (s := prodI t.d) (by omega) hwd.1 hxl; refine rj_u rfl rfl (x_callv rfl en_191 (fun w s => ct_i_rawElem _ _ _ _ _ _ _ _ w hring (r3.mono (s.get 11 rfl)) (by omega) hin (by omega))) rfl (rj_u rfl rfl (x_callv rfl en_153 (fun w s => ct_i_equalInts _ _ _ _ w ((eltV_read r3 (by omega) (by omega) hin).mono (s.get 11 rfl)) (r15.toR.mono (s.get 8 rfl)))) rfl (rj_v rfl rfl (v_not rfl) rfl ?_)); refine rj_x rfl rfl (x_call rfl en_207 (fun w s => ct_i_bitElem _ w)) rfl ?_; rintro v52 h52 r52; refine rj_m 2 rfl rfl rfl rfl (m_appI 2 0 Tryz.underlying25 ty_3 rfl rfl rfl rfl rd rfl r52.toR (by simp; omega)) rfl ?_; intro v53 h_r53 r53; refine rj_fv rfl rfl (v_fieldAddr fd_39_2 ty_25 (by decide) rfl) rfl ?_; refine rj_m 1 rfl rfl rfl rfl (m_store1 1 ty_25 rfl rfl r53.toR.sl.one rfl (Nat.le_of_ble_eq_true rfl)) rfl ?_; rintro _ _ ⟨rfl, rfl⟩; refine rj_end (qs_bn (qs_n (wp_sq (sq_v rfl (v_move rfl) rfl ?_)))); refine sq_v rfl (v_add rfl rfl ((by unfold I64; omega))) rfl ?_; refine sq_v rfl (v_assign rfl) rfl (sq_end ?_); exact qs_bk (j + 1, v53, h_r53) ⟨by simp only; omega, by simp only; rw [bits_step, ← bit_not]; exact r53⟩ (by simp only; omega) ⟨rfl, rfl, rfl, rfl, rfl, rfl, rfl, rfl, rfl, rfl, trivial⟩ (fun _ s => s.pickF 13 [1, 2, 3, 4, 5, 6, 7, 8, 9, 10, 11, 12] (by decide) rfl rfl)
        · refine wp_ex (qs_x (qs_x (qs_bx (qs_n (wp_sq (sq_v rfl (v_fieldAddr fd_32_1 ty_30 (by decide) rfl) rfl (sq_v rfl (v_loadB 5 ty_30 rfl rfl rfl) rfl (sq_v rfl (v_loadNB 0 ty_39 rfl rfl rfl rfl) rfl ?_)))))))); refine sq_x rfl (x_buildS [tenV v30 v33 vd] Tryz.underlying30 ty_39 (by decide) rfl rfl rfl (by decide) (by decide) (by intro v hv; simp at hv; subst hv; rfl)) rfl ?_; intro v58 h58 r58; refine sq_m 7 rfl rfl (m_appT (a := v30) (b := v33) (c := vd) 7 0 Tryz.underlying30 ty_39 rfl rfl rfl rfl r0 rfl r58 (by simp [r30.toR.sl.one, r33.toR.sl.one, rd.toR.sl.one]) (by omega)) rfl ?_; intro v59 h59 r59; refine sq_v rfl (v_fieldAddr fd_32_1 ty_30 (by decide) rfl) rfl ?_; refine sq_m 6 rfl rfl (m_store1 6 ty_30 rfl rfl r59.toR.sl.one rfl (Nat.le_of_ble_eq_true rfl)) rfl ?_; rintro _ _ ⟨rfl, rfl⟩; refine sq_end (qs_bn (qs_n (wp_sq ?_))); refine sq_v rfl (v_add rfl rfl ((by unfold I64; omega))) rfl ?_; refine sq_v rfl (v_move rfl) rfl (sq_end ?_); have hjj : j = (prodI t.d).toNat := by omega
          subst hjj; refine qs_bk (i + 1, v59, h59, vs ++ [v30, v33, vd], hs' ++ [h30, h33, hd]) ⟨by simp only; omega, r59, ?_⟩ (by simp only; omega) ⟨rfl, rfl, rfl, rfl, rfl, rfl, rfl, trivial⟩ (fun _ s => Sat.toEnd [h30, h33, hd] [_, h59, h19, h15, _, _, hp w] (s.pickF 13 [3, 4, 2, 6, 7, 8, 9, 10, 11, 12] (by decide) rfl rfl))
          simp only
          rw [take_ten ht, suppTs, List.map_append, flat_append]; exact ow.append (OwnL.three r30 r33 rd)
    · refine wp_ex (qs_x (qs_x (qs_bx (qs_n (wp_sc (wp_sq (sq_v rfl (v_loadNB 0 ty_32 rfl rfl rfl rfl) rfl ?_))))))); refine sq_m 4 rfl rfl (m_store 4 ty_32 rfl rfl rfl rfl (by simp [one_int, r19.toR.sl.one, r0.toR.sl.one]) rfl (Nat.le_of_ble_eq_true rfl)) rfl ?_; rintro _ _ ⟨rfl, rfl⟩; refine sq_end (qs_n (wp_rt ?_)); have e : i = ts.length := by omega
      subst e; rw [List.take_length] at ow; refine qs_close [box b2 _ _, hp w] (h0 :: h19 :: hs') (fun _ s => s.pickF 7 [4, 6, 1, 2] (by decide) rfl rfl) (fun md => ?_); exact qs_retc 1 rfl ty_32 rfl rfl rfl (fin_t 0 (i := 2) rfl rfl rfl ⟨fun _ => ⟨_, _, rfl, vs, h0, h19, hs', by simpa [suppTs] using r0, r19, ow, md⟩, fun h => absurd hnet h⟩)
end Go.Proofs.YtmddmahaikineaaGreat
namespace Go.Proofs.YtmddmahaikineaaGreat
set_option maxRecDepth 100000
open Go.RowKit
theorem net_sub {k p n : Int} {ts : List Ten} {op : List Int} (h : netL k p n ts op) (q : Int → Bool) : netL k p n ts (op.filter q) := by
  have hs := sizeI_ge.1 h.2.2.2.2; have hn := axes_nodup hs.1; have hd := dims_mem (axes_dims hs.1); refine ⟨h.1, h.2.1, h.2.2.1, h.2.2.2.1, sizeI_ge.2 ⟨⟨?_, by simp [dimsFor], fun j hj => ?_⟩, ?_⟩⟩
  · have := List.length_filter_le q op; have := hs.1.1
    omega
  · have hm := (List.mem_filter.1 (mem_getD hj)).1; obtain ⟨i, hi, e⟩ := getD_of_mem hm; have ha := hs.1.2.2 i hi
    unfold axP at ha ⊢
    rw [dimsFor, map_getD hj]; rw [dimsFor, map_getD hi, e] at ha; exact ⟨ha.1, ha.2.1, nodup_not_take (hn.sublist List.filter_sublist) hj⟩
  · have h1 := selP_prod q op (dimsFor ts op) fun d hd' => (hd d hd').1; rw [dimsFor, selP_map] at h1; have := hs.2; rw [dimsFor] at this ⊢
    omega
theorem mem_erase {ls : List Int} (hn : ls.Nodup) {x y : Int} (hx : x ∈ ls) : y ∈ ls.eraseIdx (findI ls x).toNat ↔ y ∈ ls ∧ y ≠ x := by
  rw [← erase_filter hn hx, List.mem_filter, decide_eq_true_eq]
section
variable {k p n : Int} {t : Ten} {x v : Int} {f : Int → Int}
theorem sl_dims (_h : tensorL k p n t.l t.d t.x) (_hx : x ∈ t.l) (hd : t.d = t.l.map f) : (slT k n t x v).d = (slT k n t x v).l.map f := by
  show t.d.eraseIdx (slJ t x) = (t.l.eraseIdx (slJ t x)).map f
  rw [map_erase, ← hd]
theorem fix1_mem (h : tensorL k p n t.l t.d t.x) {y : Int} : y ∈ (fix1 k n t x v).l ↔ y ∈ t.l ∧ (x ∈ t.l → y ≠ x) := by
  unfold fix1
  by_cases hx : x ∈ t.l
  · rw [if_pos hx]
    show y ∈ t.l.eraseIdx (findI t.l x).toNat ↔ _
    rw [mem_erase (axes_nodup (ten_axes h)) hx]; exact ⟨fun h => ⟨h.1, fun _ => h.2⟩, fun h => ⟨h.1, h.2 hx⟩⟩
  · rw [if_neg hx]; exact ⟨fun h => ⟨h, fun h' => absurd h' hx⟩, fun h => h.1⟩
theorem fix1_ten (h : tensorL k p n t.l t.d t.x) (hd : t.d = t.l.map f) (hv : 0 ≤ v ∧ v < f x) : tensorL k p n (fix1 k n t x v).l (fix1 k n t x v).d (fix1 k n t x v).x ∧ (fix1 k n t x v).d = (fix1 k n t x v).l.map f := by
  unfold fix1
  by_cases hx : x ∈ t.l
  · rw [if_pos hx]; have hj := sl_j h hx; have ok : SlOK k p n t x v := ⟨h, hx, by rw [hd, map_getD hj.1, hj.2.2]; exact hv⟩
    exact ⟨ok.out, sl_dims h hx hd⟩
  · rw [if_neg hx]; exact ⟨h, hd⟩
end
theorem sl_ok {k p n : Int} {t : Ten} {x v : Int} {f : Int → Int} (h : tensorL k p n t.l t.d t.x) (hd : t.d = t.l.map f) (hx : x ∈ t.l) (hv : 0 ≤ v ∧ v < f x) : SlOK k p n t x v := by
  have hj := sl_j h hx; exact ⟨h, hx, by rw [hd, map_getD hj.1, hj.2.2]; exact hv⟩
theorem fix1_net {k p n : Int} {ts : List Ten} {op : List Int} {x v : Int} (h : netL k p n ts op) (hv : 0 ≤ v ∧ v < dimOf ts x) : netL k p n (ts.map fun t => fix1 k n t x v) (op.filter fun y => decide (y ≠ x)) := by
  have hd := net_dmap h; refine net_of (net_sub h _) (by rw [List.length_map]; exact h.2.1) (fun t ht => ?_) (fun t ht => ?_) (fun y hy => ?_)
  · obtain ⟨u, hu, rfl⟩ := List.mem_map.1 ht; exact (fix1_ten (h.2.2.1 u hu) (hd u hu) hv).1
  · obtain ⟨u, hu, rfl⟩ := List.mem_map.1 ht; exact (fix1_ten (h.2.2.1 u hu) (hd u hu) hv).2
  · obtain ⟨hy1, hy2⟩ := List.mem_filter.1 hy; obtain ⟨u, hu, hyu⟩ := net_has h hy1; exact ⟨_, List.mem_map_of_mem hu, (fix1_mem (h.2.2.1 u hu)).2 ⟨hyu, fun _ => by simpa using hy2⟩⟩
theorem fix1_dim {k p n : Int} {ts : List Ten} {op : List Int} {x v y : Int} (h : netL k p n ts op) (hv : 0 ≤ v ∧ v < dimOf ts x) (hy : y ≠ x) : dimOf (ts.map fun t => fix1 k n t x v) y = dimOf ts y := by
  have hd := net_dmap h
  by_cases hm : ∃ t ∈ ts, y ∈ t.l
  · obtain ⟨u, hu, hyu⟩ := hm; exact dimOf_map (f := dimOf ts) (fun t ht => by
      obtain ⟨u, hu, rfl⟩ := List.mem_map.1 ht; exact (fix1_ten (h.2.2.1 u hu) (hd u hu) hv).2) ⟨_, List.mem_map_of_mem hu, (fix1_mem (h.2.2.1 u hu)).2 ⟨hyu, fun _ => hy⟩⟩
  · rw [dimOf_none hm, dimOf_none]; rintro ⟨t, ht, hyt⟩; obtain ⟨u, hu, rfl⟩ := List.mem_map.1 ht; exact hm ⟨u, hu, ((fix1_mem (h.2.2.1 u hu)).1 hyt).1⟩
noncomputable def tsI (k n : Int) (ts : List Ten) (ls vs : List Int) (i : Nat) : List Ten := ts.map fun t => fixTo k n t ls vs i
def opI (op ls : List Int) (i : Nat) : List Int := op.filter fun y => decide (y ∉ ls.take i)
theorem tsI_zero (k n : Int) (ts : List Ten) (ls vs : List Int) : tsI k n ts ls vs 0 = ts := by simp [tsI, fixTo]
theorem opI_zero (op ls : List Int) : opI op ls 0 = op := by simp [opI]
theorem tsI_step (k n : Int) (ts : List Ten) (ls vs : List Int) (i : Nat) : tsI k n ts ls vs (i + 1) = (tsI k n ts ls vs i).map fun t => fix1 k n t (ls.getD i 0) (vs.getD i 0) := by
  unfold tsI
  rw [List.map_map]
  rfl
theorem opI_step (op : List Int) {ls : List Int} {i : Nat} (h : i < ls.length) : opI op ls (i + 1) = (opI op ls i).filter fun y => decide (y ≠ ls.getD i 0) := by
  unfold opI
  rw [List.filter_filter]
  apply List.filter_congr
  intro y _; rw [Bool.eq_iff_iff, decide_eq_true_eq, Bool.and_eq_true, decide_eq_true_eq, decide_eq_true_eq, take_succ h, List.mem_append]; simp only [List.mem_singleton]
  constructor
  · intro h; exact ⟨fun e => h (.inr e), fun e => h (.inl e)⟩
  · rintro ⟨h1, h2⟩ (h | h)
    · exact h2 h
    · exact h1 h
/-- The values up to i fit. -/
def fitI (ts : List Ten) (ls vs : List Int) (i : Nat) : Prop := ∀ j, j < i → 0 ≤ vs.getD j 0 ∧ vs.getD j 0 < dimOf ts (ls.getD j 0)
theorem netI {k p n : Int} {ts : List Ten} {op ls vs : List Int} (h : netL k p n ts op) (hn : ls.Nodup) : ∀ i, i ≤ ls.length → fitI ts ls vs i → netL k p n (tsI k n ts ls vs i) (opI op ls i) ∧ ∀ j, i ≤ j → j < ls.length → dimOf (tsI k n ts ls vs i) (ls.getD j 0) = dimOf ts (ls.getD j 0)
  | 0, _, _ => by rw [tsI_zero, opI_zero]; exact ⟨h, fun _ _ _ => rfl⟩
  | i + 1, hi, hf => by
    obtain ⟨h1, h2⟩ := netI h hn i (by omega) fun j hj => hf j (by omega); have hv := hf i (by omega); rw [← h2 i (Nat.le_refl _) (by omega)] at hv; rw [tsI_step, opI_step op (by omega)]; refine ⟨fix1_net h1 hv, fun j hj hjl => ?_⟩; have hne : ls.getD j 0 ≠ ls.getD i 0 := fun e => by
      have a := find_at' hn hjl; have b := find_at' hn (show i < ls.length by omega); rw [e, b] at a
      omega
    rw [fix1_dim h1 hv hne, h2 j (by omega) hjl]
end Go.Proofs.YtmddmahaikineaaGreat
namespace Go.Proofs.YtmddmahaikineaaGreat
set_option maxRecDepth 100000
open Go.RowKit
theorem fits_k2 {t u : Ten} {f : Int → Int} {ks : List Int} {v : Value} {g h : PH} (r : IntsO (selP (fun x => decide (x ∈ ks)) (joinI t.l u.l) ((joinI t.l u.l).map f)) v g) (l : PLe g h) : IntsR ((keepL t u ks).map f) v h := by
  rw [selP_map] at r; exact r.toR.mono l
set_option maxHeartbeats 2000000 in
theorem ct_u_l08Fits (k p n : Int) (f : Int → Int) (t u : Ten) (ks : List Int) (a b c a' b' c' v : Value) (w : World) (r1 : IntsR t.l a (hp w)) (r2 : IntsR t.d b (hp w)) (r3 : IntsR t.x c (hp w)) (r1' : IntsR u.l a' (hp w)) (r2' : IntsR u.d b' (hp w)) (r3' : IntsR u.x c' (hp w)) (rk : IntsR ks v (hp w)) (h1 : tensorL k p n t.l t.d t.x) (h2 : tensorL k p n u.l u.d u.x) (ht : t.d = t.l.map f) (hu : u.d = u.l.map f) :
    Calls Tryz.prog 94 [tenV a b c, tenV a' b' c', v].toArray w (RetV w (.bool (pairB k p n t u ks))) := by
  have hat := ten_axes h1; have hau := ten_axes h2; have h12 := hat.1; have h12' := hau.1; have hun := axes_nodup hau; have hjl := joinI_len t.l u.l; have hdj : dimsIn ((joinI t.l u.l).map f) := map_dims fun x hx => by
    rcases mem_joinI.1 hx with h | h
    · exact dims_mem (axes_dims hat) _ (by rw [ht]; exact List.mem_map_of_mem h)
    · exact dims_mem (axes_dims hau) _ (by rw [hu]; exact List.mem_map_of_mem h)
  have hiff := pairP_iff (ks := ks) h1 h2 ht hu; have hb : ∀ q : Bool, (q = true ↔ pairP k p n t u ks) → Value.bool q = .bool (pairB k p n t u ks) := fun q h => by
    congr 1
    rw [Bool.eq_iff_iff, h, pairB_true]
  refine calls_in Tryz.func94 rfl Tryz.ntmps94 rfl (Sat.start w) ?_; have hle0 := r1.le; have hle1 := r2.le; have hle2 := r3.le; have hle3 := r1'.le; have hle4 := r2'.le; have hle5 := r3'.le; have hle6 := rk.le; refine wp_sc (wp_sq ?_); refine sq_x rfl (x_box rfl rfl) rfl ?_; rintro _ _ ⟨b3, rfl, rfl⟩; refine sq_x rfl (x_box rfl rfl) rfl ?_; rintro _ _ ⟨b4, rfl, rfl⟩; refine sq_v rfl (v_assign rfl) rfl (sq_end (qs_n (wp_sc (wp_sq (sq_v rfl (v_loadNB 1 ty_39 rfl rfl rfl rfl) rfl (sq_v rfl (v_loadNB 0 ty_39 rfl rfl rfl rfl) rfl ?_)))))); refine sq_x rfl (x_call rfl en_171 (fun w s => ct_u_l08Join f _ _ _ _ _ _ _ _ w (r1.mono (s.get 2 rfl)) (r2.mono (s.get 2 rfl)) (r1'.mono (s.get 2 rfl)) (r2'.mono (s.get 2 rfl)) (by first | assumption | omega) (by first | assumption | omega) (by first | assumption | omega) (by first | assumption | omega))) rfl ?_; rintro _ h13 ⟨v1, v2, rfl, q1, q2⟩; refine sq_v rfl (v_move rfl) rfl (sq_v rfl (v_extract rfl rfl) rfl (sq_v rfl (v_extract rfl rfl) rfl (sq_v rfl (v_extract rfl rfl) rfl (sq_v rfl (v_assign rfl) rfl (sq_v rfl (v_assign rfl) rfl (sq_v rfl (v_assign rfl) rfl (sq_end (qs_n (wp_sc (wp_sq (sq_v rfl (v_move rfl) rfl (sq_v rfl (v_move rfl) rfl (sq_v rfl (v_move rfl) rfl ?_))))))))))))); refine sq_u rfl (x_callv rfl en_172 (fun w s => ct_s_l05Product _ _ _ w (q2.mono (s.get 0 rfl)) (by first | assumption | omega) (by first | assumption | omega))) rfl (sq_v rfl (v_leq rfl rfl) rfl (sq_v rfl (v_pickt rfl rfl) rfl ?_)); refine sq_bd 22 rfl (fun c22 => ?_) (fun c22 => ?_)
  · refine sq_v rfl (v_move rfl) rfl (sq_v rfl (v_move rfl) rfl (sq_v rfl (v_move rfl) rfl (sq_v rfl (v_move rfl) rfl ?_))); refine sq_x rfl (x_call rfl en_173 (fun w s => ct_s_l08Keep _ _ _ _ _ _ w (q1.mono (s.get 0 rfl)) (q2.mono (s.get 0 rfl)) (rk.mono (s.get 3 rfl)) (by rw [List.length_map]) (by first | assumption | omega))) rfl ?_; rintro _ h27 ⟨k1, k2, g1, g2, rfl, rk1, rk2, mdk⟩; refine sq_u rfl (x_callv rfl en_139 (fun w s => ct_s_TensorSize _ _ _ _ _ w ((rk1.toR.mono (mdk.le g1 (by simp))).mono (s.get 0 rfl)) ((fits_k2 rk2 (mdk.le g2 (by simp))).mono (s.get 0 rfl)))) rfl (sq_v rfl (v_geq rfl rfl) rfl (sq_v rfl (v_pickt rfl rfl) rfl (sq_v rfl (v_assign rfl) rfl (sq_end (qs_n (wp_rt ?_)))))); exact qs_ret1 rfl rfl (fin_q (i := 4) rfl (hb _ (by rw [hiff, decide_eq_true_eq]; exact ⟨fun h => ⟨by omega, h⟩, fun h => h.2⟩)))
  · refine sq_v rfl (v_move rfl) rfl (sq_s rfl rfl (sq_s rfl rfl (sq_s rfl rfl (sq_s rfl rfl (sq_s rfl rfl (sq_s rfl rfl (sq_v rfl (v_pickf rfl rfl) rfl (sq_v rfl (v_assign rfl) rfl (sq_end (qs_n (wp_rt ?_))))))))))); exact qs_ret1 rfl rfl (fin_q (i := 3) rfl (hb _ (by rw [hiff]; exact ⟨fun h => (by cases h), fun h => absurd h.1 (by omega)⟩)))
theorem ct_u_l08Pair (k p n : Int) (t u : Ten) (ks : List Int) (a b c a' b' c' v : Value) (w : World) (r1 : IntsR t.l a (hp w)) (r2 : IntsR t.d b (hp w)) (r3 : IntsR t.x c (hp w)) (r1' : IntsR u.l a' (hp w)) (r2' : IntsR u.d b' (hp w)) (r3' : IntsR u.x c' (hp w)) (rk : IntsR ks v (hp w)) (hp' : pairP k p n t u ks) :
    Calls Tryz.prog 96 [ringV k p n, tenV a b c, tenV a' b' c', v].toArray w (Ret w emp (TenT (pairR k p n t u ks))) := by
  have ok := pair_ok hp'.1 hp'.2.1 hp'.2.2.1 hp'.2.2.2.1; have := ct_s_l08Pair k p n t u (dimJ t u) (keepL t u ks) ks a b c a' b' c' v w r1 r2 r3 r1' r2' r3' rk ok rfl (keep_ok ok hp'.2.2.2.2) (sizeI_ge.1 hp'.2.2.2.2).1.1; rw [pairR, if_pos hp']; exact this
set_option maxHeartbeats 1000000 in
theorem ct_s_l18Finish (k p n : Int) (ts : List Ten) (op : List Int) (t : Ten) (vt vo a b c : Value) (w : World) (r : TensR ts vt (hp w)) (r' : IntsR op vo (hp w)) (r1 : IntsR t.l a (hp w)) (r2 : IntsR t.d b (hp w)) (r3 : IntsR t.x c (hp w)) (ht : tensorL k p n t.l t.d t.x) (hn : op.Nodup) (hs : ∀ x ∈ op, x ∈ t.l) :
    Calls Tryz.prog 76 [netV k p n vt vo, tenV a b c].toArray w (Ret w emp (TenT (finT k p n t op))) := by
  have hpm := fin_perm ht hn hs; refine calls_in Tryz.func76 rfl Tryz.ntmps76 rfl (Sat.start w) ?_; have hle0 := r.le; obtain ⟨cs_r, rr_r, hc_r⟩ := r.at; have hle1 := r'.le; have hle2 := r1.le; have hle3 := r2.le; have hle4 := r3.le; refine wp_sc (wp_sq ?_); refine sq_x rfl (x_box rfl rfl) rfl ?_; rintro _ _ ⟨b2, rfl, rfl⟩; refine sq_x rfl (x_box rfl rfl) rfl ?_; rintro _ _ ⟨b3, rfl, rfl⟩; refine sq_x rfl (x_alloc ty_39 rfl) rfl ?_; rintro _ _ ⟨b4, rfl, rfl⟩; refine sq_end (qs_n (wp_sc (wp_rj 11 [(0, true), (1, true), (2, true), (3, true), (4, true), (5, true), (6, true), (8, true), (9, true), (7, false), (10, false), (11, false)] mixed_ok (by kernel_rfl) (rj_v rfl rfl (v_fieldAddr fd_32_0 ty_29 (by decide) rfl) rfl (rj_v rfl rfl (v_loadNB 2 ty_29 rfl rfl rfl rfl) rfl (rj_v rfl rfl (v_fieldAddr fd_32_0 ty_29 (by decide) rfl) rfl (rj_v rfl rfl (v_loadNB 2 ty_29 rfl rfl rfl rfl) rfl (rj_v rfl rfl (v_loadNB 1 ty_39 rfl rfl rfl rfl) rfl (rj_v rfl rfl (v_fieldAddr fd_32_2 ty_25 (by decide) rfl) rfl (rj_v rfl rfl (v_loadB 2 ty_25 rfl rfl rfl) rfl (rj_v rfl rfl (v_fieldAddr fd_32_2 ty_25 (by decide) rfl) rfl (rj_v rfl rfl (v_loadB 2 ty_25 rfl rfl rfl) rfl ?_)))))))))))); refine rj_x rfl rfl (x_call rfl en_73 (fun w s => ct_s_l08Sum _ _ _ _ _ _ _ _ _ w (r1.mono (s.get 3 rfl)) (r2.mono (s.get 3 rfl)) (r3.mono (s.get 3 rfl)) (r'.mono (s.get 3 rfl)) (by first | assumption | omega))) rfl ?_; rintro _ h12 ⟨va12, vb12, vc12, rfl, o12⟩; refine rj_x rfl rfl (x_call rfl en_95 (fun w s => ct_s_l06Permute _ _ _ _ _ _ _ _ _ w (o12.toR.1.mono (s.get 0 rfl)) (o12.toR.2.1.mono (s.get 0 rfl)) (o12.toR.2.2.mono (s.get 0 rfl)) (r'.mono (s.get 4 rfl)) (by first | assumption | omega))) rfl ?_; rintro _ h15 ⟨va15, vb15, vc15, rfl, o15⟩; refine rj_m 2 rfl rfl rfl rfl (m_store 2 ty_39 rfl rfl rfl rfl (by simp [o15.toR.1.sl.one, o15.toR.2.1.sl.one, o15.toR.2.2.sl.one]) rfl (Nat.le_of_ble_eq_true rfl)) rfl ?_; rintro _ _ ⟨rfl, rfl⟩; refine rj_end (qs_n (wp_rt ?_)); exact qs_retc 2 rfl ty_39 rfl rfl rfl (fin_t 0 (i := 5) rfl rfl rfl (⟨_, _, _, rfl, o15⟩))
set_option maxHeartbeats 1000000 in
theorem ct_i_allIn (xs ys : List Int) (v u : Value) (w : World) (r : IntsR xs v (hp w)) (r' : IntsR ys u (hp w)) : Calls Tryz.prog 163 [v, u].toArray w (RetV w (.bool (decide (∀ x ∈ xs, x ∈ ys)))) := by
  refine calls_in Tryz.func163 rfl Tryz.ntmps163 rfl (Sat.start w) ?_; have hle0 := r.le; have hle1 := r'.le; refine wp_sc (wp_sq (sq_v rfl (v_assign rfl) rfl (sq_end (qs_n (wp_sc (wp_sc (wp_sq (sq_v rfl (v_move rfl) rfl (sq_v rfl (v_len Tryz.underlying25 rfl r.sl) rfl (sq_v rfl (v_move rfl) rfl (sq_end (qs_n (wp_bl ?_))))))))))))); refine wp_lp (σ := Nat) (fun z_ => [(1, u), (4, .bool false), (7, v), (8, num xs.length), (9, num z_)]) (fun z_ => [hp w]) (fun z_ => z_ ≤ xs.length ∧ (∀ j, j < z_ → xs.getD j 0 ∈ ys)) (fun z_ => xs.length - z_) 0 (⟨by omega, fun j hj => by omega⟩) ⟨rfl, rfl, rfl, rfl, (by first | rfl | exact ksub rfl (by first | omega | (simp; done) | (simp; omega))), trivial⟩ (fun _ s => s) ?_; rintro i ⟨hi, ha⟩; refine wp_sc (wp_sq (sq_v rfl (v_lss rfl rfl) rfl (sq_end (qs_n (wp_sc ?_))))); refine wp_cd rfl (fun c10 => ?_) (fun c10 => ?_)
  · refine wp_sk (qs_n (wp_sc (wp_bl (wp_sc (wp_sq ?_))))); refine sq_v rfl (v_idxI Tryz.underlying25 ty_3 rfl rfl r (by first | omega | (simp; omega) | (simp only [List.length_append, List.length_cons, List.length_nil]; omega)) (by first | omega | (simp; omega) | (simp only [List.length_append, List.length_cons, List.length_nil]; omega))) rfl ?_; refine sq_v rfl (v_loadI (k := i) 0 ty_3 rfl rfl r (by first | omega | (simp; omega) | (simp only [List.length_append, List.length_cons, List.length_nil]; omega))) rfl ?_; refine sq_v rfl (v_assign rfl) rfl (sq_end (qs_n (wp_sc (wp_sq (sq_v rfl (v_move rfl) rfl (sq_v rfl (v_move rfl) rfl (sq_u rfl (x_callv rfl en_152 (fun w s => ct_i_hasInt _ _ _ w (r'.mono (s.get 0 rfl)))) rfl (sq_v rfl (v_not rfl) rfl (sq_end (qs_n ?_)))))))))); refine wp_cnd rfl (fun c16 => ?_) (fun c16 => ?_)
    · refine wp_sc (wp_sq (sq_v rfl (v_assign rfl) rfl (sq_end (qs_n (wp_rt (qs_br (qs_r (qs_r (qs_br (qs_r ?_)))))))))); exact qs_ret1 rfl rfl (fin_q (i := 0) rfl (by rw [decide_eq_false]; exact fun h => absurd (h _ (mem_getD (k := i) (by omega))) (by simpa using c16)))
    · refine wp_sk (qs_bn (qs_n (wp_sq ?_))); refine sq_v rfl (v_add rfl rfl ((by unfold I64; omega))) rfl ?_; refine sq_v rfl (v_move rfl) rfl (sq_end ?_); exact qs_bk (i + 1) ⟨by omega, step_all ha (by simpa using c16)⟩ (by omega) ⟨rfl, rfl, rfl, rfl, (by first | rfl | exact ksub rfl (by first | omega | (simp; done) | (simp; omega))), trivial⟩ (fun _ s => s)
  · refine wp_ex (qs_x (qs_x (qs_bx (qs_n (wp_sc (wp_sq (sq_v rfl (v_assign rfl) rfl (sq_end (qs_n (wp_rt ?_)))))))))); exact qs_ret1 rfl rfl (fin_q (i := 0) rfl (by rw [decide_eq_true]; exact all_of fun j hj => ha j (by omega)))
theorem PermNo {k n : Int} {t : Ten} {ls : List Int} {q : Bool} (h : q = false) : TenB (ifB q (permT k n t ls) noTen) q (.tuple [tenV (.slice none 0 0) (.slice none 0 0) (.slice none 0 0), .bool false].toArray) emp :=
  ⟨.slice none 0 0, .slice none 0 0, .slice none 0 0, by rw [h], by rw [h]; exact triO_none⟩
def perP (k p n : Int) (t : Ten) (ls : List Int) : Prop := tensorL k p n t.l t.d t.x ∧ setL t.l ls
open Classical in
noncomputable def perB (k p n : Int) (t : Ten) (ls : List Int) : Bool := decide (perP k p n t ls)
theorem perB_true {k p n : Int} {t : Ten} {ls : List Int} : perB k p n t ls = true ↔ perP k p n t ls := by simp [perB]
theorem perB_no {k p n : Int} {t : Ten} {ls : List Int} (h : ¬ perP k p n t ls) : perB k p n t ls = false := by simp [perB, h]
theorem ct_i_PermuteTensor (k p n : Int) (t : Ten) (ls : List Int) (a b c v : Value) (w : World) (r1 : IntsR t.l a (hp w)) (r2 : IntsR t.d b (hp w)) (r3 : IntsR t.x c (hp w)) (rl : IntsR ls v (hp w)) :
    Calls Tryz.prog 100 [ringV k p n, tenV a b c, v].toArray w (Ret w emp (TenB (ifB (perB k p n t ls) (permT k n t ls) noTen) (perB k p n t ls))) := by
  refine calls_in Tryz.func100 rfl Tryz.ntmps100 rfl (Sat.start w) ?_; have hle0 := r1.le; have hle1 := r2.le; have hle2 := r3.le; have hle3 := rl.le; refine wp_sc (wp_sq ?_); refine sq_x rfl (x_box rfl rfl) rfl ?_; rintro _ _ ⟨b3, rfl, rfl⟩; refine sq_x rfl (x_box rfl rfl) rfl ?_; rintro _ _ ⟨b4, rfl, rfl⟩; refine sq_x rfl (x_alloc ty_39 rfl) rfl ?_; rintro _ _ ⟨b6, rfl, rfl⟩; refine sq_v rfl (v_assign rfl) rfl (sq_end (qs_n (wp_sc (wp_sc (wp_sq (sq_v rfl (v_loadNB 2 ty_29 rfl rfl rfl rfl) rfl (sq_v rfl (v_loadNB 1 ty_39 rfl rfl rfl rfl) rfl (sq_u rfl (x_callv rfl en_144 (fun w s => ct_i_TensorOk _ _ _ _ _ _ _ _ _ w (r1.mono (s.get 3 rfl)) (r2.mono (s.get 3 rfl)) (r3.mono (s.get 3 rfl)))) rfl ?_)))))))); refine sq_bb 10 rfl (fun c10 => ?_) (fun c10 => ?_)
  · refine sq_v rfl (v_not rfl) rfl (sq_v rfl (v_move rfl) rfl (sq_v rfl (v_fieldAddr fd_39_0 ty_25 (by decide) rfl) rfl (sq_v rfl (v_loadB 1 ty_25 rfl rfl rfl) rfl (sq_v rfl (v_move rfl) rfl (sq_u rfl (x_callv rfl en_159 (fun w s => ct_i_sameLabels _ _ _ _ w (r1.mono (s.get 3 rfl)) (rl.mono (s.get 3 rfl)))) rfl (sq_v rfl (v_not rfl) rfl (sq_v rfl (v_pickf rfl rfl) rfl (sq_end (qs_n ?_))))))))); refine wp_cn _ rfl (fun c18 => ?_) (fun c18 => ?_)
    · refine wp_sc (wp_sq (sq_v rfl (v_build [.slice none 0 0, .slice none 0 0, .slice none 0 0] rfl (by kernel_rfl)) rfl ?_)); refine sq_m 0 rfl rfl (m_store 0 ty_39 rfl rfl rfl rfl (by simp [one_sl]) rfl (Nat.le_of_ble_eq_true rfl)) rfl ?_; rintro _ _ ⟨rfl, rfl⟩; refine sq_v rfl (v_assign rfl) rfl (sq_end (qs_n (wp_rt (qs_r ?_)))); exact qs_retct 0 rfl ty_39 rfl rfl rfl rfl (fin_e (i := 3) rfl (PermNo (perB_no (fun h => by first | exact tensorB_false.1 c10 h.1 | exact setB_false.1 c18 h.2))))
    · refine wp_sk (qs_n (wp_sc (wp_sq (sq_v rfl (v_loadNB 2 ty_29 rfl rfl rfl rfl) rfl (sq_v rfl (v_loadNB 1 ty_39 rfl rfl rfl rfl) rfl (sq_v rfl (v_move rfl) rfl ?_)))))); have h1 := tensorB_true.1 c10; have h2 := setB_true.1 c18; have hok : PermOK k p n t ls := ⟨h1.1, h1, setL_perm h2⟩
      refine sq_x rfl (x_call rfl en_195 (fun w s => ct_i_rawPermute _ _ _ _ _ _ _ _ _ w (r1.mono (s.get 3 rfl)) (r2.mono (s.get 3 rfl)) (r3.mono (s.get 3 rfl)) (rl.mono (s.get 3 rfl)) (by first | assumption | omega))) rfl ?_; rintro _ h23 ⟨va23, vb23, vc23, rfl, o23⟩; refine sq_m 1 rfl rfl (m_store 1 ty_39 rfl rfl rfl rfl (by simp [o23.toR.1.sl.one, o23.toR.2.1.sl.one, o23.toR.2.2.sl.one]) rfl (Nat.le_of_ble_eq_true rfl)) rfl ?_; rintro _ _ ⟨rfl, rfl⟩; refine sq_v rfl (v_assign rfl) rfl (sq_end (qs_n (wp_rt ?_))); exact qs_retct 1 rfl ty_39 rfl rfl rfl rfl (fin_t 0 (i := 4) rfl rfl rfl (by rw [perB_true.2 ⟨h1, h2⟩]; exact ⟨_, _, _, rfl, o23⟩))
  · refine sq_v rfl (v_not rfl) rfl (sq_v rfl (v_move rfl) rfl (sq_s rfl rfl (sq_s rfl rfl (sq_s rfl rfl (sq_s rfl rfl (sq_s rfl rfl (sq_v rfl (v_pickt rfl rfl) rfl (sq_end (qs_n (wp_ct rfl (wp_sc (wp_sq (sq_v rfl (v_build [.slice none 0 0, .slice none 0 0, .slice none 0 0] rfl (by kernel_rfl)) rfl ?_))))))))))))); refine sq_m 0 rfl rfl (m_store 0 ty_39 rfl rfl rfl rfl (by simp [one_sl]) rfl (Nat.le_of_ble_eq_true rfl)) rfl ?_; rintro _ _ ⟨rfl, rfl⟩; refine sq_v rfl (v_assign rfl) rfl (sq_end (qs_n (wp_rt (qs_r ?_)))); exact qs_retct 0 rfl ty_39 rfl rfl rfl rfl (fin_e (i := 3) rfl (PermNo (perB_no (fun h => by first | exact tensorB_false.1 c10 h.1 | exact setB_false.1 c18 h.2))))
set_option maxHeartbeats 1000000 in
theorem ct_i_FinishTensor (k p n : Int) (ts : List Ten) (op : List Int) (t : Ten) (vt vo a b c : Value) (w : World) (r : TensR ts vt (hp w)) (r' : IntsR op vo (hp w)) (r1 : IntsR t.l a (hp w)) (r2 : IntsR t.d b (hp w)) (r3 : IntsR t.x c (hp w)) (hs : op.length ≤ 1048576) :
    Calls Tryz.prog 83 [netV k p n vt vo, tenV a b c].toArray w (Ret w emp (TenB (finR k p n ts op t) (finB k p n ts op t))) := by
  refine calls_in Tryz.func83 rfl Tryz.ntmps83 rfl (Sat.start w) ?_; have hle0 := r.le; obtain ⟨cs_r, rr_r, hc_r⟩ := r.at; have hle1 := r'.le; have hle2 := r1.le; have hle3 := r2.le; have hle4 := r3.le; refine wp_sc (wp_sq ?_); refine sq_x rfl (x_box rfl rfl) rfl ?_; rintro _ _ ⟨b2, rfl, rfl⟩; refine sq_x rfl (x_box rfl rfl) rfl ?_; rintro _ _ ⟨b3, rfl, rfl⟩; refine sq_x rfl (x_alloc ty_39 rfl) rfl ?_; rintro _ _ ⟨b4, rfl, rfl⟩; refine sq_v rfl (v_assign rfl) rfl (sq_end (qs_n (wp_sc (wp_sc (wp_sq (sq_v rfl (v_loadNB 2 ty_32 rfl rfl rfl rfl) rfl (sq_u rfl (x_callv rfl en_60 (fun w s => ct_i_NetworkOk _ _ _ _ _ _ _ w (r.mono (s.get 3 rfl)) (r'.mono (s.get 3 rfl)) (by first | assumption | omega))) rfl ?_))))))); refine sq_bb 7 rfl (fun c7 => ?_) (fun c7 => ?_)
  · refine sq_v rfl (v_not rfl) rfl (sq_v rfl (v_move rfl) rfl (sq_v rfl (v_fieldAddr fd_32_0 ty_29 (by decide) rfl) rfl (sq_v rfl (v_loadNB 2 ty_29 rfl rfl rfl rfl) rfl (sq_v rfl (v_loadNB 1 ty_39 rfl rfl rfl rfl) rfl (sq_u rfl (x_callv rfl en_144 (fun w s => ct_i_TensorOk _ _ _ _ _ _ _ _ _ w (r1.mono (s.get 3 rfl)) (r2.mono (s.get 3 rfl)) (r3.mono (s.get 3 rfl)))) rfl (sq_v rfl (v_not rfl) rfl (sq_v rfl (v_pickf rfl rfl) rfl ?_))))))); refine sq_bn 15 rfl (fun c15 => ?_) (fun c15 => ?_)
    · refine sq_v rfl (v_move rfl) rfl (sq_s rfl rfl (sq_s rfl rfl (sq_s rfl rfl (sq_s rfl rfl (sq_s rfl rfl (sq_s rfl rfl (sq_v rfl (v_pickt rfl rfl) rfl (sq_end (qs_n (wp_ct rfl (wp_sc (wp_sq (sq_v rfl (v_build [.slice none 0 0, .slice none 0 0, .slice none 0 0] rfl (by kernel_rfl)) rfl ?_))))))))))))); refine sq_m 0 rfl rfl (m_store 0 ty_39 rfl rfl rfl rfl (by simp [one_sl]) rfl (Nat.le_of_ble_eq_true rfl)) rfl ?_; rintro _ _ ⟨rfl, rfl⟩; refine sq_v rfl (v_assign rfl) rfl (sq_end (qs_n (wp_rt (qs_r ?_)))); exact qs_retct 0 rfl ty_39 rfl rfl rfl rfl (fin_e (i := 3) rfl (FinNo (fun h => by first | exact netB_false.1 c7 h.1 | exact tensorB_false.1 c15 h.2.1 | exact absurd h.2.2 (by simpa using c23))))
    · refine sq_v rfl (v_move rfl) rfl (sq_v rfl (v_fieldAddr fd_32_2 ty_25 (by decide) rfl) rfl (sq_v rfl (v_loadB 2 ty_25 rfl rfl rfl) rfl (sq_v rfl (v_fieldAddr fd_39_0 ty_25 (by decide) rfl) rfl (sq_v rfl (v_loadB 1 ty_25 rfl rfl rfl) rfl (sq_u rfl (x_callv rfl en_163 (fun w s => ct_i_allIn _ _ _ _ w (r'.mono (s.get 3 rfl)) (r1.mono (s.get 3 rfl)))) rfl (sq_v rfl (v_not rfl) rfl (sq_v rfl (v_pickf rfl rfl) rfl (sq_end (qs_n ?_))))))))); refine wp_cnd rfl (fun c23 => ?_) (fun c23 => ?_)
      · refine wp_sc (wp_sq (sq_v rfl (v_build [.slice none 0 0, .slice none 0 0, .slice none 0 0] rfl (by kernel_rfl)) rfl ?_)); refine sq_m 0 rfl rfl (m_store 0 ty_39 rfl rfl rfl rfl (by simp [one_sl]) rfl (Nat.le_of_ble_eq_true rfl)) rfl ?_; rintro _ _ ⟨rfl, rfl⟩; refine sq_v rfl (v_assign rfl) rfl (sq_end (qs_n (wp_rt (qs_r ?_)))); exact qs_retct 0 rfl ty_39 rfl rfl rfl rfl (fin_e (i := 3) rfl (FinNo (fun h => by first | exact netB_false.1 c7 h.1 | exact tensorB_false.1 c15 h.2.1 | exact absurd h.2.2 (by simpa using c23))))
      · refine wp_sk (qs_n (wp_sc (wp_rj 13 [(0, true), (1, true), (2, true), (3, true), (4, true), (5, true), (6, true), (8, true), (9, true), (7, false), (10, false), (11, true), (12, true), (13, false), (14, false)] mixed_ok (by kernel_rfl) ?_))); have hnet := netB_true.1 c7; have hten := tensorB_true.1 c15; have hall : ∀ x ∈ op, x ∈ t.l := (by simpa using c23); have hfp : finP k p n ts op t := ⟨hnet, hten, hall⟩; have hpm := hfp.perm; have hB := perB_true.2 (show perP k p n (sumR k p n t op) op from ⟨hpm.ten, setL_of_perm hpm.perm.symm (net_open hnet).1⟩); refine rj_v rfl rfl (v_fieldAddr fd_32_0 ty_29 (by decide) rfl) rfl (rj_v rfl rfl (v_loadNB 2 ty_29 rfl rfl rfl rfl) rfl (rj_v rfl rfl (v_fieldAddr fd_32_0 ty_29 (by decide) rfl) rfl (rj_v rfl rfl (v_loadNB 2 ty_29 rfl rfl rfl rfl) rfl (rj_v rfl rfl (v_loadNB 1 ty_39 rfl rfl rfl rfl) rfl (rj_v rfl rfl (v_fieldAddr fd_32_2 ty_25 (by decide) rfl) rfl (rj_v rfl rfl (v_loadB 2 ty_25 rfl rfl rfl) rfl (rj_v rfl rfl (v_fieldAddr fd_32_2 ty_25 (by decide) rfl) rfl (rj_v rfl rfl (v_loadB 2 ty_25 rfl rfl rfl) rfl ?_)))))))); refine rj_x rfl rfl (x_call rfl en_80 (fun w s => ct_i_SumLabels _ _ _ _ _ _ _ _ _ w (r1.mono (s.get 3 rfl)) (r2.mono (s.get 3 rfl)) (r3.mono (s.get 3 rfl)) (r'.mono (s.get 3 rfl)))) rfl ?_; rintro _ h32 ⟨va32, vb32, vc32, rfl, o32⟩; refine rj_x rfl rfl (x_call rfl en_100 (fun w s => ct_i_PermuteTensor _ _ _ _ _ _ _ _ _ w (o32.toR.1.mono (s.get 0 rfl)) (o32.toR.2.1.mono (s.get 0 rfl)) (o32.toR.2.2.mono (s.get 0 rfl)) (r'.mono (s.get 4 rfl)))) rfl ?_; rintro _ h35 ⟨va35, vb35, vc35, rfl, o35⟩; refine rj_v rfl rfl (v_extract rfl rfl) rfl (rj_v rfl rfl (v_extract rfl rfl) rfl ?_); refine rj_m 2 rfl rfl rfl rfl (m_store 2 ty_39 rfl rfl rfl rfl (by simp [o35.toR.1.sl.one, o35.toR.2.1.sl.one, o35.toR.2.2.sl.one]) rfl (Nat.le_of_ble_eq_true rfl)) rfl ?_; rintro _ _ ⟨rfl, rfl⟩; refine rj_fv rfl rfl (v_assign rfl) rfl (rj_end ?_); rw [hB] at o35; refine qs_n (wp_rt ?_); exact qs_retct 2 rfl ty_39 rfl rfl rfl rfl (fin_t 0 (i := 5) rfl rfl rfl (by rw [hB]; exact FinYes hfp o35))
  · refine sq_v rfl (v_not rfl) rfl (sq_v rfl (v_move rfl) rfl (sq_s rfl rfl (sq_s rfl rfl (sq_s rfl rfl (sq_s rfl rfl (sq_s rfl rfl (sq_v rfl (v_pickt rfl rfl) rfl (sq_v rfl (v_move rfl) rfl (sq_s rfl rfl ?_))))))))); refine sq_s rfl rfl (sq_s rfl rfl (sq_s rfl rfl (sq_s rfl rfl (sq_s rfl rfl (sq_v rfl (v_pickt rfl rfl) rfl (sq_end (qs_n (wp_ct rfl (wp_sc (wp_sq (sq_v rfl (v_build [.slice none 0 0, .slice none 0 0, .slice none 0 0] rfl (by kernel_rfl)) rfl ?_))))))))))); refine sq_m 0 rfl rfl (m_store 0 ty_39 rfl rfl rfl rfl (by simp [one_sl]) rfl (Nat.le_of_ble_eq_true rfl)) rfl ?_; rintro _ _ ⟨rfl, rfl⟩; refine sq_v rfl (v_assign rfl) rfl (sq_end (qs_n (wp_rt (qs_r ?_)))); exact qs_retct 0 rfl ty_39 rfl rfl rfl rfl (fin_e (i := 3) rfl (FinNo (fun h => by first | exact netB_false.1 c7 h.1 | exact tensorB_false.1 c15 h.2.1 | exact absurd h.2.2 (by simpa using c23))))
end Go.Proofs.YtmddmahaikineaaGreat
namespace Go.Proofs.YtmddmahaikineaaGreat
set_option maxRecDepth 100000
open Go.RowKit
theorem OwnH.at {ts : List Ten} {cs : List Value} {h : PH} (o : OwnH (flat ts) cs h) (i : Nat) (hi : i < ts.length) : ∃ t a b c, ts[i]? = some t ∧ (cs.drop (i * 3)).take 3 = [a, b, c] ∧ IntsR t.l a h ∧ IntsR t.d b h ∧ IntsR t.x c h := by
  obtain ⟨l, ol, m⟩ := o; have ht : ts[i]? = some ts[i] := List.getElem?_eq_getElem hi; obtain ⟨f1, f2, f3⟩ := tens_get ht; obtain ⟨a, h1, e1, g1, r1⟩ := ol.own _ _ f1; obtain ⟨b, h2, e2, g2, r2⟩ := ol.own _ _ f2; obtain ⟨c, h3, e3, g3, r3⟩ := ol.own _ _ f3; exact ⟨_, a, b, c, ht, three_at e1 e2 e3, r1.toR.mono (m.le _ (List.mem_of_getElem? g1)), r2.toR.mono (m.le _ (List.mem_of_getElem? g2)), r3.toR.mono (m.le _ (List.mem_of_getElem? g3))⟩
theorem stp_take {ss : List Stp} {i m : Nat} {x : Stp} (h : (ss.take m)[i]? = some x) : ss[i]? = some x ∧ i < m ∧ i < ss.length := by
  have h1 := (List.getElem?_eq_some_iff.1 h).1; simp only [List.length_take] at h1; rw [List.getElem?_take, if_pos (by omega)] at h; exact ⟨h, by omega, by omega⟩
set_option maxHeartbeats 4000000 in
theorem ct_i_PartialNetwork (k p n m : Int) (ts : List Ten) (op : List Int) (ss : List Stp) (vt vo v : Value) (w : World) (r : TensR ts vt (hp w)) (r' : IntsR op vo (hp w)) (rv : StepsR ss v (hp w)) (hs : op.length ≤ 1048576) :
    Calls Tryz.prog 213 [netV k p n vt vo, v, num m].toArray w (Ret w emp (PartR k p n ts op ss m)) := by
  refine calls_in Tryz.func213 rfl Tryz.ntmps213 rfl (Sat.start w) ?_; have hle0 := r.le; obtain ⟨cs_r, rr_r, hc_r⟩ := r.at; have hle1 := r'.le; have hle2 := rv.le; obtain ⟨cs_rv, rr_rv, hc_rv⟩ := rv.at; refine wp_sc (wp_sq ?_); refine sq_x rfl (x_box rfl rfl) rfl ?_; rintro _ _ ⟨b3, rfl, rfl⟩; refine sq_x rfl (x_alloc ty_32 rfl) rfl ?_; rintro _ _ ⟨b6, rfl, rfl⟩; refine sq_v rfl (v_assign rfl) rfl (sq_end (qs_n (wp_sc (wp_sc (wp_sq (sq_v rfl (v_loadNB 1 ty_32 rfl rfl rfl rfl) rfl (sq_v rfl (v_move rfl) rfl (sq_u rfl (x_callv rfl en_211 (fun w s => ct_i_OrderOk _ _ _ _ _ _ _ _ _ w (r.mono (s.get 2 rfl)) (r'.mono (s.get 2 rfl)) (rv.mono (s.get 2 rfl)) (by first | assumption | omega))) rfl ?_)))))))); refine sq_bb 21 rfl (fun c21 => ?_) (fun c21 => ?_)
  · refine sq_v rfl (v_not rfl) rfl (sq_v rfl (v_move rfl) rfl (sq_v rfl (v_move rfl) rfl (sq_v rfl (v_lss rfl rfl) rfl (sq_v rfl (v_pickf rfl rfl) rfl ?_)))); refine sq_bd 26 rfl (fun c26 => ?_) (fun c26 => ?_)
    · refine sq_v rfl (v_move rfl) rfl (sq_s rfl rfl (sq_s rfl rfl (sq_s rfl rfl (sq_s rfl rfl (sq_v rfl (v_pickt rfl rfl) rfl (sq_end (qs_n (wp_ct rfl (wp_sc (wp_sq (sq_v rfl (v_build [num 0, num 0, num 0, .slice none 0 0, .slice none 0 0] rfl (by kernel_rfl)) rfl ?_))))))))))); refine sq_m 0 rfl rfl (m_store 0 ty_32 rfl rfl rfl rfl (by simp [one_int, one_sl]) rfl (Nat.le_of_ble_eq_true rfl)) rfl ?_; rintro _ _ ⟨rfl, rfl⟩; refine sq_v rfl (v_assign rfl) rfl (sq_end (qs_n (wp_rt (qs_r ?_)))); exact qs_retct 0 rfl ty_32 rfl rfl rfl rfl (fin_e (i := 2) rfl (PartNo (fun h => by first | exact orderB_false.1 c21 h.1 | (have := h.2.1; omega))))
    · refine sq_v rfl (v_move rfl) rfl (sq_v rfl (v_move rfl) rfl (sq_v rfl (v_move rfl) rfl (sq_v rfl (v_len Tryz.underlying71 rfl rv.sl) rfl (sq_v rfl (v_gtr rfl rfl) rfl (sq_v rfl (v_pickf rfl rfl) rfl (sq_end (qs_n ?_))))))); refine wp_cd rfl (fun c32 => ?_) (fun c32 => ?_)
      · refine wp_sc (wp_sq (sq_v rfl (v_build [num 0, num 0, num 0, .slice none 0 0, .slice none 0 0] rfl (by kernel_rfl)) rfl ?_)); refine sq_m 0 rfl rfl (m_store 0 ty_32 rfl rfl rfl rfl (by simp [one_int, one_sl]) rfl (Nat.le_of_ble_eq_true rfl)) rfl ?_; rintro _ _ ⟨rfl, rfl⟩; refine sq_v rfl (v_assign rfl) rfl (sq_end (qs_n (wp_rt (qs_r ?_)))); exact qs_retct 0 rfl ty_32 rfl rfl rfl rfl (fin_e (i := 2) rfl (PartNo (fun h => by first | exact orderB_false.1 c21 h.1 | (have := h.2.1; omega))))
      · refine wp_sk (qs_n (wp_sc (wp_sq (sq_v rfl (v_loadNB 1 ty_32 rfl rfl rfl rfl) rfl ?_)))); have hord := orderB_true.1 c21; have hnet := hord.1; have hax := net_axes hnet; have h12 := hnet.2.1; refine sq_x rfl (x_call rfl en_230 (fun w s => ct_i_startState _ _ _ _ _ _ _ w (r.mono (s.get 2 rfl)) (r'.mono (s.get 2 rfl)) hax h12)) rfl ?_; rintro _ h35 ⟨bb, arr, rfl, rst, _⟩; refine sq_v rfl (v_assign rfl) rfl (sq_end (qs_n (wp_sc (wp_sq (sq_v rfl (v_loadNB 2 ty_32 rfl rfl rfl rfl) rfl ?_))))); refine sq_x rfl (x_call rfl en_61 (fun w s => ct_i_copyNetwork _ _ _ _ _ _ _ w (r.mono (s.get 3 rfl)) (r'.mono (s.get 3 rfl)) (by first | assumption | omega) (by first | assumption | omega))) rfl ?_; rintro _ h37 ⟨vt37, vo37, rfl, o37⟩; obtain ⟨cs_T_37, rr_T_37, hc_T_37⟩ := o37.toR.1.at; refine sq_x rfl (x_alloc ty_32 rfl) rfl ?_; rintro _ _ ⟨b9, rfl, rfl⟩; refine sq_m 0 rfl rfl (m_store 0 ty_32 rfl rfl rfl rfl (by simp [one_int, o37.toR.1.sl.one, o37.toR.2.sl.one]) rfl (Nat.le_of_ble_eq_true rfl)) rfl ?_; rintro _ _ ⟨rfl, rfl⟩; refine sq_end ?_; obtain ⟨cs0, g0, go, gl, rr0, ro, oh, md37⟩ := o37.split; have hst0 := few_steps hax hord.2.2; refine qs_s [box b9 [num k, num p, num n, vt37, vo37] 32, h35, box b6 [num 0, num 0, num 0, .slice none 0 0, .slice none 0 0] 32, box b3 [num k, num p, num n, vt, vo] 32, hp w, g0, go, gl] (fun _ s => Sat.open (A := [box b9 [num k, num p, num n, vt37, vo37] 32, h35, box b6 [num 0, num 0, num 0, .slice none 0 0, .slice none 0 0] 32, box b3 [num k, num p, num n, vt, vo] 32, hp w]) md37 (s.pick [1, 0, 2, 3, 4, 5] (by decide) rfl)) (qs_n (wp_sc (wp_sc (wp_sq (sq_v rfl (v_move rfl) rfl (sq_v rfl (v_move rfl) rfl (sq_v rfl (v_sliceH Tryz.underlying71 ty_169 rfl rfl  rv (by omega) (by omega)) rfl ?_))))))); obtain ⟨cs_S_40, rr_S_40, hc_S_40⟩ := (rv.subH (hi := (m : Int).toNat) (by omega)).at; refine sq_v rfl (v_len Tryz.underlying71 rfl (rv.subH (hi := (m : Int).toNat) (by omega)).sl) rfl (sq_v rfl (v_move rfl) rfl (sq_end (qs_n (wp_bl ?_)))); refine wp_lp (σ := Nat × Value × PH × (List Value) × PH × PH) (fun z_ => [(3, .pointer (some ⟨b3, 0, none⟩)), (6, .pointer (some ⟨b6, 0, none⟩)), (7, .bool false), (8, ptrV bb), (9, .pointer (some ⟨b9, 0, none⟩)), (32, .bool (decide ((ss.length : Int) < m))), (40, subV v 0 ((m : Int).toNat) 2), (41, num (ss.take ((m : Int).toNat)).length), (42, num z_.1)]) (fun z_ => [box b9 [num k, num p, num n, z_.2.1, vo37] 32, z_.2.2.2.2.2, box b6 [num 0, num 0, num 0, .slice none 0 0, .slice none 0 0] 32, box b3 [num k, num p, num n, vt, vo] 32, hp w, z_.2.2.1, go, z_.2.2.2.2.1]) (fun z_ => z_.1 ≤ (ss.take (m : Int).toNat).length ∧ (∀ j, j < z_.1 → runFit k p n ts op ss j) ∧ StO arr vo (runS ts op ss z_.1) bb z_.2.2.2.2.2 ∧ OwnH (flat (outTo k p n ts op ss z_.1)) z_.2.2.2.1 z_.2.2.2.2.1 ∧ RowO (39) z_.2.2.2.1 (outTo k p n ts op ss z_.1).length 3 z_.2.1 z_.2.2.1) (fun z_ => (ss.take (m : Int).toNat).length - z_.1) (0, vt37, g0, cs0, gl, h35) (⟨by (try dsimp only); omega, fun j hj => by omega, rst, by (try dsimp only); rw [out_zero]; exact oh, by (try dsimp only); rw [out_zero]; exact rr0⟩) ⟨rfl, rfl, rfl, rfl, rfl, rfl, rfl, rfl, (by first | rfl | exact ksub rfl (by first | omega | (simp; done) | (simp; omega))), trivial⟩ (fun _ s => s) ?_; rintro ⟨i, lx, ha, cs, hl, g⟩ ⟨hi, hfit, rst, hlv, rr⟩; dsimp only at hi hfit rst hlv rr ⊢; have hil : i ≤ ss.length ∧ i ≤ (m : Int).toNat := by rw [List.length_take] at hi; omega
        have hRO := run_ok hord i hil.1 hfit; have hfs := run_fine (ss := ss) hnet i; have hall := run_all (ts := ts) (op := op) (ss := ss) hil.1; have hol := out_len (k := k) (p := p) (n := n) (ts := ts) (op := op) (ss := ss) i; obtain ⟨lv0, rst'⟩ := rst.toR; refine wp_sc (wp_sq (sq_v rfl (v_lss rfl rfl) rfl (sq_end (qs_n (wp_sc ?_))))); refine wp_cd rfl (fun c43 => ?_) (fun c43 => ?_)
        · refine wp_sk (qs_n (wp_sc (wp_bl (wp_sc (wp_sq ?_))))); obtain ⟨x44, hx44, hcs44⟩ := hc_S_40 (i) (by first | omega | (rw [List.length_set]; omega)); refine sq_v rfl (v_indexAddr Tryz.underlying71 ty_169 rfl rfl rr_S_40 (by decide) (by omega) (by first | omega | (rw [List.length_set]; omega))) rfl ?_; refine sq_v rfl (v_loadNE 4 ty_169 rfl rfl rr_S_40 (by have := rr_S_40.1; omega) rfl hcs44) rfl ?_; refine sq_x rfl (x_alloc ty_169 rfl) rfl ?_; rintro _ _ ⟨b11, rfl, rfl⟩; refine sq_m 0 rfl rfl (m_store 0 ty_169 rfl rfl rfl rfl (by simp [Value.oneCell']) rfl (Nat.le_of_ble_eq_true rfl)) rfl ?_; rintro _ _ ⟨rfl, rfl⟩; refine sq_end ?_; obtain ⟨hx, him, hiss⟩ := stp_take hx44; obtain ⟨hst, hs1, _⟩ := run_step hord hiss; have htwo := hRO.two hord hiss; rw [stpAt_of hx] at hst hs1; have p0 := place_ge.2 hst.1; have q0 := place_ge.2 hst.2.1; obtain ⟨hpa, hpl⟩ := place_at hst.1; obtain ⟨hqb, hql⟩ := place_at hst.2.1; have hosn := out_step hord hiss hRO (by rw [stpAt_of hx]; exact hpa) (by rw [stpAt_of hx]; exact hqb); have hfa := hfs.few x44.a.toNat; have hfb := hfs.few x44.b.toNat; refine qs_n (wp_sc (wp_rj 10 [(0, true), (1, true), (2, true), (4, true), (5, true), (6, true), (3, false), (7, false), (8, true), (9, true)] mixed_ok (by kernel_rfl) (rj_v rfl rfl (v_move rfl) rfl (rj_v rfl rfl (v_fieldAddr fd_169_0 ty_3 (by decide) rfl) rfl (rj_v rfl rfl (v_loadB 0 ty_3 rfl rfl rfl) rfl (rj_v rfl rfl (v_move rfl) rfl (rj_v rfl rfl (v_fieldAddr fd_169_1 ty_3 (by decide) rfl) rfl (rj_v rfl rfl (v_loadB 0 ty_3 rfl rfl rfl) rfl (rj_u rfl rfl (x_callv rfl en_232 (fun w s => ct_i_place _ _ _ (runS ts op ss i) _ _ w (rst'.mono (s.get 2 rfl)))) rfl (rj_u rfl rfl (x_callv rfl en_232 (fun w s => ct_i_place _ _ _ (runS ts op ss i) _ _ w (rst'.mono (s.get 2 rfl)))) rfl (rj_v rfl rfl (v_assign rfl) rfl ?_))))))))))); refine rj_v rfl rfl (v_assign rfl) rfl (rj_end (qs_n (wp_sc ?_))); refine wp_ra (σ := Nat × PH × PH × Value × Value × Value × Value) 22 (fun z_ => IntsO ((runS ts op ss i).res op x44.a.toNat x44.b.toNat) z_.2.2.2.1 z_.2.2.1 ∧ RowO 39 cs (outTo k p n ts op ss i).length 3 lx ha ∧ TriO (pairR k p n (runA k p n ts op ss i) (runB k p n ts op ss i) ((runS ts op ss i).res op x44.a.toNat x44.b.toNat)) z_.2.2.2.2.1 z_.2.2.2.2.2.1 z_.2.2.2.2.2.2 z_.2.1) (fun z_ => [(3, .pointer (some ⟨b3, 0, none⟩)), (6, .pointer (some ⟨b6, 0, none⟩)), (7, .bool false), (8, ptrV bb), (9, .pointer (some ⟨b9, 0, none⟩)), (11, .pointer (some ⟨b11, 0, none⟩)), (12, num ((runS ts op ss i).place x44.a)), (13, num ((runS ts op ss i).place x44.b)), (14, .pointer (some ⟨z_.1, 0, none⟩)), (15, .bool (pairB k p n (runA k p n ts op ss i) (runB k p n ts op ss i) ((runS ts op ss i).res op x44.a.toNat x44.b.toNat))), (32, .bool (decide ((ss.length : Int) < m))), (40, subV v 0 ((m : Int).toNat) 2), (41, num (ss.take ((m : Int).toNat)).length), (42, num i), (43, .bool (decide ((i : Int) < (ss.take ((m : Int).toNat)).length))), (45, .agg [num x44.a, num x44.b].toArray), (46, ptrV bb), (47, .pointer (some ⟨b11, 0, none⟩)), (48, num x44.a), (49, num ((runS ts op ss i).place x44.a)), (50, ptrV bb), (51, .pointer (some ⟨b11, 1, none⟩)), (52, num x44.b), (53, num ((runS ts op ss i).place x44.b))]) (fun z_ => [box z_.1 [z_.2.2.2.2.1, z_.2.2.2.2.2.1, z_.2.2.2.2.2.2] 39, z_.2.1, z_.2.2.1, box b11 [num x44.a, num x44.b] 169, box b9 [num k, num p, num n, lx, vo37] 32, g, box b6 [num 0, num 0, num 0, .slice none 0 0, .slice none 0 0] 32, box b3 [num k, num p, num n, vt, vo] 32, hp w, ha, go, hl]) mixed_ok (by kernel_rfl) ?_ ?_
          · refine rak_of (rak_v (i := 0) (by kernel_rfl) rfl rfl (v_fieldAddr fd_32_0 ty_29 (by decide) rfl) rfl (rak_v (i := 1) (by kernel_rfl) rfl rfl (v_loadNB 4 ty_29 rfl rfl rfl rfl) rfl (rak_v (i := 2) (by kernel_rfl) rfl rfl (v_fieldAddr fd_32_1 ty_30 (by decide) rfl) rfl (rak_v (i := 3) (by kernel_rfl) rfl rfl (v_loadB 1 ty_30 rfl rfl rfl) rfl (rak_v (i := 4) (by kernel_rfl) rfl rfl (v_move rfl) rfl ?_))))); obtain ⟨t60, a60, b60, c60, ht60, hcs60, rl60, rd60, rx60⟩ := hlv.at (((runS ts op ss i).place x44.a : Int).toNat) (by first | omega | (rw [List.length_set]; omega)); refine rak_v (i := 5) (by kernel_rfl) rfl rfl (v_indexAddr Tryz.underlying30 ty_39 rfl rfl rr.toR (by decide) (by omega) (by omega)) rfl ?_; refine rak_v (i := 6) (by kernel_rfl) rfl rfl (v_loadNE 6 ty_39 rfl rfl rr.toR (by have := rr.toR.1; omega) rfl hcs60) rfl ?_; refine rak_v (i := 7) (by kernel_rfl) rfl rfl (v_fieldAddr fd_32_1 ty_30 (by decide) rfl) rfl (rak_v (i := 8) (by kernel_rfl) rfl rfl (v_loadB 1 ty_30 rfl rfl rfl) rfl (rak_v (i := 9) (by kernel_rfl) rfl rfl (v_move rfl) rfl ?_)); obtain ⟨t65, a65, b65, c65, ht65, hcs65, rl65, rd65, rx65⟩ := hlv.at (((runS ts op ss i).place x44.b : Int).toNat) (by first | omega | (rw [List.length_set]; omega)); refine rak_v (i := 10) (by kernel_rfl) rfl rfl (v_indexAddr Tryz.underlying30 ty_39 rfl rfl rr.toR (by decide) (by omega) (by omega)) rfl ?_; refine rak_v (i := 11) (by kernel_rfl) rfl rfl (v_loadNE 6 ty_39 rfl rfl rr.toR (by have := rr.toR.1; omega) rfl hcs65) rfl ?_; have e60 : t60 = runA k p n ts op ss i := (by have := out_get (k := k) (p := p) (n := n) hpa; rw [ht60] at this; rw [runA, stpAt_of hx]; exact Option.some.inj this); have e65 : t65 = runB k p n ts op ss i := (by have := out_get (k := k) (p := p) (n := n) hqb; rw [ht65] at this; rw [runB, stpAt_of hx]; exact Option.some.inj this); subst e60; subst e65; refine rak_v (i := 12) (by kernel_rfl) rfl rfl (v_move rfl) rfl (rak_v (i := 13) (by kernel_rfl) rfl rfl (v_move rfl) rfl (rak_v (i := 14) (by kernel_rfl) rfl rfl (v_move rfl) rfl ?_)); refine rak_2 (i := 15) (j := 20) (by kernel_rfl) ?_ ?_
            · refine rok_x rfl rfl (x_call rfl en_233 (fun w s => ct_i_resultLabels _ op _ _ (runS ts op ss i) _ _ _ x44.a.toNat x44.b.toNat w (rst'.mono (s.get 2 rfl)) (r'.mono (s.get 5 rfl)) p0 q0 hpa hqb (by omega))) rfl ?_; rintro v70 h70 r70; refine rak_2 (i := 16) (j := 20) (by kernel_rfl) ?_ ?_
              · refine rok_x rfl rfl (x_call rfl en_99 (fun w s => ct_i_ContractPair _ _ _ _ _ _ _ _ _ _ _ _ _ w (rl60.mono (s.get 9 rfl)) (rd60.mono (s.get 9 rfl)) (rx60.mono (s.get 9 rfl)) (rl65.mono (s.get 9 rfl)) (rd65.mono (s.get 9 rfl)) (rx65.mono (s.get 9 rfl)) (r70.toR.mono (s.get 0 rfl)))) rfl ?_; rintro _ h71 ⟨va71, vb71, vc71, rfl, o71⟩; refine rak_rk [(17, true), (18, true), (19, true), (20, false), (21, false), (22, false)] (by kernel_rfl) rfl (rk_v rfl rfl (v_move rfl) rfl (rk_v rfl rfl (v_extract rfl rfl) rfl (rk_v rfl rfl (v_extract rfl rfl) rfl ?_))); refine rk_xb rfl rfl (x_alloc ty_39 rfl) rfl ?_; rintro _ _ ⟨b14, rfl, rfl⟩; refine rk_m 0 rfl rfl rfl rfl (m_store 0 ty_39 rfl rfl rfl rfl (by simp [o71.toR.1.sl.one, o71.toR.2.1.sl.one, o71.toR.2.2.sl.one]) rfl (Nat.le_of_ble_eq_true rfl)) rfl ?_; rintro _ _ ⟨rfl, rfl⟩; refine rk_fv rfl rfl (v_assign rfl) rfl (rk_end ?_); exact qs_mid (b14, h71, h70, v70, va71, vb71, vc71) ⟨r70, rr, o71⟩ ⟨rfl, rfl, rfl, rfl, rfl, rfl, rfl, rfl, rfl, rfl, rfl, rfl, rfl, rfl, rfl, rfl, rfl, rfl, rfl, rfl, rfl, rfl, rfl, rfl, trivial⟩ (fun _ s => s.pick [0, 1, 2, 3, 4, 5, 6, 7, 8, 9, 10, 11] (by decide) rfl)
              · refine rok_xb rfl rfl (x_alloc ty_39 rfl) rfl ?_; rintro _ _ ⟨b14, rfl, rfl⟩; refine rak_rk [(16, false), (17, true), (18, true), (19, true), (21, false), (22, false)] (by kernel_rfl) rfl ?_; refine rk_x rfl rfl (x_call rfl en_99 (fun w s => ct_i_ContractPair _ _ _ _ _ _ _ _ _ _ _ _ _ w (rl60.mono (s.get 10 rfl)) (rd60.mono (s.get 10 rfl)) (rx60.mono (s.get 10 rfl)) (rl65.mono (s.get 10 rfl)) (rd65.mono (s.get 10 rfl)) (rx65.mono (s.get 10 rfl)) (r70.toR.mono (s.get 1 rfl)))) rfl ?_; rintro _ h71 ⟨va71, vb71, vc71, rfl, o71⟩; refine rk_v rfl rfl (v_move rfl) rfl (rk_v rfl rfl (v_extract rfl rfl) rfl (rk_v rfl rfl (v_extract rfl rfl) rfl ?_)); refine rk_m 1 rfl rfl rfl rfl (m_store 1 ty_39 rfl rfl rfl rfl (by simp [o71.toR.1.sl.one, o71.toR.2.1.sl.one, o71.toR.2.2.sl.one]) rfl (Nat.le_of_ble_eq_true rfl)) rfl ?_; rintro _ _ ⟨rfl, rfl⟩; refine rk_fv rfl rfl (v_assign rfl) rfl (rk_end ?_); exact qs_mid (b14, h71, h70, v70, va71, vb71, vc71) ⟨r70, rr, o71⟩ ⟨rfl, rfl, rfl, rfl, rfl, rfl, rfl, rfl, rfl, rfl, rfl, rfl, rfl, rfl, rfl, rfl, rfl, rfl, rfl, rfl, rfl, rfl, rfl, rfl, trivial⟩ (fun _ s => s.pick [1, 0, 2, 3, 4, 5, 6, 7, 8, 9, 10, 11] (by decide) rfl)
            · refine rok_xb rfl rfl (x_alloc ty_39 rfl) rfl ?_; rintro _ _ ⟨b14, rfl, rfl⟩; refine rak_rk [(15, false), (16, false), (17, true), (18, true), (19, true), (21, false), (22, false)] (by kernel_rfl) rfl ?_; refine rk_x rfl rfl (x_call rfl en_233 (fun w s => ct_i_resultLabels _ op _ _ (runS ts op ss i) _ _ _ x44.a.toNat x44.b.toNat w (rst'.mono (s.get 3 rfl)) (r'.mono (s.get 6 rfl)) p0 q0 hpa hqb (by omega))) rfl ?_; rintro v70 h70 r70; refine rk_x rfl rfl (x_call rfl en_99 (fun w s => ct_i_ContractPair _ _ _ _ _ _ _ _ _ _ _ _ _ w (rl60.mono (s.get 10 rfl)) (rd60.mono (s.get 10 rfl)) (rx60.mono (s.get 10 rfl)) (rl65.mono (s.get 10 rfl)) (rd65.mono (s.get 10 rfl)) (rx65.mono (s.get 10 rfl)) (r70.toR.mono (s.get 0 rfl)))) rfl ?_; rintro _ h71 ⟨va71, vb71, vc71, rfl, o71⟩; refine rk_v rfl rfl (v_move rfl) rfl (rk_v rfl rfl (v_extract rfl rfl) rfl (rk_v rfl rfl (v_extract rfl rfl) rfl ?_)); refine rk_m 2 rfl rfl rfl rfl (m_store 2 ty_39 rfl rfl rfl rfl (by simp [o71.toR.1.sl.one, o71.toR.2.1.sl.one, o71.toR.2.2.sl.one]) rfl (Nat.le_of_ble_eq_true rfl)) rfl ?_; rintro _ _ ⟨rfl, rfl⟩; refine rk_fv rfl rfl (v_assign rfl) rfl (rk_end ?_); exact qs_mid (b14, h71, h70, v70, va71, vb71, vc71) ⟨r70, rr, o71⟩ ⟨rfl, rfl, rfl, rfl, rfl, rfl, rfl, rfl, rfl, rfl, rfl, rfl, rfl, rfl, rfl, rfl, rfl, rfl, rfl, rfl, rfl, rfl, rfl, rfl, trivial⟩ (fun _ s => s.pick [2, 0, 1, 3, 4, 5, 6, 7, 8, 9, 10, 11] (by decide) rfl)
          · rintro ⟨b14, h71, h70, v70, va71, vb71, vc71⟩ ⟨r70, rr, o71⟩; dsimp only at r70 rr o71 ⊢; refine qs_n (wp_sc (wp_sc (wp_sq (sq_v rfl (v_move rfl) rfl (sq_v rfl (v_not rfl) rfl (sq_end ?_)))))); have eK : (runS ts op ss i).res op x44.a.toNat x44.b.toNat = runK ts op ss i := by rw [runK, stpAt_of hx]
            rw [eK] at o71; refine qs_n ?_; refine wp_cn _ rfl (fun c75 => ?_) (fun c75 => ?_)
            · refine wp_sc (wp_sq (sq_v rfl (v_build [num 0, num 0, num 0, .slice none 0 0, .slice none 0 0] rfl (by kernel_rfl)) rfl ?_)); refine sq_m 6 rfl rfl (m_store 6 ty_32 rfl rfl rfl rfl (by simp [one_int, one_sl]) rfl (Nat.le_of_ble_eq_true rfl)) rfl ?_; rintro _ _ ⟨rfl, rfl⟩; refine sq_v rfl (v_assign rfl) rfl (sq_end (qs_n (wp_rt (qs_r (qs_br (qs_r (qs_r (qs_br (qs_r ?_))))))))); exact qs_retct 6 rfl ty_32 rfl rfl rfl rfl (fin_e (i := 8) rfl (PartNo (fun h => by rw [eK] at c75; exact pairB_false.1 c75 (h.2.2 i (by omega)))))
            · refine wp_sk (qs_n (wp_sc (wp_sq (sq_v rfl (v_assign rfl) rfl (sq_end ?_))))); have hpf : runFit k p n ts op ss i := by rw [eK] at c75; exact pairB_true.1 c75
              refine qs_n (wp_sc (wp_sc (wp_sq (sq_v rfl (v_fieldAddr fd_32_1 ty_30 (by decide) rfl) rfl (sq_v rfl (v_loadB 4 ty_30 rfl rfl rfl) rfl (sq_v rfl (v_len Tryz.underlying30 rfl rr.toR.sl) rfl (sq_v rfl (v_move rfl) rfl (sq_end (qs_n (wp_bl ?_)))))))))); refine wp_lp (σ := Nat × Value × PH × (List Value)) (fun z_ => [(3, .pointer (some ⟨b3, 0, none⟩)), (6, .pointer (some ⟨b6, 0, none⟩)), (7, .bool false), (8, ptrV bb), (9, .pointer (some ⟨b9, 0, none⟩)), (11, .pointer (some ⟨b11, 0, none⟩)), (12, num ((runS ts op ss i).place x44.a)), (13, num ((runS ts op ss i).place x44.b)), (14, .pointer (some ⟨b14, 0, none⟩)), (15, .bool (pairB k p n (runA k p n ts op ss i) (runB k p n ts op ss i) ((runS ts op ss i).res op x44.a.toNat x44.b.toNat))), (16, z_.2.1), (32, .bool (decide ((ss.length : Int) < m))), (40, subV v 0 ((m : Int).toNat) 2), (41, num (ss.take ((m : Int).toNat)).length), (42, num i), (43, .bool (decide ((i : Int) < (ss.take ((m : Int).toNat)).length))), (45, .agg [num x44.a, num x44.b].toArray), (46, ptrV bb), (47, .pointer (some ⟨b11, 0, none⟩)), (48, num x44.a), (49, num ((runS ts op ss i).place x44.a)), (50, ptrV bb), (51, .pointer (some ⟨b11, 1, none⟩)), (52, num x44.b), (53, num ((runS ts op ss i).place x44.b)), (74, .bool (pairB k p n (runA k p n ts op ss i) (runB k p n ts op ss i) ((runS ts op ss i).res op x44.a.toNat x44.b.toNat))), (75, .bool (!(pairB k p n (runA k p n ts op ss i) (runB k p n ts op ss i) ((runS ts op ss i).res op x44.a.toNat x44.b.toNat)))), (77, .pointer (some ⟨b9, 3, none⟩)), (78, lx), (79, num (outTo k p n ts op ss i).length), (80, num z_.1)]) (fun z_ => [z_.2.2.1, box b14 [va71, vb71, vc71] 39, h71, h70, box b11 [num x44.a, num x44.b] 169, box b9 [num k, num p, num n, lx, vo37] 32, g, box b6 [num 0, num 0, num 0, .slice none 0 0, .slice none 0 0] 32, box b3 [num k, num p, num n, vt, vo] 32, hp w, ha, go, hl]) (fun z_ => z_.1 ≤ (outTo k p n ts op ss i).length ∧ z_.2.2.2 = dropK 3 cs ((runS ts op ss i).place x44.a).toNat ((runS ts op ss i).place x44.b).toNat z_.1 ∧ RowO (39) z_.2.2.2 (dropK 1 (outTo k p n ts op ss i) ((runS ts op ss i).place x44.a).toNat ((runS ts op ss i).place x44.b).toNat z_.1).length 3 z_.2.1 z_.2.2.1) (fun z_ => (outTo k p n ts op ss i).length - z_.1) (0, .slice none 0 0, emp, []) (⟨by (try dsimp only); omega, rfl, RowO.nil⟩) ⟨rfl, rfl, rfl, rfl, rfl, rfl, rfl, rfl, rfl, rfl, (by first | rfl | exact ksub rfl (by first | omega | (simp; done) | (simp; omega))), rfl, rfl, rfl, rfl, rfl, rfl, rfl, rfl, rfl, rfl, rfl, rfl, rfl, rfl, rfl, rfl, rfl, rfl, rfl, (by first | rfl | exact ksub rfl (by first | omega | (simp; done) | (simp; omega))), trivial⟩ (fun _ s => (emp_sat s)) ?_; rintro ⟨j, lz, hz, dz⟩ ⟨hj, hdz, rz⟩; dsimp only at hj hdz rz ⊢; have hdl := dropK_len (m := 1) (cs := outTo k p n ts op ss i) (p := ((runS ts op ss i).place x44.a).toNat) (q := ((runS ts op ss i).place x44.b).toNat) j; have hxl : (runS ts op ss i).ixs.length ≤ (runS ts op ss i).all.length := by have := List.length_filter_le (fun i' => !(runS ts op ss i).gone.getD i' false) (List.range (runS ts op ss i).all.length); simpa [Sh.ixs] using this
              refine wp_sc (wp_sq (sq_v rfl (v_lss rfl rfl) rfl (sq_end (qs_n (wp_sc ?_))))); refine wp_cd rfl (fun c81 => ?_) (fun c81 => ?_)
              · refine wp_sk (qs_n (wp_sc (wp_bl (wp_sc (wp_sq (sq_v rfl (v_move rfl) rfl ?_)))))); obtain ⟨t83, a83, b83, c83, ht83, hcs83, rl83, rd83, rx83⟩ := hlv.at (j) (by first | omega | (rw [List.length_set]; omega)); refine sq_v rfl (v_indexAddr Tryz.underlying30 ty_39 rfl rfl rr.toR (by decide) (by omega) (by omega)) rfl ?_; refine sq_v rfl (v_loadNE 10 ty_39 rfl rfl rr.toR (by have := rr.toR.1; omega) rfl hcs83) rfl ?_; refine sq_x rfl (x_alloc ty_39 rfl) rfl ?_; rintro _ _ ⟨b18, rfl, rfl⟩; refine sq_v rfl (v_assign rfl) rfl ?_; refine sq_m 0 rfl rfl (m_store 0 ty_39 rfl rfl rfl rfl (by simp [rl83.sl.one, rd83.sl.one, rx83.sl.one]) rfl (Nat.le_of_ble_eq_true rfl)) rfl ?_; rintro _ _ ⟨rfl, rfl⟩; refine sq_end (qs_n (wp_sc (wp_sq (sq_v rfl (v_move rfl) rfl (sq_v rfl (v_move rfl) rfl (sq_v rfl (v_neq rfl rfl) rfl ?_)))))); refine sq_bd 87 rfl (fun c87 => ?_) (fun c87 => ?_)
                · refine sq_v rfl (v_move rfl) rfl (sq_v rfl (v_move rfl) rfl (sq_v rfl (v_move rfl) rfl (sq_v rfl (v_neq rfl rfl) rfl (sq_v rfl (v_pickt rfl rfl) rfl (sq_end (qs_n ?_)))))); refine wp_cd rfl (fun c92 => ?_) (fun c92 => ?_)
                  · refine wp_sq (sq_v rfl (v_move rfl) rfl (sq_v rfl (v_loadNB 0 ty_39 rfl rfl rfl rfl) rfl ?_)); refine sq_x rfl (x_buildS [.agg [a83, b83, c83].toArray] Tryz.underlying30 ty_39 (by decide) rfl rfl rfl (by decide) (by decide) (by intro v hv; simp at hv; subst hv; rfl)) rfl ?_; intro v95 h95 (r95 : RowO 39 [a83, b83, c83] 1 3 v95 h95); refine sq_m 2 rfl rfl (m_append 2 0 Tryz.underlying30 ty_39 rfl rfl (by decide) rfl rfl rfl rz rfl r95.toR (by simp [rl83.sl.one, rd83.sl.one, rx83.sl.one]) (by unfold maxLen; omega) (by omega)) rfl ?_; intro v96 h_r96 (r96 : RowO 39 (dz ++ [a83, b83, c83]) ((dropK 1 (outTo k p n ts op ss i) ((runS ts op ss i).place x44.a).toNat ((runS ts op ss i).place x44.b).toNat j).length + 1) 3 v96 h_r96); refine sq_v rfl (v_assign rfl) rfl (sq_end (qs_bn (qs_n (wp_sq ?_)))); refine sq_v rfl (v_add rfl rfl ((by unfold I64; omega))) rfl ?_; refine sq_v rfl (v_move rfl) rfl (sq_end ?_); exact qs_bk (j + 1, v96, h_r96, dz ++ [a83, b83, c83]) ⟨by (try dsimp only); omega, by (try dsimp only); rw [dropK_yes ⟨by omega, by omega⟩, ← hdz, hcs83], by (try dsimp only); rw [dropK_yes ⟨by omega, by omega⟩, one_drop ht83, List.length_append]; exact r96⟩ (by simp only; omega) ⟨rfl, rfl, rfl, rfl, rfl, rfl, rfl, rfl, rfl, rfl, (by first | rfl | exact ksub rfl (by first | omega | (simp; done) | (simp; omega))), rfl, rfl, rfl, rfl, rfl, rfl, rfl, rfl, rfl, rfl, rfl, rfl, rfl, rfl, rfl, rfl, rfl, rfl, rfl, (by first | rfl | exact ksub rfl (by first | omega | (simp; done) | (simp; omega))), trivial⟩ (fun _ s => s.pick [2, 3, 4, 5, 6, 7, 8, 9, 10, 11, 12, 13, 14] (by decide) rfl)
                  · refine wp_sk (qs_bn (qs_n (wp_sq ?_))); refine sq_v rfl (v_add rfl rfl ((by unfold I64; omega))) rfl ?_; refine sq_v rfl (v_move rfl) rfl (sq_end ?_); exact qs_bk (j + 1, lz, hz, dz) ⟨by (try dsimp only); omega, by (try dsimp only); rw [dropK_no (by omega)]; exact hdz, by (try dsimp only); rw [dropK_no (by omega)]; exact rz⟩ (by simp only; omega) ⟨rfl, rfl, rfl, rfl, rfl, rfl, rfl, rfl, rfl, rfl, (by first | rfl | exact ksub rfl (by first | omega | (simp; done) | (simp; omega))), rfl, rfl, rfl, rfl, rfl, rfl, rfl, rfl, rfl, rfl, rfl, rfl, rfl, rfl, rfl, rfl, rfl, rfl, rfl, (by first | rfl | exact ksub rfl (by first | omega | (simp; done) | (simp; omega))), trivial⟩ (fun _ s => s.pick [1, 2, 3, 4, 5, 6, 7, 8, 9, 10, 11, 12, 13] (by decide) rfl)
                · refine sq_v rfl (v_move rfl) rfl (sq_s rfl rfl (sq_s rfl rfl (sq_s rfl rfl (sq_v rfl (v_pickf rfl rfl) rfl (sq_end (qs_n (wp_cf rfl (wp_sk (qs_bn (qs_n (wp_sq ?_))))))))))); refine sq_v rfl (v_add rfl rfl ((by unfold I64; omega))) rfl ?_; refine sq_v rfl (v_move rfl) rfl (sq_end ?_); exact qs_bk (j + 1, lz, hz, dz) ⟨by (try dsimp only); omega, by (try dsimp only); rw [dropK_no (by omega)]; exact hdz, by (try dsimp only); rw [dropK_no (by omega)]; exact rz⟩ (by simp only; omega) ⟨rfl, rfl, rfl, rfl, rfl, rfl, rfl, rfl, rfl, rfl, (by first | rfl | exact ksub rfl (by first | omega | (simp; done) | (simp; omega))), rfl, rfl, rfl, rfl, rfl, rfl, rfl, rfl, rfl, rfl, rfl, rfl, rfl, rfl, rfl, rfl, rfl, rfl, rfl, (by first | rfl | exact ksub rfl (by first | omega | (simp; done) | (simp; omega))), trivial⟩ (fun _ s => s.pick [1, 2, 3, 4, 5, 6, 7, 8, 9, 10, 11, 12, 13] (by decide) rfl)
              · refine wp_ex (qs_x (qs_x (qs_bx (qs_n (wp_sc (wp_sq (sq_v rfl (v_move rfl) rfl (sq_v rfl (v_loadNB 1 ty_39 rfl rfl rfl rfl) rfl ?_)))))))); refine sq_x rfl (x_buildS [.agg [va71, vb71, vc71].toArray] Tryz.underlying30 ty_39 (by decide) rfl rfl rfl (by decide) (by decide) (by intro v hv; simp at hv; subst hv; rfl)) rfl ?_; intro v100 h100 (r100 : RowO 39 [va71, vb71, vc71] 1 3 v100 h100); refine sq_m 1 rfl rfl (m_append 1 0 Tryz.underlying30 ty_39 rfl rfl (by decide) rfl rfl rfl rz rfl r100.toR (by simp [o71.toR.1.sl.one, o71.toR.2.1.sl.one, o71.toR.2.2.sl.one]) (by unfold maxLen; omega) (by omega)) rfl ?_; intro v101 h_r101 (r101 : RowO 39 (dz ++ [va71, vb71, vc71]) ((dropK 1 (outTo k p n ts op ss i) ((runS ts op ss i).place x44.a).toNat ((runS ts op ss i).place x44.b).toNat j).length + 1) 3 v101 h_r101); refine sq_v rfl (v_fieldAddr fd_32_1 ty_30 (by decide) rfl) rfl ?_; refine sq_m 6 rfl rfl (m_store1 6 ty_30 rfl rfl r101.toR.sl.one rfl (Nat.le_of_ble_eq_true rfl)) rfl ?_; rintro _ _ ⟨rfl, rfl⟩; refine sq_end (qs_n (wp_sq (sq_v rfl (v_move rfl) rfl (sq_v rfl (v_move rfl) rfl (sq_v rfl (v_move rfl) rfl ?_))))); refine sq_m 7 rfl rfl (x_call rfl en_234 (fun w s => ct_i_contract arr op vo _ bb _ _ x44.a.toNat x44.b.toNat w _ (s.get 7 rfl) rst (r'.mono (s.getR 7 10 rfl rfl (by decide))) p0 q0 hpa hqb (by omega) (by omega))) rfl ?_; rintro _ h106 ⟨rfl, rst2⟩; refine sq_end (qs_bn (qs_n (wp_sq ?_))); refine sq_v rfl (v_add rfl rfl ((by unfold I64; omega))) rfl ?_; refine sq_v rfl (v_move rfl) rfl (sq_end ?_); refine qs_dj 13 3 rfl rfl rfl (fun hdj => ?_); have ej : j = (outTo k p n ts op ss i).length := by omega
                subst ej; obtain ⟨g2, hg2, oh2⟩ := hlv.dropK ((runS ts op ss i).place x44.a).toNat ((runS ts op ss i).place x44.b).toNat; rw [← hdz] at oh2; have oh3 := oh2.snoc o71 (hdj.mono hg2); exact qs_bk (i + 1, v101, h_r101, dz ++ [va71, vb71, vc71], PUn g2 h71, h106) ⟨by (try dsimp only); rw [List.length_take]; omega, step_all hfit hpf, by (try dsimp only); rw [hs1]; exact rst2, by (try dsimp only); rw [hosn]; exact oh3, by (try dsimp only); rw [hosn, List.length_append]; exact r101⟩ (by simp only; omega) ⟨rfl, rfl, rfl, rfl, rfl, rfl, rfl, rfl, (by first | rfl | exact ksub rfl (by first | omega | (simp; done) | (simp; omega))), trivial⟩ (fun _ s => ((Sat.merge (s.pick (HS' := [hl, h71, box b9 [num k, num p, num n, v101, vo37] 32, h106, box b6 [num 0, num 0, num 0, .slice none 0 0, .slice none 0 0] 32, box b3 [num k, num p, num n, vt, vo] 32, hp w, h_r101, go]) [13, 3, 6, 7, 8, 9, 10, 1, 12] (by decide) rfl)).less (i := 0) rfl (PUn.mono_l hg2 hdj)).pick [1, 2, 3, 4, 5, 6, 7, 0] (by decide) rfl)
        · refine wp_ex (qs_x (qs_x (qs_bx (qs_n (wp_sc (wp_sq (sq_v rfl (v_loadNB 0 ty_32 rfl rfl rfl rfl) rfl ?_))))))); refine sq_m 2 rfl rfl (m_store 2 ty_32 rfl rfl rfl rfl (by simp [one_int, rr.toR.sl.one, ro.toR.sl.one]) rfl (Nat.le_of_ble_eq_true rfl)) rfl ?_; rintro _ _ ⟨rfl, rfl⟩; refine sq_v rfl (v_assign rfl) rfl (sq_end (qs_n (wp_rt ?_))); have ei : i = (m : Int).toNat := by have : ¬ i < (ss.take (m : Int).toNat).length := (by omega); rw [List.length_take] at this; omega
          refine qs_close [box b6 _ _, hp w] [ha, go, hl] (fun _ s => s.pick [2, 4, 5, 6, 7] (by decide) rfl) (fun md => ?_); exact qs_retct 1 rfl ty_32 rfl rfl rfl rfl (fin_t 0 (i := 2) rfl rfl rfl (PartYes ⟨hord, ⟨by omega, by omega⟩, by rw [← ei]; exact hfit⟩ (by rw [← ei]; exact NetO.join rr ro hlv md)))
  · refine sq_v rfl (v_not rfl) rfl (sq_v rfl (v_move rfl) rfl (sq_s rfl rfl (sq_s rfl rfl (sq_v rfl (v_pickt rfl rfl) rfl (sq_v rfl (v_move rfl) rfl (sq_s rfl rfl (sq_s rfl rfl (sq_s rfl rfl (sq_s rfl rfl ?_))))))))); refine sq_v rfl (v_pickt rfl rfl) rfl (sq_end (qs_n (wp_ct rfl (wp_sc (wp_sq (sq_v rfl (v_build [num 0, num 0, num 0, .slice none 0 0, .slice none 0 0] rfl (by kernel_rfl)) rfl ?_)))))); refine sq_m 0 rfl rfl (m_store 0 ty_32 rfl rfl rfl rfl (by simp [one_int, one_sl]) rfl (Nat.le_of_ble_eq_true rfl)) rfl ?_; rintro _ _ ⟨rfl, rfl⟩; refine sq_v rfl (v_assign rfl) rfl (sq_end (qs_n (wp_rt (qs_r ?_)))); exact qs_retct 0 rfl ty_32 rfl rfl rfl rfl (fin_e (i := 2) rfl (PartNo (fun h => by first | exact orderB_false.1 c21 h.1 | (have := h.2.1; omega))))
theorem ct_L_iPartial (k p n m : Int) (ts : List Ten) (op : List Int) (ss : List Stp) (vt vo v : Value) (w : World) (r : TensR ts vt (hp w)) (r' : IntsR op vo (hp w)) (rv : StepsR ss v (hp w)) (hs : op.length ≤ 1048576) :
    Calls Tryz.prog 213 [netV k p n vt vo, v, num m].toArray w (Ret w emp (NetB (ifB (partB k p n ts op ss m) k 0) (ifB (partB k p n ts op ss m) p 0) (ifB (partB k p n ts op ss m) n 0) (partTs k p n ts op ss m) (partOp k p n ts op ss m) (partB k p n ts op ss m))) :=
  ct_i_PartialNetwork k p n m ts op ss vt vo v w r r' rv hs
end Go.Proofs.YtmddmahaikineaaGreat
