/-
  Parts of the proof of FnExactRunCode: laws of heaps, contracts of functions.
  Conditions: none.
-/
import Derived.Test.YthlmjnihihbckaaGreatQRunCode5
namespace Go.Proofs.YthlmjnihihbckaaGreat
set_option maxRecDepth 100000
open Go.RowKit
abbrev noTen : Ten := ⟨[], [], []⟩
theorem dimJ_f {t u : Ten} {f : Int → Int} (ht : t.d = t.l.map f) (hu : u.d = u.l.map f) {x : Int} (hx : x ∈ joinI t.l u.l) : dimJ t u x = f x := by
  unfold dimJ
  by_cases h : x ∈ t.l
  · rw [if_pos h, ht, map_getD (findI_get h).1, (findI_get h).2]
  · have h2 := (mem_joinI.1 hx).resolve_left h; rw [if_neg h, hu, map_getD (findI_get h2).1, (findI_get h2).2]
theorem keep_map {t u : Ten} {f : Int → Int} (ht : t.d = t.l.map f) (hu : u.d = u.l.map f) (ks : List Int) : (keepL t u ks).map (dimJ t u) = (keepL t u ks).map f :=
  List.map_congr_left fun _ hx => dimJ_f ht hu (List.mem_filter.1 hx).1
theorem pair_ten {k p n : Int} {t u : Ten} {ks : List Int} (h : pairP k p n t u ks) : tensorL k p n (pairR k p n t u ks).l (pairR k p n t u ks).d (pairR k p n t u ks).x ∧ (pairR k p n t u ks).l = keepL t u ks ∧ (pairR k p n t u ks).d = (keepL t u ks).map (dimJ t u) := by
  have ok := pair_ok h.1 h.2.1 h.2.2.1 h.2.2.2.1; have hk := keep_ok ok h.2.2.2.2; have ha := ok.all hk (prodI ((joinI t.l u.l).map (dimJ t u))).toNat; have hs := sizeI_ge.1 h.2.2.2.2; rw [pairR, if_pos h]; refine ⟨⟨h.1.1, h.2.2.2.2, ?_, ha.2⟩, rfl, rfl⟩
  show ((pairX k p n (dimJ t u) t u (keepL t u ks) _).length : Int) = sizeI (keepL t u ks) ((keepL t u ks).map (dimJ t u)) * widthI k n
  rw [sizeI_yes hs.1 hs.2]; exact ha.1
theorem pairP_iff {k p n : Int} {t u : Ten} {f : Int → Int} {ks : List Int} (h1 : tensorL k p n t.l t.d t.x) (h2 : tensorL k p n u.l u.d u.x) (ht : t.d = t.l.map f) (hu : u.d = u.l.map f) :
    pairP k p n t u ks ↔ prodI ((joinI t.l u.l).map f) ≤ 65536 ∧ 0 ≤ sizeI (keepL t u ks) ((keepL t u ks).map f) := by
  unfold pairP
  rw [joinD_map ht hu, keep_map ht hu]; exact ⟨fun h => ⟨h.2.2.2.1, h.2.2.2.2⟩, fun h => ⟨h1, h2, mism_not ht hu, h.1, h.2⟩⟩
theorem keepL_self {t u : Ten} {q : Int → Bool} : keepL t u ((joinI t.l u.l).filter q) = (joinI t.l u.l).filter q := by
  unfold keepL
  refine List.filter_congr fun x hx => ?_; rw [Bool.eq_iff_iff, decide_eq_true_eq, List.mem_filter]; exact ⟨fun h => h.2, fun h => ⟨hx, h⟩⟩
theorem pairB_true {k p n : Int} {t u : Ten} {a : List Int} : pairB k p n t u a = true ↔ pairP k p n t u a := by simp [pairB]
theorem pairB_false {k p n : Int} {t u : Ten} {a : List Int} : pairB k p n t u a = false ↔ ¬ pairP k p n t u a := by simp [pairB]
def stpAt (ss : List Stp) (i : Nat) : Stp := ss.getD i ⟨0, 0⟩
theorem stpAt_of {ss : List Stp} {i : Nat} {x : Stp} (h : ss[i]? = some x) : stpAt ss i = x := by simp [stpAt, List.getD, h]
noncomputable def runS (ts : List Ten) (op : List Int) (ss : List Stp) (i : Nat) : Sh := shTo op (sh0 ts) (ss.take i)
noncomputable def runK (ts : List Ten) (op : List Int) (ss : List Stp) (i : Nat) : List Int := (runS ts op ss i).res op (stpAt ss i).a.toNat (stpAt ss i).b.toNat
noncomputable def runTo (k p n : Int) (ts : List Ten) (op : List Int) (ss : List Stp) : Nat → List Ten
  | 0 => ts
  | i + 1 => runTo k p n ts op ss i ++ [pairR k p n ((runTo k p n ts op ss i).getD (stpAt ss i).a.toNat noTen) ((runTo k p n ts op ss i).getD (stpAt ss i).b.toNat noTen) (runK ts op ss i)]
noncomputable def runA (k p n : Int) (ts : List Ten) (op : List Int) (ss : List Stp) (i : Nat) : Ten := (runTo k p n ts op ss i).getD (stpAt ss i).a.toNat noTen
noncomputable def runB (k p n : Int) (ts : List Ten) (op : List Int) (ss : List Stp) (i : Nat) : Ten := (runTo k p n ts op ss i).getD (stpAt ss i).b.toNat noTen
def runFit (k p n : Int) (ts : List Ten) (op : List Int) (ss : List Stp) (i : Nat) : Prop := pairP k p n (runA k p n ts op ss i) (runB k p n ts op ss i) (runK ts op ss i)
structure RunOK (k p n : Int) (ts : List Ten) (op : List Int) (ss : List Stp) (i : Nat) : Prop where
  len : (runTo k p n ts op ss i).length = ts.length + i
  ten : ∀ (j : Nat) (t : Ten), (runTo k p n ts op ss i)[j]? = some t → tensorL k p n t.l t.d t.x ∧ t.l = (runS ts op ss i).lab j ∧ t.d = t.l.map (dimOf ts)
section
variable {k p n : Int} {ts : List Ten} {op : List Int} {ss : List Stp}
theorem runTo_step (i : Nat) : runTo k p n ts op ss (i + 1) = runTo k p n ts op ss i ++ [pairR k p n (runA k p n ts op ss i) (runB k p n ts op ss i) (runK ts op ss i)] := rfl
theorem RunOK.get {i : Nat} (r : RunOK k p n ts op ss i) {j : Nat} (hj : j < ts.length + i) : tensorL k p n ((runTo k p n ts op ss i).getD j noTen).l ((runTo k p n ts op ss i).getD j noTen).d ((runTo k p n ts op ss i).getD j noTen).x ∧
    ((runTo k p n ts op ss i).getD j noTen).l = (runS ts op ss i).lab j ∧ ((runTo k p n ts op ss i).getD j noTen).d = ((runTo k p n ts op ss i).getD j noTen).l.map (dimOf ts) := by
  have hlt : j < (runTo k p n ts op ss i).length := by rw [r.len]; exact hj
  have h := r.ten j _ (List.getElem?_eq_getElem hlt); have e2 : (runTo k p n ts op ss i).getD j noTen = (runTo k p n ts op ss i)[j] := by simp [List.getD, List.getElem?_eq_getElem hlt]
  rw [e2]; exact h
theorem run_step (h : orderL k p n ts op ss) {i : Nat} (hi : i < ss.length) : stepOk (runS ts op ss i) (stpAt ss i) ∧ runS ts op ss (i + 1) = (runS ts op ss i).step op (stpAt ss i).a.toNat (stpAt ss i).b.toNat ∧ (runS ts op ss i).all.length = ts.length + i := by
  have hx : ss[i]? = some ss[i] := List.getElem?_eq_getElem hi; refine ⟨?_, ?_, ?_⟩
  · rw [stpAt_of hx]; exact h.2.2 i hi _ hx
  · rw [stpAt_of hx]; exact shTo_step hx
  · rw [runS, shTo_all, show (sh0 ts).all.length = ts.length by simp [sh0], List.length_take]; omega
theorem run_fine (h : netL k p n ts op) (i : Nat) : (runS ts op ss i).fine := shTo_fine (sh0_fine (net_axes h)) _
theorem RunOK.two {i : Nat} (r : RunOK k p n ts op ss i) (h : orderL k p n ts op ss) (hi : i < ss.length) :
    (tensorL k p n (runA k p n ts op ss i).l (runA k p n ts op ss i).d (runA k p n ts op ss i).x ∧ (runA k p n ts op ss i).l = (runS ts op ss i).lab (stpAt ss i).a.toNat ∧ (runA k p n ts op ss i).d = (runA k p n ts op ss i).l.map (dimOf ts)) ∧
    (tensorL k p n (runB k p n ts op ss i).l (runB k p n ts op ss i).d (runB k p n ts op ss i).x ∧ (runB k p n ts op ss i).l = (runS ts op ss i).lab (stpAt ss i).b.toNat ∧ (runB k p n ts op ss i).d = (runB k p n ts op ss i).l.map (dimOf ts)) := by
  obtain ⟨⟨⟨a0, a1, _⟩, ⟨b0, b1, _⟩, _⟩, _, hl⟩ := run_step h hi; exact ⟨r.get (by omega), r.get (by omega)⟩
theorem RunOK.kept {i : Nat} (r : RunOK k p n ts op ss i) (h : orderL k p n ts op ss) (hi : i < ss.length) : keepL (runA k p n ts op ss i) (runB k p n ts op ss i) (runK ts op ss i) = runK ts op ss i := by
  obtain ⟨⟨_, la, _⟩, ⟨_, lb, _⟩⟩ := r.two h hi; have e : runK ts op ss i = (joinI (runA k p n ts op ss i).l (runB k p n ts op ss i).l).filter fun x => @decide ((runS ts op ss i).kept op (stpAt ss i).a.toNat (stpAt ss i).b.toNat x) (Classical.propDecidable _) := by rw [la, lb]; rfl
  rw [e]; exact keepL_self
theorem RunOK.step {i : Nat} (r : RunOK k p n ts op ss i) (h : orderL k p n ts op ss) (hi : i < ss.length) (hf : runFit k p n ts op ss i) : RunOK k p n ts op ss (i + 1) := by
  obtain ⟨hst, hs1, hl⟩ := run_step h hi; obtain ⟨⟨ta, la, da⟩, ⟨tb, lb, db⟩⟩ := r.two h hi; have hk := r.kept h hi; obtain ⟨p1, p2, p3⟩ := pair_ten hf; rw [keep_map da db, hk] at p3; rw [hk] at p2; refine ⟨by rw [runTo_step, List.length_append, r.len]; simp; omega, fun j t hj => ?_⟩; rw [runTo_step] at hj
  rcases Nat.lt_or_ge j (runTo k p n ts op ss i).length with hlt | hge
  · rw [List.getElem?_append_left hlt] at hj; have := r.ten j t hj; rw [hs1, step_lab (by rw [hl, ← r.len]; exact hlt)]; exact this
  · rw [List.getElem?_append_right hge] at hj; have e0 : j - (runTo k p n ts op ss i).length = 0 := by
      rcases Nat.eq_zero_or_pos (j - (runTo k p n ts op ss i).length) with h0 | h0
      · exact h0
      · rw [List.getElem?_eq_none (by simp; omega)] at hj; cases hj
    rw [e0] at hj
    simp at hj
    subst hj; refine ⟨p1, ?_, ?_⟩
    · rw [p2, hs1, show j = (runS ts op ss i).all.length by rw [hl, ← r.len]; omega, step_lab_new]; rfl
    · rw [p2, p3]
theorem run_ok (h : orderL k p n ts op ss) : ∀ i, i ≤ ss.length → (∀ j, j < i → runFit k p n ts op ss j) → RunOK k p n ts op ss i
  | 0, _, _ => by
    refine ⟨rfl, fun j t hj => ?_⟩; have hj' : ts[j]? = some t := hj; have hm := List.mem_of_getElem? hj'; exact ⟨h.1.2.2.1 t hm, by simp [runS, shTo, Sh.lab, sh0, List.getD, hj'], net_dmap h.1 t hm⟩
  | i + 1, hi, hf => (run_ok h i (by omega) fun j hj => hf j (by omega)).step h (by omega) (hf i (by omega))
/-- The rows of m cells but those at p and q, of the first k. -/
def dropK {α : Type} (m : Nat) (cs : List α) (p q : Nat) : Nat → List α
  | 0 => []
  | k + 1 => if k ≠ p ∧ k ≠ q then dropK m cs p q k ++ (cs.drop (k * m)).take m else dropK m cs p q k
theorem dropK_yes {α : Type} {m : Nat} {cs : List α} {p q k : Nat} (h : k ≠ p ∧ k ≠ q) : dropK m cs p q (k + 1) = dropK m cs p q k ++ (cs.drop (k * m)).take m := by rw [dropK, if_pos h]
theorem dropK_no {α : Type} {m : Nat} {cs : List α} {p q k : Nat} (h : ¬ (k ≠ p ∧ k ≠ q)) : dropK m cs p q (k + 1) = dropK m cs p q k := by rw [dropK, if_neg h]
theorem one_drop {α : Type} {l : List α} {k : Nat} {x : α} (h : l[k]? = some x) : (l.drop (k * 1)).take 1 = [x] := by
  obtain ⟨hk, rfl⟩ := List.getElem?_eq_some_iff.1 h; rw [Nat.mul_one, List.drop_eq_getElem_cons hk]; rfl
theorem dropK_len {α : Type} {m : Nat} {cs : List α} {p q : Nat} : ∀ k, (dropK m cs p q k).length ≤ k * m
  | 0 => by simp [dropK]
  | k + 1 => by
    have ih := dropK_len (m := m) (cs := cs) (p := p) (q := q) k; have e : (k + 1) * m = k * m + m := by rw [Nat.add_mul, Nat.one_mul]
    by_cases h : k ≠ p ∧ k ≠ q
    · rw [dropK_yes h, List.length_append, List.length_take]; omega
    · rw [dropK_no h]; omega
noncomputable def outTo (k p n : Int) (ts : List Ten) (op : List Int) (ss : List Stp) (i : Nat) : List Ten := (runS ts op ss i).ixs.map fun j => (runTo k p n ts op ss i).getD j noTen
theorem dimOf_mem {ts : List Ten} {x : Int} (h : dimOf ts x ≠ 0) : ∃ t ∈ ts, x ∈ t.l := by
  induction ts with
  | nil => simp [dimOf] at h
  | cons t ts ih =>
    rw [dimOf] at h
    by_cases hx : x ∈ t.l
    · exact ⟨t, by simp, hx⟩
    · rw [if_neg hx] at h; obtain ⟨u, hu, hxu⟩ := ih h; exact ⟨u, by simp [hu], hxu⟩
theorem run_open (h : orderL k p n ts op ss) {x : Int} (hx : x ∈ op) : ∀ i, i ≤ ss.length → ∃ j ∈ (runS ts op ss i).ixs, x ∈ (runS ts op ss i).lab j
  | 0, _ => by
    obtain ⟨j, hj, e⟩ := getD_of_mem hx; have ho := (open_at h.1.2.2.2.2 hj).2; rw [e] at ho; obtain ⟨t, ht, hxt⟩ := dimOf_mem (ts := ts) (x := x) (by omega); obtain ⟨m, hm⟩ := List.getElem?_of_mem ht; have hml := (List.getElem?_eq_some_iff.1 hm).1; have e0 : runS ts op ss 0 = sh0 ts := rfl; refine ⟨m, by rw [e0, sh0_ixs]; simpa using hml, ?_⟩; rw [e0]
    simpa [Sh.lab, sh0, List.getD, hm] using hxt
  | i + 1, hi => by
    obtain ⟨j, hj, hxj⟩ := run_open h hx i (by omega); obtain ⟨hst, hs1, hl⟩ := run_step h (i := i) (by omega); have hok := (run_fine (ss := ss) h.1 i).1; rw [hs1]
    by_cases hc : j ≠ (stpAt ss i).a.toNat ∧ j ≠ (stpAt ss i).b.toNat
    · refine ⟨j, by rw [step_ixs hok]; simp [hj, hc], ?_⟩; rw [step_lab (mem_ixs.1 hj).1]; exact hxj
    · refine ⟨(runS ts op ss i).all.length, by rw [step_ixs hok]; simp, ?_⟩; rw [step_lab_new]; refine List.mem_filter.2 ⟨mem_joinI.2 ?_, by simpa using .inl hx⟩
      by_cases ea : j = (stpAt ss i).a.toNat
      · exact .inl (ea ▸ hxj)
      · exact .inr ((show j = (stpAt ss i).b.toNat by omega) ▸ hxj)
theorem run_left (h : orderL k p n ts op ss) (hn : ts ≠ []) : (runS ts op ss ss.length).ixs = [ts.length + ss.length - 1] := by
  have hlen : ts.length ≠ 0 := fun e => hn (List.eq_nil_of_length_eq_zero e); have hc := steps_count (op := op) (sh0_fine (net_axes h.1)) h.2.2 ss.length (Nat.le_refl _); rw [show (sh0 ts).ixs.length = ts.length by rw [sh0_ixs]; simp] at hc; have h1 : (runS ts op ss ss.length).ixs.length = 1 := by
    have := h.2.1
    show (shTo op (sh0 ts) (ss.take ss.length)).ixs.length = 1
    omega
  have hm : ts.length + ss.length - 1 ∈ (runS ts op ss ss.length).ixs := by
    rcases Nat.eq_zero_or_pos ss.length with h0 | h0
    · have e0 : runS ts op ss ss.length = sh0 ts := by rw [h0]; rfl
      rw [e0, sh0_ixs, h0]; simp; omega
    · obtain ⟨hst, hs1, hl⟩ := run_step h (i := ss.length - 1) (by omega); rw [show ss.length - 1 + 1 = ss.length by omega] at hs1; rw [hs1, step_ixs (run_fine (ss := ss) h.1 _).1, hl]
      simp; omega
  obtain ⟨y, hy⟩ := List.length_eq_one_iff.1 h1; rw [hy] at hm ⊢
  simp at hm
  rw [hm]
end
end Go.Proofs.YthlmjnihihbckaaGreat
namespace Go.Proofs.YthlmjnihihbckaaGreat
set_option maxRecDepth 100000
open Go.RowKit
theorem Made.join3 {h a b : PH} {l : List PH} (m : Made h (a :: b :: l)) : Made h [a, b, joinP l] := by
  have hs := m.sep; have hl : PLe (joinP l) h := fun k o e => by
    obtain ⟨y, hy, e'⟩ := joinP_dom e; exact m.le y (by simp [hy]) k o e'
  refine ⟨⟨fun x hx => ?_, fun x hx => ?_, fun x hx => by simp at hx, trivial⟩, fun x hx => ?_, fun k o e => ?_⟩
  · rcases List.mem_cons.1 hx with rfl | hx
    · exact hs.1 _ (by simp)
    · simp at hx; subst hx
      exact PDj.join fun y hy => hs.1 y (by simp [hy])
  · simp at hx; subst hx
    exact PDj.join fun y hy => hs.2.1 y hy
  · simp at hx
    rcases hx with rfl | rfl | rfl
    · exact m.le _ (by simp)
    · exact m.le _ (by simp)
    · exact hl
  · obtain ⟨x, hx, e'⟩ := m.dom k o e
    simp at hx
    rcases hx with rfl | rfl | hx
    · exact ⟨x, by simp, e'⟩
    · exact ⟨x, by simp, e'⟩
    · exact ⟨joinP l, by simp, PLe.join hs.2.2 x hx k o e'⟩
theorem Made.part3 {h a b c : PH} {l : List PH} (m : Made h [a, b, c]) (ml : Made c l) : Made h (a :: b :: l) := by
  have hs := m.sep; have hc : PLe c h := m.le c (by simp); refine ⟨⟨fun x hx => ?_, fun x hx => ?_, ml.sep⟩, fun x hx => ?_, fun k o e => ?_⟩
  · rcases List.mem_cons.1 hx with rfl | hx
    · exact hs.1 _ (by simp)
    · exact (((hs.1 c (by simp)).symm).mono (ml.le x hx)).symm
  · exact (((hs.2.1 c (by simp)).symm).mono (ml.le x hx)).symm
  · simp at hx
    rcases hx with rfl | rfl | hx
    · exact m.le _ (by simp)
    · exact m.le _ (by simp)
    · exact (ml.le x hx).trans hc
  · obtain ⟨x, hx, e'⟩ := m.dom k o e
    simp at hx
    rcases hx with rfl | rfl | rfl
    · exact ⟨x, by simp, e'⟩
    · exact ⟨x, by simp, e'⟩
    · obtain ⟨y, hy, e2⟩ := ml.dom k o e'; exact ⟨y, by simp [hy], e2⟩
theorem NetO.split {ts : List Ten} {op : List Int} {vt vo : Value} {h : PH} (r : NetO ts op vt vo h) : ∃ cs h0 ho hl, RowO 34 cs ts.length 3 vt h0 ∧ IntsO op vo ho ∧ OwnH (flat ts) cs hl ∧ Made h [h0, ho, hl] := by
  obtain ⟨cs, h0, ho, l, r0, r1, o, m⟩ := r; exact ⟨cs, h0, ho, joinP l, r0, r1, ⟨l, o, Made.join m.sep.2.2⟩, m.join3⟩
theorem NetO.join {ts : List Ten} {op : List Int} {vt vo : Value} {h h0 ho hl : PH} {cs : List Value} (r0 : RowO 34 cs ts.length 3 vt h0) (r1 : IntsO op vo ho) (o : OwnH (flat ts) cs hl) (m : Made h [h0, ho, hl]) : NetO ts op vt vo h := by
  obtain ⟨l, o, ml⟩ := o; exact ⟨cs, h0, ho, l, r0, r1, o, m.part3 ml⟩
theorem OwnL.take {xss : List (List Int)} {vs : List Value} {l : List PH} (o : OwnL xss vs l) (n : Nat) : OwnL (xss.take n) (vs.take n) (l.take n) := by
  refine ⟨by simp [o.l1], by simp [o.l2], fun i xs h => ?_⟩; have hi : i < n := by
    rcases Nat.lt_or_ge i n with h' | h'
    · exact h'
    · rw [List.getElem?_take, if_neg (by omega)] at h; cases h
  rw [List.getElem?_take, if_pos hi] at h ⊢; rw [List.getElem?_take, if_pos hi]; exact o.own i xs h
theorem OwnL.drop {xss : List (List Int)} {vs : List Value} {l : List PH} (o : OwnL xss vs l) (n : Nat) : OwnL (xss.drop n) (vs.drop n) (l.drop n) := by
  refine ⟨by simp [o.l1], by simp [o.l2], fun i xs h => ?_⟩; rw [List.getElem?_drop] at h ⊢; rw [List.getElem?_drop]; exact o.own (n + i) xs h
theorem flat_take {ts : List Ten} {i : Nat} (h : i ≤ ts.length) : flat (ts.take i) = (flat ts).take (i * 3) ∧ flat (ts.drop i) = (flat ts).drop (i * 3) := by
  have e : flat ts = flat (ts.take i) ++ flat (ts.drop i) := by rw [← flat_append, List.take_append_drop]
  have hl : (flat (ts.take i)).length = i * 3 := by rw [flat_len, List.length_take, Nat.min_eq_left h]
  constructor
  · rw [e, List.take_left' hl]
  · rw [e, List.drop_left' hl]
theorem flat_set {ts : List Ten} {i : Nat} (h : i < ts.length) (u : Ten) : flat (ts.set i u) = (flat ts).take (i * 3) ++ [u.l, u.d, u.x] ++ (flat ts).drop (i * 3 + 3) := by
  rw [List.set_eq_take_append_cons_drop, if_pos h, flat_append, (flat_take (Nat.le_of_lt h)).1, show i * 3 + 3 = (i + 1) * 3 by omega, ← (flat_take (show i + 1 ≤ ts.length by omega)).2, List.append_assoc]
  rfl
theorem sep_mono {l l' : List PH} (h : sepL l) (hs : l'.Sublist l) : sepL l' := by
  induction hs with
  | slnil => exact trivial
  | cons x _ ih => exact ih h.2
  | cons_cons x s ih => exact ⟨fun y hy => h.1 y (s.subset hy), ih h.2⟩
theorem OwnH.set {ts : List Ten} {u : Ten} {cs : List Value} {a b c : Value} {h h' : PH} {i : Nat} (hi : i < ts.length) (o : OwnH (flat ts) cs h) (r : TriO u a b c h') (hd : PDj h h') :
    ∃ g, PLe g (PUn h h') ∧ OwnH (flat (ts.set i u)) (cs.take (i * 3) ++ [a, b, c] ++ cs.drop (i * 3 + 3)) g := by
  obtain ⟨l, ol, m⟩ := o; obtain ⟨h1, h2, h3, r1, r2, r3, m'⟩ := r; have hx : ∀ x ∈ l.take (i * 3) ++ [h1, h2, h3] ++ l.drop (i * 3 + 3), PLe x (PUn h h') := fun x hx => by
    simp only [List.mem_append] at hx
    rcases hx with (hx | hx) | hx
    · exact (m.le x (List.mem_of_mem_take hx)).trans (PLe.un_l _ _)
    · exact (m'.le x hx).trans (PLe.un_r hd)
    · exact (m.le x (List.mem_of_mem_drop hx)).trans (PLe.un_l _ _)
  have hab : ∀ x ∈ l, ∀ y ∈ [h1, h2, h3], PDj x y := fun x hx y hy => (((hd.mono (m.le x hx)).symm).mono (m'.le y hy)).symm; have hsub : (l.take (i * 3) ++ l.drop (i * 3 + 3)).Sublist l := by
    conv => rhs; rw [← List.take_append_drop (i * 3) l]
    refine List.Sublist.append (List.Sublist.refl _) ?_; rw [← List.drop_drop]; exact List.drop_sublist _ _
  have hsep := sepL_append.1 (sep_mono m.sep hsub); have hs : sepL (l.take (i * 3) ++ [h1, h2, h3] ++ l.drop (i * 3 + 3)) := by
    refine sepL_append.2 ⟨sepL_append.2 ⟨hsep.1, m'.sep, fun x hx y hy => hab x (List.mem_of_mem_take hx) y hy⟩, hsep.2.1, fun x hx y hy => ?_⟩
    rcases List.mem_append.1 hx with hx | hx
    · exact hsep.2.2 x hx y hy
    · exact (hab y (List.mem_of_mem_drop hy) x hx).symm
  refine ⟨joinP (l.take (i * 3) ++ [h1, h2, h3] ++ l.drop (i * 3 + 3)), fun k o e => ?_, _, ?_, Made.join hs⟩
  · obtain ⟨y, hy, e'⟩ := joinP_dom e; exact hx y hy k o e'
  · rw [flat_set hi]; exact ((ol.take _).append (OwnL.three r1 r2 r3)).append (ol.drop _)
def replP (k p n : Int) (ts : List Ten) (op : List Int) (i : Int) (u : Ten) : Prop := netL k p n ts op ∧ (0 ≤ i ∧ i < ts.length) ∧ fitP k p n (ts.getD i.toNat ⟨[], [], []⟩) u
open Classical in
noncomputable def replB (k p n : Int) (ts : List Ten) (op : List Int) (i : Int) (u : Ten) : Bool := decide (replP k p n ts op i u)
noncomputable def ifB {α : Type} (b : Bool) (x y : α) : α := if b then x else y
noncomputable def replTs (k p n : Int) (ts : List Ten) (op : List Int) (i : Int) (u : Ten) : List Ten := ifB (replB k p n ts op i u) (ts.set i.toNat u) []
noncomputable def replOp (k p n : Int) (ts : List Ten) (op : List Int) (i : Int) (u : Ten) : List Int := ifB (replB k p n ts op i u) op []
def ReplR (k p n : Int) (ts : List Ten) (op : List Int) (i : Int) (u : Ten) (x : Value) (h : PH) : Prop :=
  ∃ vt vo, x = .tuple [netV (ifB (replB k p n ts op i u) k 0) (ifB (replB k p n ts op i u) p 0) (ifB (replB k p n ts op i u) n 0) vt vo, .bool (replB k p n ts op i u)].toArray ∧ NetO (replTs k p n ts op i u) (replOp k p n ts op i u) vt vo h
theorem NetO.nil : NetO [] [] (.slice none 0 0) (.slice none 0 0) emp :=
  ⟨[], emp, emp, [], RowO.nil, IntsO.nil, OwnL.nil, ⟨by simp [sepL, PDj.emp], fun x hx => by simp at hx; subst hx; exact PLe.emp _, fun k o e => by cases e⟩⟩
theorem ReplR.no {k p n i : Int} {ts : List Ten} {op : List Int} {u : Ten} (h : ¬ replP k p n ts op i u) : ReplR k p n ts op i u (.tuple [netV 0 0 0 (.slice none 0 0) (.slice none 0 0), .bool false].toArray) emp := by
  have e : replB k p n ts op i u = false := by simp [replB, h]
  refine ⟨.slice none 0 0, .slice none 0 0, ?_, ?_⟩
  · rw [e]; rfl
  · rw [replTs, replOp, e]; exact NetO.nil
theorem ReplR.yes {k p n i : Int} {ts : List Ten} {op : List Int} {u : Ten} {vt vo : Value} {g : PH} (h : replP k p n ts op i u) (r : NetO (ts.set i.toNat u) op vt vo g) : ReplR k p n ts op i u (.tuple [netV k p n vt vo, .bool true].toArray) g := by
  have e : replB k p n ts op i u = true := by simp [replB, h]
  refine ⟨vt, vo, ?_, ?_⟩
  · rw [e]; rfl
  · rw [replTs, replOp, e]; exact r
end Go.Proofs.YthlmjnihihbckaaGreat
namespace Go.Proofs.YthlmjnihihbckaaGreat
set_option maxRecDepth 100000
open Go.RowKit
theorem OwnL.piece {ts : List Ten} {vs : List Value} {l : List PH} (o : OwnL (flat ts) vs l) {k : Nat} {t : Ten} (h : ts[k]? = some t) : OwnL (flat [t]) ((vs.drop (k * 3)).take 3) ((l.drop (k * 3)).take 3) := by
  have hk := (List.getElem?_eq_some_iff.1 h).1; have e : ((flat ts).drop (k * 3)).take 3 = flat [t] := by
    rw [← (flat_take (Nat.le_of_lt hk)).2, drop_at h]; rfl
  have := (o.drop (k * 3)).take 3
  rwa [e] at this
theorem OwnL.dropK {ts : List Ten} {vs : List Value} {l : List PH} (o : OwnL (flat ts) vs l) (p q : Nat) : ∀ k, k ≤ ts.length → OwnL (flat (dropK 1 ts p q k)) (dropK 3 vs p q k) (dropK 3 l p q k)
  | 0, _ => OwnL.nil
  | k + 1, hk => by
    have ih := OwnL.dropK o p q k (by omega); have ht : ts[k]? = some ts[k] := List.getElem?_eq_getElem (by omega)
    by_cases h : k ≠ p ∧ k ≠ q
    · rw [dropK_yes h, dropK_yes h, dropK_yes h, one_drop ht, flat_append]; exact ih.append (o.piece ht)
    · rw [dropK_no h, dropK_no h, dropK_no h]; exact ih
theorem dropK_sub {α : Type} (m : Nat) (l : List α) (p q : Nat) : ∀ k, (dropK m l p q k).Sublist (l.take (k * m))
  | 0 => by simp [dropK]
  | k + 1 => by
    have ih := dropK_sub m l p q k; have e : l.take ((k + 1) * m) = l.take (k * m) ++ (l.drop (k * m)).take m := by rw [Nat.add_mul, Nat.one_mul, List.take_add]
    rw [e]
    by_cases h : k ≠ p ∧ k ≠ q
    · rw [dropK_yes h]; exact ih.append (List.Sublist.refl _)
    · rw [dropK_no h]; exact ih.trans (List.sublist_append_left _ _)
theorem OwnH.dropK {ts : List Ten} {cs : List Value} {h : PH} (o : OwnH (flat ts) cs h) (p q : Nat) : ∃ g, PLe g h ∧ OwnH (flat (dropK 1 ts p q ts.length)) (dropK 3 cs p q ts.length) g := by
  obtain ⟨l, ol, m⟩ := o; have hs := (dropK_sub 3 l p q ts.length).trans (List.take_sublist _ _); have hsep := sep_mono m.sep hs; refine ⟨joinP (Go.Proofs.YthlmjnihihbckaaGreat.dropK 3 l p q ts.length), fun k o e => ?_, _, ol.dropK p q _ (Nat.le_refl _), Made.join hsep⟩; obtain ⟨y, hy, e'⟩ := joinP_dom e; exact m.le y (hs.subset hy) k o e'
theorem perm_all {k p n : Int} {t : Ten} {ls : List Int} (h : PermOK k p n t ls) : ∀ m : Nat, ((permX (widthI k n) t ls (permD t ls) m).length : Int) = m * widthI k n ∧ ∀ a ∈ permX (widthI k n) t ls (permD t ls) m, 0 ≤ a ∧ a ≤ topI k p n
  | 0 => by simp [permX]
  | m + 1 => by
    have ih := perm_all h m; have ho := h.off m; have he := elt_inR h.ten ho.1 ho.2; have hw := width_range h.ring; rw [permX_step]; refine ⟨?_, fun a ha => ?_⟩
    · rw [List.length_append, he.1, Int.natCast_add, ih.1, show ((m + 1 : Nat) : Int) = (m : Int) + 1 from rfl, Int.add_mul, Int.one_mul]; omega
    · rcases List.mem_append.1 ha with ha | ha
      · exact ih.2 a ha
      · exact he.2 a ha
theorem perm_axes {k p n : Int} {t : Ten} {ls : List Int} (h : PermOK k p n t ls) : axesL ls (permD t ls) := by
  refine ⟨h.len.2.2, (permD_len t ls).symm, fun j hj => ⟨?_, h.dims j (by rw [permD_len]; exact hj), nodup_not_take h.nodup hj⟩⟩; obtain ⟨i, hi, e⟩ := getD_of_mem (h.perm.mem_iff.1 (mem_getD hj)); rw [← e]; exact (h.axes.2.2 i hi).1
theorem perm_ten {k p n : Int} {t : Ten} {ls : List Int} (h : PermOK k p n t ls) : tensorL k p n (permT k n t ls).l (permT k n t ls).d (permT k n t ls).x := by
  have hs := h.small; have ha := perm_axes h; have hx := perm_all h (prodI (permD t ls)).toNat; refine ⟨h.ring, sizeI_ge.2 ⟨ha, hs.2⟩, ?_, hx.2⟩
  show ((permX (widthI k n) t ls (permD t ls) (prodI (permD t ls)).toNat).length : Int) = sizeI ls (permD t ls) * widthI k n
  rw [sizeI_yes ha hs.2, hx.1, show (((prodI (permD t ls)).toNat : Nat) : Int) = prodI (permD t ls) by omega]
theorem setL_of_perm {xs ys : List Int} (h : xs.Perm ys) (hn : ys.Nodup) : setL xs ys :=
  ⟨h.length_eq, fun _ hj => ⟨h.mem_iff.2 (mem_getD hj), nodup_not_take hn hj⟩⟩
theorem net_open {k p n : Int} {ts : List Ten} {op : List Int} (h : netL k p n ts op) : op.Nodup ∧ op.length ≤ 12 := by
  have ha := (sizeI_ge.1 h.2.2.2.2).1; exact ⟨axes_nodup ha, ha.1⟩
theorem mem_keep {t u : Ten} {ks : List Int} {x : Int} : x ∈ keepL t u ks ↔ (x ∈ t.l ∨ x ∈ u.l) ∧ x ∈ ks := by
  unfold keepL
  rw [List.mem_filter, mem_joinI, decide_eq_true_eq]
theorem sum_ten {k p n : Int} {t : Ten} (ht : tensorL k p n t.l t.d t.x) (ks : List Int) : tensorL k p n (sumR k p n t ks).l (sumR k p n t ks).d (sumR k p n t ks).x ∧ (sumR k p n t ks).l = keepL t (oneT k p n) ks ∧ (sumR k p n t ks).d = (keepL t (oneT k p n) ks).map (dimJ t (oneT k p n)) := by
  have := pair_ten (sum_pair ht ks)
  rwa [sumR_pair ht] at this
theorem fin_perm {k p n : Int} {t : Ten} {op : List Int} (ht : tensorL k p n t.l t.d t.x) (hn : op.Nodup) (hs : ∀ x ∈ op, x ∈ t.l) : PermOK k p n (sumR k p n t op) op := by
  obtain ⟨h1, h2, _⟩ := sum_ten ht op; have hk : ∀ x, x ∈ (sumR k p n t op).l ↔ x ∈ op := fun x => by
    rw [h2, mem_keep]; exact ⟨fun h => h.2, fun h => ⟨.inl (hs x h), h⟩⟩
  exact ⟨ht.1, h1, perm_of hn (fun x hx => (hk x).2 hx) (pigeon (axes_nodup (ten_axes h1)) fun x hx => (hk x).1 hx)⟩
noncomputable def finT (k p n : Int) (t : Ten) (op : List Int) : Ten := permT k n (sumR k p n t op) op
def finP (k p n : Int) (ts : List Ten) (op : List Int) (t : Ten) : Prop := netL k p n ts op ∧ tensorL k p n t.l t.d t.x ∧ ∀ x ∈ op, x ∈ t.l
open Classical in
noncomputable def finB (k p n : Int) (ts : List Ten) (op : List Int) (t : Ten) : Bool := decide (finP k p n ts op t)
open Classical in
noncomputable def finR (k p n : Int) (ts : List Ten) (op : List Int) (t : Ten) : Ten := if finP k p n ts op t then finT k p n t op else noTen
theorem finP.perm {k p n : Int} {ts : List Ten} {op : List Int} {t : Ten} (h : finP k p n ts op t) : PermOK k p n (sumR k p n t op) op := fin_perm h.2.1 (net_open h.1).1 h.2.2
theorem FinNo {k p n : Int} {ts : List Ten} {op : List Int} {t : Ten} (h : ¬ finP k p n ts op t) : TenB (finR k p n ts op t) (finB k p n ts op t) (.tuple [tenV (.slice none 0 0) (.slice none 0 0) (.slice none 0 0), .bool false].toArray) emp :=
  ⟨.slice none 0 0, .slice none 0 0, .slice none 0 0, by simp [finB, h], by rw [finR, if_neg h]; exact triO_none⟩
theorem FinYes {k p n : Int} {ts : List Ten} {op : List Int} {t : Ten} {a b c : Value} {h : PH} (hp : finP k p n ts op t) (r : TriO (finT k p n t op) a b c h) : TenB (finR k p n ts op t) (finB k p n ts op t) (.tuple [tenV a b c, .bool true].toArray) h :=
  ⟨a, b, c, by simp [finB, hp], by rw [finR, if_pos hp]; exact r⟩
def conP (k p n : Int) (ts : List Ten) (op : List Int) (ss : List Stp) : Prop := orderL k p n ts op ss ∧ ∀ j, j < ss.length → runFit k p n ts op ss j
noncomputable def lastT (k p n : Int) (ts : List Ten) (op : List Int) (ss : List Stp) : Ten := (runTo k p n ts op ss ss.length).getD (ts.length + ss.length - 1) noTen
noncomputable def conT (k p n : Int) (ts : List Ten) (op : List Int) (ss : List Stp) : Ten := if ts.length = 0 then oneT k p n else finT k p n (lastT k p n ts op ss) op
section
variable {k p n : Int} {ts : List Ten} {op : List Int} {ss : List Stp}
theorem conP.last (h : conP k p n ts op ss) (hn : ts.length ≠ 0) : finP k p n ts op (lastT k p n ts op ss) ∧ outTo k p n ts op ss ss.length = [lastT k p n ts op ss] := by
  have r := run_ok h.1 ss.length (Nat.le_refl _) h.2; have hl := run_left h.1 (fun e => hn (by rw [e]; rfl)); have hg := r.get (j := ts.length + ss.length - 1) (by omega); refine ⟨⟨h.1.1, hg.1, fun x hx => ?_⟩, by rw [outTo, hl]; rfl⟩; obtain ⟨j, hj, hxj⟩ := run_open h.1 hx ss.length (Nat.le_refl _); rw [hl] at hj
  simp at hj
  show x ∈ ((runTo k p n ts op ss ss.length).getD (ts.length + ss.length - 1) noTen).l
  rw [hg.2.1, ← hj]; exact hxj
theorem conP.empty (h : conP k p n ts op ss) (hn : ts.length = 0) : op = [] := by
  refine List.eq_nil_iff_forall_not_mem.2 fun x hx => ?_; obtain ⟨j, hj, e⟩ := getD_of_mem hx; have ho := (open_at h.1.1.2.2.2.2 hj).2; have e0 : ts = [] := List.eq_nil_of_length_eq_zero hn; rw [e0] at ho
  simp [dimOf] at ho
theorem conP.ten (h : conP k p n ts op ss) : tensorL k p n (conT k p n ts op ss).l (conT k p n ts op ss).d (conT k p n ts op ss).x ∧ (conT k p n ts op ss).l = op := by
  unfold conT
  by_cases hn : ts.length = 0
  · rw [if_pos hn]; exact ⟨one_ten h.1.1.1, (h.empty hn).symm⟩
  · rw [if_neg hn]; exact ⟨perm_ten (h.last hn).1.perm, rfl⟩
end
end Go.Proofs.YthlmjnihihbckaaGreat
namespace Go.Proofs.YthlmjnihihbckaaGreat
set_option maxRecDepth 100000
open Go.RowKit
structure Mach where
  S : List Ten
  F : List Bool
  D : List Bool
def mach0 (r m : Nat) : Mach := ⟨List.replicate r noTen, List.replicate r false, List.replicate m false⟩
/-- A register's labels. -/
def Mach.ten (s : Mach) (i : Nat) : Ten := s.S.getD i noTen
def Mach.lab (s : Mach) (i : Nat) : List Int := if s.F.getD i false = true then (s.ten i).l else []
/-- What the first i registers and the open labels keep. -/
def keepRg (op : List Int) (s : Mach) (b c : Int) (i : Nat) : List Int := op ++ ((List.range i).filter fun j => decide (s.F.getD j false = true ∧ (j : Int) ≠ b ∧ (j : Int) ≠ c)).flatMap fun j => (s.ten j).l
def keepLd (ts : List Ten) (s : Mach) (i : Nat) : List Int := ((List.range i).filter fun j => decide (s.D.getD j false = false)).flatMap fun j => (ts.getD j noTen).l
def needL (op : List Int) (ts : List Ten) (s : Mach) (b c : Int) : List Int := keepRg op s b c s.F.length ++ keepLd ts s ts.length
theorem keepRg_yes {op : List Int} {s : Mach} {b c : Int} {k : Nat} (h : s.F.getD k false = true ∧ (k : Int) ≠ b ∧ (k : Int) ≠ c) : keepRg op s b c (k + 1) = keepRg op s b c k ++ (s.ten k).l := by
  unfold keepRg
  rw [List.range_succ, List.filter_append, List.filter_cons_of_pos (by simpa using h), List.flatMap_append]
  simp
theorem keepRg_no {op : List Int} {s : Mach} {b c : Int} {k : Nat} (h : ¬ (s.F.getD k false = true ∧ (k : Int) ≠ b ∧ (k : Int) ≠ c)) : keepRg op s b c (k + 1) = keepRg op s b c k := by
  unfold keepRg
  rw [List.range_succ, List.filter_append, List.filter_cons_of_neg (by simpa using h)]
  simp
theorem keepLd_yes {ts : List Ten} {s : Mach} {k : Nat} (h : s.D.getD k false = false) : keepLd ts s (k + 1) = keepLd ts s k ++ (ts.getD k noTen).l := by
  unfold keepLd
  rw [List.range_succ, List.filter_append, List.filter_cons_of_pos (by simpa using h), List.flatMap_append]
  simp
theorem keepLd_no {ts : List Ten} {s : Mach} {k : Nat} (h : s.D.getD k false = true) : keepLd ts s (k + 1) = keepLd ts s k := by
  unfold keepLd
  rw [List.range_succ, List.filter_append, List.filter_cons_of_neg (by show ¬ (decide (s.D.getD k false = false) = true); rw [h]; decide)]
  simp
theorem tenD_of {ts : List Ten} {i : Nat} {t : Ten} (h : ts[i]? = some t) : ts.getD i noTen = t := by simp [List.getD, h]
def tenF (f : Int → Int) (t : Ten) : Prop := t.d = t.l.map f ∧ t.l.Nodup ∧ (∀ x ∈ t.l, 0 ≤ x ∧ x ≤ 99) ∧ ∀ x ∈ t.l, 1 ≤ f x ∧ f x ≤ 8
theorem tenF.few {f : Int → Int} {t : Ten} (h : tenF f t) : t.l.length ≤ 100 := few_labels h.2.1 h.2.2.1
theorem tenF_no (f : Int → Int) : tenF f noTen := ⟨rfl, List.nodup_nil, fun x h => (List.not_mem_nil h).elim, fun x h => (List.not_mem_nil h).elim⟩
structure Mach.ok (f : Int → Int) (s : Mach) : Prop where
  len : s.S.length = s.F.length
  ten : ∀ t ∈ s.S, tenF f t
theorem Mach.ok.at {f : Int → Int} {s : Mach} (h : s.ok f) (i : Nat) : tenF f (s.ten i) := by
  unfold Mach.ten
  by_cases hi : i < s.S.length
  · have : s.S.getD i noTen = s.S[i] := by simp [List.getD, hi]
    rw [this]; exact h.ten _ (List.getElem_mem hi)
  · have : s.S.getD i noTen = noTen := by simp [List.getD, Nat.le_of_not_lt hi]
    rw [this]; exact tenF_no f
theorem keepRg_len {f : Int → Int} {op : List Int} {s : Mach} {b c : Int} (h : s.ok f) : ∀ k, (keepRg op s b c k).length ≤ op.length + 100 * k
  | 0 => by simp [keepRg]
  | k + 1 => by
    have ih := keepRg_len (op := op) (b := b) (c := c) h k
    by_cases hc : s.F.getD k false = true ∧ (k : Int) ≠ b ∧ (k : Int) ≠ c
    · rw [keepRg_yes hc, List.length_append]; have := (h.at k).few; omega
    · rw [keepRg_no hc]; omega
theorem keepLd_len {f : Int → Int} {ts : List Ten} {s : Mach} (h : ∀ t ∈ ts, tenF f t) : ∀ k, (keepLd ts s k).length ≤ 100 * k
  | 0 => by simp [keepLd]
  | k + 1 => by
    have ih := keepLd_len (s := s) h k
    cases hc : s.D.getD k false with
    | false =>
      rw [keepLd_yes hc, List.length_append]; have : tenF f (ts.getD k noTen) := by
        by_cases hi : k < ts.length
        · have e : ts.getD k noTen = ts[k] := by simp [List.getD, hi]
          rw [e]; exact h _ (List.getElem_mem hi)
        · have e : ts.getD k noTen = noTen := by simp [List.getD, Nat.le_of_not_lt hi]
          rw [e]; exact tenF_no f
      have := this.few
      omega
    | true => rw [keepLd_no hc]; omega
def regIn (s : Mach) (a : Int) : Prop := 0 ≤ a ∧ a < s.F.length
instance (s : Mach) (a : Int) : Decidable (regIn s a) := by unfold regIn; infer_instance
def loadP (ts : List Ten) (s : Mach) (o : Opr) : Prop := regIn s o.a ∧ s.F.getD o.a.toNat false = false ∧ (0 ≤ o.b ∧ o.b < ts.length) ∧ s.D.getD o.b.toNat false = false ∧ o.c = 0 ∧ o.l = []
def pairQ (op : List Int) (ts : List Ten) (s : Mach) (o : Opr) : Prop := regIn s o.a ∧ s.F.getD o.a.toNat false = false ∧ regIn s o.b ∧ regIn s o.c ∧ o.b ≠ o.c ∧ s.F.getD o.b.toNat false = true ∧ s.F.getD o.c.toNat false = true ∧
  (∀ x ∈ o.l, x ∈ joinI (s.ten o.b.toNat).l (s.ten o.c.toNat).l) ∧ ∀ x ∈ needL op ts s o.b o.c, x ∈ joinI (s.ten o.b.toNat).l (s.ten o.c.toNat).l → x ∈ o.l
def outP (s : Mach) (o : Opr) : Prop := regIn s o.a ∧ o.b = 0 ∧ o.c = 0 ∧ o.l = [] ∧ (∀ i, i < s.F.length → s.F.getD i false = decide ((i : Int) = o.a)) ∧ ∀ i, i < s.D.length → s.D.getD i false = true
def opP (op : List Int) (ts : List Ten) (s : Mach) (o : Opr) : Prop := (o.k = 1 ∧ loadP ts s o) ∨ (o.k = 2 ∧ pairQ op ts s o)
noncomputable def keepI (s : Mach) (o : Opr) : List Int := (joinI (s.ten o.b.toNat).l (s.ten o.c.toNat).l).filter fun x => decide (x ∈ o.l)
noncomputable def Mach.load (ts : List Ten) (s : Mach) (o : Opr) : Mach := ⟨s.S.set o.a.toNat (ts.getD o.b.toNat noTen), s.F.set o.a.toNat true, s.D.set o.b.toNat true⟩
noncomputable def Mach.pair (f : Int → Int) (s : Mach) (o : Opr) : Mach := ⟨s.S.set o.a.toNat ⟨keepI s o, (keepI s o).map f, []⟩, ((s.F.set o.b.toNat false).set o.c.toNat false).set o.a.toNat true, s.D⟩
noncomputable def Mach.next (f : Int → Int) (ts : List Ten) (s : Mach) (o : Opr) : Mach := if o.k = 1 then s.load ts o else s.pair f o
theorem set_ok {f : Int → Int} {S : List Ten} (h : ∀ t ∈ S, tenF f t) {i : Nat} {t : Ten} (ht : tenF f t) : ∀ u ∈ S.set i t, tenF f u := fun u hu => by
  rcases List.mem_or_eq_of_mem_set hu with hu | rfl
  · exact h u hu
  · exact ht
theorem keepI_ok {f : Int → Int} {s : Mach} (h : s.ok f) (o : Opr) : tenF f ⟨keepI s o, (keepI s o).map f, []⟩ := by
  have hb := h.at o.b.toNat; have hc := h.at o.c.toNat; have hm : ∀ x ∈ keepI s o, x ∈ (s.ten o.b.toNat).l ∨ x ∈ (s.ten o.c.toNat).l := fun x hx => mem_joinI.1 (List.mem_filter.1 hx).1; exact ⟨rfl, List.Pairwise.filter _ (joinI_nodup hb.2.1 hc.2.1), fun x hx => (hm x hx).elim (hb.2.2.1 x) (hc.2.2.1 x), fun x hx => (hm x hx).elim (hb.2.2.2 x) (hc.2.2.2 x)⟩
theorem Mach.ok.next {f : Int → Int} {ts : List Ten} {s : Mach} (h : s.ok f) (hts : ∀ t ∈ ts, tenF f t) (o : Opr) : (s.next f ts o).ok f := by
  unfold Mach.next
  split
  · refine ⟨by simp [Mach.load, h.len], set_ok h.ten ?_⟩
    by_cases hi : o.b.toNat < ts.length
    · have e : ts.getD o.b.toNat noTen = ts[o.b.toNat] := by simp [List.getD, hi]
      rw [e]; exact hts _ (List.getElem_mem hi)
    · have e : ts.getD o.b.toNat noTen = noTen := by simp [List.getD, Nat.le_of_not_lt hi]
      rw [e]; exact tenF_no f
  · exact ⟨by simp [Mach.pair, h.len], set_ok h.ten (keepI_ok h o)⟩
theorem Mach.next_F {f : Int → Int} {ts : List Ten} {s : Mach} {o : Opr} : (s.next f ts o).F.length = s.F.length := by
  unfold Mach.next
  split <;> simp [Mach.load, Mach.pair]
theorem Mach.next_D {f : Int → Int} {ts : List Ten} {s : Mach} {o : Opr} : (s.next f ts o).D.length = s.D.length := by
  unfold Mach.next
  split <;> simp [Mach.load, Mach.pair]
noncomputable def machTo (f : Int → Int) (ts : List Ten) (s : Mach) (os : List Opr) : Mach := os.foldl (fun s o => s.next f ts o) s
theorem machTo_step {f : Int → Int} {ts : List Ten} {s : Mach} {os : List Opr} {i : Nat} {o : Opr} (h : os[i]? = some o) : machTo f ts s (os.take (i + 1)) = (machTo f ts s (os.take i)).next f ts o := by
  rw [take_opr h, machTo, List.foldl_append]; rfl
theorem machTo_ok {f : Int → Int} {ts : List Ten} {s : Mach} (h : s.ok f) (hts : ∀ t ∈ ts, tenF f t) : ∀ os, (machTo f ts s os).ok f ∧ (machTo f ts s os).F.length = s.F.length ∧ (machTo f ts s os).D.length = s.D.length
  | [] => ⟨h, rfl, rfl⟩
  | o :: r => by
    have := machTo_ok (h.next hts o) hts r; rw [Mach.next_F, Mach.next_D] at this; exact this
theorem mach0_ok (f : Int → Int) (r m : Nat) : (mach0 r m).ok f := ⟨by simp [mach0], fun t ht => by rw [List.eq_of_mem_replicate ht]; exact tenF_no f⟩
/-- The first i operations may be made. -/
def opsTo (f : Int → Int) (op : List Int) (ts : List Ten) (s : Mach) (os : List Opr) (i : Nat) : Prop := ∀ j o, j < i → os[j]? = some o → opP op ts (machTo f ts s (os.take j)) o
theorem opsTo_step {f : Int → Int} {op : List Int} {ts : List Ten} {s : Mach} {os : List Opr} {i : Nat} {o : Opr} (h : opsTo f op ts s os i) (hi : os[i]? = some o) (ho : opP op ts (machTo f ts s (os.take i)) o) : opsTo f op ts s os (i + 1) := fun j u hj hu => by
  by_cases e : j = i
  · subst e; rw [hi] at hu; cases hu; exact ho
  · exact h j u (by omega) hu
/-- The code may be run; m operations come ahead of the last. -/
def codeP (k p n : Int) (ts : List Ten) (op : List Int) (R : Int) (os : List Opr) : Prop :=
  netL k p n ts op ∧ ts ≠ [] ∧ (1 ≤ R ∧ R ≤ 24) ∧ os ≠ [] ∧ opsTo (dimOf ts) op ts (mach0 R.toNat ts.length) os (os.length - 1) ∧
    ∀ o, os[os.length - 1]? = some o → o.k = 3 ∧ outP (machTo (dimOf ts) ts (mach0 R.toNat ts.length) (os.take (os.length - 1))) o
theorem net_tenF {k p n : Int} {ts : List Ten} {op : List Int} (h : netL k p n ts op) : ∀ t ∈ ts, tenF (dimOf ts) t := fun t ht => by
  have hax := net_axes h t ht; refine ⟨net_dmap h t ht, axes_nodup hax, fun x hx => by obtain ⟨j, hj, e⟩ := getD_of_mem hx; have := (hax.2.2 j hj).1; rw [e] at this; exact this, fun x hx => ?_⟩; rw [net_dim h ht hx]; exact (hax.2.2 _ (findI_get hx).1).2.1
end Go.Proofs.YthlmjnihihbckaaGreat
namespace Go.Proofs.YthlmjnihihbckaaGreat
set_option maxRecDepth 100000
open Go.RowKit
def goodT (k p n : Int) (f : Int → Int) (t : Ten) : Prop := tensorL k p n t.l t.d t.x ∧ t.d = t.l.map f
section
variable {k p n : Int} {f : Int → Int} {t : Ten} {us : List Ten}
end
section
variable {k p n : Int} {ts : List Ten} {ls op : List Int}
end
end Go.Proofs.YthlmjnihihbckaaGreat
namespace Go.Proofs.YthlmjnihihbckaaGreat
set_option maxRecDepth 100000
open Go.RowKit
theorem fits_k2 {t u : Ten} {f : Int → Int} {ks : List Int} {v : Value} {g h : PH} (r : IntsO (selP (fun x => decide (x ∈ ks)) (joinI t.l u.l) ((joinI t.l u.l).map f)) v g) (l : PLe g h) : IntsR ((keepL t u ks).map f) v h := by
  rw [selP_map] at r; exact r.toR.mono l
set_option maxHeartbeats 2000000 in
theorem ct_u_l08Fits (k p n : Int) (f : Int → Int) (t u : Ten) (ks : List Int) (a b c a' b' c' v : Value) (w : World) (r1 : IntsR t.l a (hp w)) (r2 : IntsR t.d b (hp w)) (r3 : IntsR t.x c (hp w)) (r1' : IntsR u.l a' (hp w)) (r2' : IntsR u.d b' (hp w)) (r3' : IntsR u.x c' (hp w)) (rk : IntsR ks v (hp w)) (h1 : tensorL k p n t.l t.d t.x) (h2 : tensorL k p n u.l u.d u.x) (ht : t.d = t.l.map f) (hu : u.d = u.l.map f) :
    Calls Tryz.prog 65 [tenV a b c, tenV a' b' c', v].toArray w (RetV w (.bool (pairB k p n t u ks))) := by
  have hat := ten_axes h1; have hau := ten_axes h2; have h12 := hat.1; have h12' := hau.1; have hun := axes_nodup hau; have hjl := joinI_len t.l u.l; have hdj : dimsIn ((joinI t.l u.l).map f) := map_dims fun x hx => by
    rcases mem_joinI.1 hx with h | h
    · exact dims_mem (axes_dims hat) _ (by rw [ht]; exact List.mem_map_of_mem h)
    · exact dims_mem (axes_dims hau) _ (by rw [hu]; exact List.mem_map_of_mem h)
  have hiff := pairP_iff (ks := ks) h1 h2 ht hu; have hb : ∀ q : Bool, (q = true ↔ pairP k p n t u ks) → Value.bool q = .bool (pairB k p n t u ks) := fun q h => by
    congr 1
    rw [Bool.eq_iff_iff, h, pairB_true]
  refine calls_in Tryz.func65 rfl Tryz.ntmps65 rfl (Sat.start w) ?_; have hle0 := r1.le; have hle1 := r2.le; have hle2 := r3.le; have hle3 := r1'.le; have hle4 := r2'.le; have hle5 := r3'.le; have hle6 := rk.le; refine wp_sc (wp_sq ?_); refine sq_x rfl (x_box rfl rfl) rfl ?_; rintro _ _ ⟨b3, rfl, rfl⟩; refine sq_x rfl (x_box rfl rfl) rfl ?_; rintro _ _ ⟨b4, rfl, rfl⟩; refine sq_v rfl (v_assign rfl) rfl (sq_end (qs_n (wp_sc (wp_sq (sq_v rfl (v_loadNB 1 ty_34 rfl rfl rfl rfl) rfl (sq_v rfl (v_loadNB 0 ty_34 rfl rfl rfl rfl) rfl ?_)))))); refine sq_x rfl (x_call rfl en_155 (fun w s => ct_u_l08Join f _ _ _ _ _ _ _ _ w (r1.mono (s.get 2 rfl)) (r2.mono (s.get 2 rfl)) (r1'.mono (s.get 2 rfl)) (r2'.mono (s.get 2 rfl)) (by first | assumption | omega) (by first | assumption | omega) (by first | assumption | omega) (by first | assumption | omega))) rfl ?_; rintro _ h13 ⟨v1, v2, rfl, q1, q2⟩; refine sq_v rfl (v_move rfl) rfl (sq_v rfl (v_extract rfl rfl) rfl (sq_v rfl (v_extract rfl rfl) rfl (sq_v rfl (v_extract rfl rfl) rfl (sq_v rfl (v_assign rfl) rfl (sq_v rfl (v_assign rfl) rfl (sq_v rfl (v_assign rfl) rfl (sq_end (qs_n (wp_sc (wp_sq (sq_v rfl (v_move rfl) rfl (sq_v rfl (v_move rfl) rfl (sq_v rfl (v_move rfl) rfl ?_))))))))))))); refine sq_u rfl (x_callv rfl en_156 (fun w s => ct_s_l05Product _ _ _ w (q2.mono (s.get 0 rfl)) (by first | assumption | omega) (by first | assumption | omega))) rfl (sq_v rfl (v_leq rfl rfl) rfl (sq_v rfl (v_pickt rfl rfl) rfl ?_)); refine sq_bd 22 rfl (fun c22 => ?_) (fun c22 => ?_)
  · refine sq_v rfl (v_move rfl) rfl (sq_v rfl (v_move rfl) rfl (sq_v rfl (v_move rfl) rfl (sq_v rfl (v_move rfl) rfl ?_))); refine sq_x rfl (x_call rfl en_158 (fun w s => ct_s_l08Keep _ _ _ _ _ _ w (q1.mono (s.get 0 rfl)) (q2.mono (s.get 0 rfl)) (rk.mono (s.get 3 rfl)) (by rw [List.length_map]) (by first | assumption | omega))) rfl ?_; rintro _ h27 ⟨k1, k2, g1, g2, rfl, rk1, rk2, mdk⟩; refine sq_u rfl (x_callv rfl en_157 (fun w s => ct_s_TensorSize _ _ _ _ _ w ((rk1.toR.mono (mdk.le g1 (by simp))).mono (s.get 0 rfl)) ((fits_k2 rk2 (mdk.le g2 (by simp))).mono (s.get 0 rfl)))) rfl (sq_v rfl (v_geq rfl rfl) rfl (sq_v rfl (v_pickt rfl rfl) rfl (sq_v rfl (v_assign rfl) rfl (sq_end (qs_n (wp_rt ?_)))))); exact qs_ret1 rfl rfl (fin_q (i := 4) rfl (hb _ (by rw [hiff, decide_eq_true_eq]; exact ⟨fun h => ⟨by omega, h⟩, fun h => h.2⟩)))
  · refine sq_v rfl (v_move rfl) rfl (sq_s rfl rfl (sq_s rfl rfl (sq_s rfl rfl (sq_s rfl rfl (sq_s rfl rfl (sq_s rfl rfl (sq_v rfl (v_pickf rfl rfl) rfl (sq_v rfl (v_assign rfl) rfl (sq_end (qs_n (wp_rt ?_))))))))))); exact qs_ret1 rfl rfl (fin_q (i := 3) rfl (hb _ (by rw [hiff]; exact ⟨fun h => (by cases h), fun h => absurd h.1 (by omega)⟩)))
theorem ct_u_l08Pair (k p n : Int) (t u : Ten) (ks : List Int) (a b c a' b' c' v : Value) (w : World) (r1 : IntsR t.l a (hp w)) (r2 : IntsR t.d b (hp w)) (r3 : IntsR t.x c (hp w)) (r1' : IntsR u.l a' (hp w)) (r2' : IntsR u.d b' (hp w)) (r3' : IntsR u.x c' (hp w)) (rk : IntsR ks v (hp w)) (hp' : pairP k p n t u ks) :
    Calls Tryz.prog 66 [ringV k p n, tenV a b c, tenV a' b' c', v].toArray w (Ret w emp (TenT (pairR k p n t u ks))) := by
  have ok := pair_ok hp'.1 hp'.2.1 hp'.2.2.1 hp'.2.2.2.1; have := ct_s_l08Pair k p n t u (dimJ t u) (keepL t u ks) ks a b c a' b' c' v w r1 r2 r3 r1' r2' r3' rk ok rfl (keep_ok ok hp'.2.2.2.2) (sizeI_ge.1 hp'.2.2.2.2).1.1; rw [pairR, if_pos hp']; exact this
set_option maxHeartbeats 1000000 in
theorem ct_s_l18Finish (k p n : Int) (ts : List Ten) (op : List Int) (t : Ten) (vt vo a b c : Value) (w : World) (r : TensR ts vt (hp w)) (r' : IntsR op vo (hp w)) (r1 : IntsR t.l a (hp w)) (r2 : IntsR t.d b (hp w)) (r3 : IntsR t.x c (hp w)) (ht : tensorL k p n t.l t.d t.x) (hn : op.Nodup) (hs : ∀ x ∈ op, x ∈ t.l) :
    Calls Tryz.prog 67 [netV k p n vt vo, tenV a b c].toArray w (Ret w emp (TenT (finT k p n t op))) := by
  have hpm := fin_perm ht hn hs; refine calls_in Tryz.func67 rfl Tryz.ntmps67 rfl (Sat.start w) ?_; have hle0 := r.le; obtain ⟨cs_r, rr_r, hc_r⟩ := r.at; have hle1 := r'.le; have hle2 := r1.le; have hle3 := r2.le; have hle4 := r3.le; refine wp_sc (wp_sq ?_); refine sq_x rfl (x_box rfl rfl) rfl ?_; rintro _ _ ⟨b2, rfl, rfl⟩; refine sq_x rfl (x_box rfl rfl) rfl ?_; rintro _ _ ⟨b3, rfl, rfl⟩; refine sq_x rfl (x_alloc ty_34 rfl) rfl ?_; rintro _ _ ⟨b4, rfl, rfl⟩; refine sq_end (qs_n (wp_sc (wp_rj 11 [(0, true), (1, true), (2, true), (3, true), (4, true), (5, true), (6, true), (8, true), (9, true), (7, false), (10, false), (11, false)] mixed_ok (by kernel_rfl) (rj_v rfl rfl (v_fieldAddr fd_40_0 ty_37 (by decide) rfl) rfl (rj_v rfl rfl (v_loadNB 2 ty_37 rfl rfl rfl rfl) rfl (rj_v rfl rfl (v_fieldAddr fd_40_0 ty_37 (by decide) rfl) rfl (rj_v rfl rfl (v_loadNB 2 ty_37 rfl rfl rfl rfl) rfl (rj_v rfl rfl (v_loadNB 1 ty_34 rfl rfl rfl rfl) rfl (rj_v rfl rfl (v_fieldAddr fd_40_2 ty_25 (by decide) rfl) rfl (rj_v rfl rfl (v_loadB 2 ty_25 rfl rfl rfl) rfl (rj_v rfl rfl (v_fieldAddr fd_40_2 ty_25 (by decide) rfl) rfl (rj_v rfl rfl (v_loadB 2 ty_25 rfl rfl rfl) rfl ?_)))))))))))); refine rj_x rfl rfl (x_call rfl en_100 (fun w s => ct_s_l08Sum _ _ _ _ _ _ _ _ _ w (r1.mono (s.get 3 rfl)) (r2.mono (s.get 3 rfl)) (r3.mono (s.get 3 rfl)) (r'.mono (s.get 3 rfl)) (by first | assumption | omega))) rfl ?_; rintro _ h12 ⟨va12, vb12, vc12, rfl, o12⟩; refine rj_x rfl rfl (x_call rfl en_165 (fun w s => ct_s_l06Permute _ _ _ _ _ _ _ _ _ w (o12.toR.1.mono (s.get 0 rfl)) (o12.toR.2.1.mono (s.get 0 rfl)) (o12.toR.2.2.mono (s.get 0 rfl)) (r'.mono (s.get 4 rfl)) (by first | assumption | omega))) rfl ?_; rintro _ h15 ⟨va15, vb15, vc15, rfl, o15⟩; refine rj_m 2 rfl rfl rfl rfl (m_store 2 ty_34 rfl rfl rfl rfl (by simp [o15.toR.1.sl.one, o15.toR.2.1.sl.one, o15.toR.2.2.sl.one]) rfl (Nat.le_of_ble_eq_true rfl)) rfl ?_; rintro _ _ ⟨rfl, rfl⟩; refine rj_end (qs_n (wp_rt ?_)); exact qs_retc 2 rfl ty_34 rfl rfl rfl (fin_t 0 (i := 5) rfl rfl rfl (⟨_, _, _, rfl, o15⟩))
set_option maxHeartbeats 1000000 in
theorem ct_i_allIn (xs ys : List Int) (v u : Value) (w : World) (r : IntsR xs v (hp w)) (r' : IntsR ys u (hp w)) : Calls Tryz.prog 181 [v, u].toArray w (RetV w (.bool (decide (∀ x ∈ xs, x ∈ ys)))) := by
  refine calls_in Tryz.func181 rfl Tryz.ntmps181 rfl (Sat.start w) ?_; have hle0 := r.le; have hle1 := r'.le; refine wp_sc (wp_sq (sq_v rfl (v_assign rfl) rfl (sq_end (qs_n (wp_sc (wp_sc (wp_sq (sq_v rfl (v_move rfl) rfl (sq_v rfl (v_len Tryz.underlying25 rfl r.sl) rfl (sq_v rfl (v_move rfl) rfl (sq_end (qs_n (wp_bl ?_))))))))))))); refine wp_lp (σ := Nat) (fun z_ => [(1, u), (4, .bool false), (7, v), (8, num xs.length), (9, num z_)]) (fun z_ => [hp w]) (fun z_ => z_ ≤ xs.length ∧ (∀ j, j < z_ → xs.getD j 0 ∈ ys)) (fun z_ => xs.length - z_) 0 (⟨by omega, fun j hj => by omega⟩) ⟨rfl, rfl, rfl, rfl, (by first | rfl | exact ksub rfl (by first | omega | (simp; done) | (simp; omega))), trivial⟩ (fun _ s => s) ?_; rintro i ⟨hi, ha⟩; refine wp_sc (wp_sq (sq_v rfl (v_lss rfl rfl) rfl (sq_end (qs_n (wp_sc ?_))))); refine wp_cd rfl (fun c10 => ?_) (fun c10 => ?_)
  · refine wp_sk (qs_n (wp_sc (wp_bl (wp_sc (wp_sq ?_))))); refine sq_v rfl (v_idxI Tryz.underlying25 ty_3 rfl rfl r (by first | omega | (simp; omega) | (simp only [List.length_append, List.length_cons, List.length_nil]; omega) | (rw [List.length_set]; omega)) (by first | omega | (simp; omega) | (simp only [List.length_append, List.length_cons, List.length_nil]; omega) | (rw [List.length_set]; omega))) rfl ?_; refine sq_v rfl (v_loadI (k := i) 0 ty_3 rfl rfl r (by first | omega | (simp; omega) | (simp only [List.length_append, List.length_cons, List.length_nil]; omega) | (rw [List.length_set]; omega))) rfl ?_; refine sq_v rfl (v_assign rfl) rfl (sq_end (qs_n (wp_sc (wp_sq (sq_v rfl (v_move rfl) rfl (sq_v rfl (v_move rfl) rfl (sq_u rfl (x_callv rfl en_146 (fun w s => ct_i_hasInt _ _ _ w (r'.mono (s.get 0 rfl)))) rfl (sq_v rfl (v_not rfl) rfl (sq_end (qs_n ?_)))))))))); refine wp_cnd rfl (fun c16 => ?_) (fun c16 => ?_)
    · refine wp_sc (wp_sq (sq_v rfl (v_assign rfl) rfl (sq_end (qs_n (wp_rt (qs_br (qs_r (qs_r (qs_br (qs_r ?_)))))))))); exact qs_ret1 rfl rfl (fin_q (i := 0) rfl (by rw [decide_eq_false]; exact fun h => absurd (h _ (mem_getD (k := i) (by omega))) (by simpa using c16)))
    · refine wp_sk (qs_bn (qs_n (wp_sq ?_))); refine sq_v rfl (v_add rfl rfl ((by unfold I64; omega))) rfl ?_; refine sq_v rfl (v_move rfl) rfl (sq_end ?_); exact qs_bk (i + 1) ⟨by omega, step_all ha (by simpa using c16)⟩ (by omega) ⟨rfl, rfl, rfl, rfl, (by first | rfl | exact ksub rfl (by first | omega | (simp; done) | (simp; omega))), trivial⟩ (fun _ s => s)
  · refine wp_ex (qs_x (qs_x (qs_bx (qs_n (wp_sc (wp_sq (sq_v rfl (v_assign rfl) rfl (sq_end (qs_n (wp_rt ?_)))))))))); exact qs_ret1 rfl rfl (fin_q (i := 0) rfl (by rw [decide_eq_true]; exact all_of fun j hj => ha j (by omega)))
theorem PermNo {k n : Int} {t : Ten} {ls : List Int} {q : Bool} (h : q = false) : TenB (ifB q (permT k n t ls) noTen) q (.tuple [tenV (.slice none 0 0) (.slice none 0 0) (.slice none 0 0), .bool false].toArray) emp :=
  ⟨.slice none 0 0, .slice none 0 0, .slice none 0 0, by rw [h], by rw [h]; exact triO_none⟩
def perP (k p n : Int) (t : Ten) (ls : List Int) : Prop := tensorL k p n t.l t.d t.x ∧ setL t.l ls
open Classical in
noncomputable def perB (k p n : Int) (t : Ten) (ls : List Int) : Bool := decide (perP k p n t ls)
theorem perB_true {k p n : Int} {t : Ten} {ls : List Int} : perB k p n t ls = true ↔ perP k p n t ls := by simp [perB]
theorem perB_no {k p n : Int} {t : Ten} {ls : List Int} (h : ¬ perP k p n t ls) : perB k p n t ls = false := by simp [perB, h]
theorem ct_i_PermuteTensor (k p n : Int) (t : Ten) (ls : List Int) (a b c v : Value) (w : World) (r1 : IntsR t.l a (hp w)) (r2 : IntsR t.d b (hp w)) (r3 : IntsR t.x c (hp w)) (rl : IntsR ls v (hp w)) :
    Calls Tryz.prog 182 [ringV k p n, tenV a b c, v].toArray w (Ret w emp (TenB (ifB (perB k p n t ls) (permT k n t ls) noTen) (perB k p n t ls))) := by
  refine calls_in Tryz.func182 rfl Tryz.ntmps182 rfl (Sat.start w) ?_; have hle0 := r1.le; have hle1 := r2.le; have hle2 := r3.le; have hle3 := rl.le; refine wp_sc (wp_sq ?_); refine sq_x rfl (x_box rfl rfl) rfl ?_; rintro _ _ ⟨b3, rfl, rfl⟩; refine sq_x rfl (x_box rfl rfl) rfl ?_; rintro _ _ ⟨b4, rfl, rfl⟩; refine sq_x rfl (x_alloc ty_34 rfl) rfl ?_; rintro _ _ ⟨b6, rfl, rfl⟩; refine sq_v rfl (v_assign rfl) rfl (sq_end (qs_n (wp_sc (wp_sc (wp_sq (sq_v rfl (v_loadNB 2 ty_37 rfl rfl rfl rfl) rfl (sq_v rfl (v_loadNB 1 ty_34 rfl rfl rfl rfl) rfl (sq_u rfl (x_callv rfl en_127 (fun w s => ct_i_TensorOk _ _ _ _ _ _ _ _ _ w (r1.mono (s.get 3 rfl)) (r2.mono (s.get 3 rfl)) (r3.mono (s.get 3 rfl)))) rfl ?_)))))))); refine sq_bb 10 rfl (fun c10 => ?_) (fun c10 => ?_)
  · refine sq_v rfl (v_not rfl) rfl (sq_v rfl (v_move rfl) rfl (sq_v rfl (v_fieldAddr fd_34_0 ty_25 (by decide) rfl) rfl (sq_v rfl (v_loadB 1 ty_25 rfl rfl rfl) rfl (sq_v rfl (v_move rfl) rfl (sq_u rfl (x_callv rfl en_233 (fun w s => ct_i_sameLabels _ _ _ _ w (r1.mono (s.get 3 rfl)) (rl.mono (s.get 3 rfl)))) rfl (sq_v rfl (v_not rfl) rfl (sq_v rfl (v_pickf rfl rfl) rfl (sq_end (qs_n ?_))))))))); refine wp_cn _ rfl (fun c18 => ?_) (fun c18 => ?_)
    · refine wp_sc (wp_sq (sq_v rfl (v_build [.slice none 0 0, .slice none 0 0, .slice none 0 0] rfl (by kernel_rfl)) rfl ?_)); refine sq_m 0 rfl rfl (m_store 0 ty_34 rfl rfl rfl rfl (by simp [one_sl]) rfl (Nat.le_of_ble_eq_true rfl)) rfl ?_; rintro _ _ ⟨rfl, rfl⟩; refine sq_v rfl (v_assign rfl) rfl (sq_end (qs_n (wp_rt (qs_r ?_)))); exact qs_retct 0 rfl ty_34 rfl rfl rfl rfl (fin_e (i := 3) rfl (PermNo (perB_no (fun h => by first | exact tensorB_false.1 c10 h.1 | exact setB_false.1 c18 h.2))))
    · refine wp_sk (qs_n (wp_sc (wp_sq (sq_v rfl (v_loadNB 2 ty_37 rfl rfl rfl rfl) rfl (sq_v rfl (v_loadNB 1 ty_34 rfl rfl rfl rfl) rfl (sq_v rfl (v_move rfl) rfl ?_)))))); have h1 := tensorB_true.1 c10; have h2 := setB_true.1 c18; have hok : PermOK k p n t ls := ⟨h1.1, h1, setL_perm h2⟩
      refine sq_x rfl (x_call rfl en_234 (fun w s => ct_i_rawPermute _ _ _ _ _ _ _ _ _ w (r1.mono (s.get 3 rfl)) (r2.mono (s.get 3 rfl)) (r3.mono (s.get 3 rfl)) (rl.mono (s.get 3 rfl)) (by first | assumption | omega))) rfl ?_; rintro _ h23 ⟨va23, vb23, vc23, rfl, o23⟩; refine sq_m 1 rfl rfl (m_store 1 ty_34 rfl rfl rfl rfl (by simp [o23.toR.1.sl.one, o23.toR.2.1.sl.one, o23.toR.2.2.sl.one]) rfl (Nat.le_of_ble_eq_true rfl)) rfl ?_; rintro _ _ ⟨rfl, rfl⟩; refine sq_v rfl (v_assign rfl) rfl (sq_end (qs_n (wp_rt ?_))); exact qs_retct 1 rfl ty_34 rfl rfl rfl rfl (fin_t 0 (i := 4) rfl rfl rfl (by rw [perB_true.2 ⟨h1, h2⟩]; exact ⟨_, _, _, rfl, o23⟩))
  · refine sq_v rfl (v_not rfl) rfl (sq_v rfl (v_move rfl) rfl (sq_s rfl rfl (sq_s rfl rfl (sq_s rfl rfl (sq_s rfl rfl (sq_s rfl rfl (sq_v rfl (v_pickt rfl rfl) rfl (sq_end (qs_n (wp_ct rfl (wp_sc (wp_sq (sq_v rfl (v_build [.slice none 0 0, .slice none 0 0, .slice none 0 0] rfl (by kernel_rfl)) rfl ?_))))))))))))); refine sq_m 0 rfl rfl (m_store 0 ty_34 rfl rfl rfl rfl (by simp [one_sl]) rfl (Nat.le_of_ble_eq_true rfl)) rfl ?_; rintro _ _ ⟨rfl, rfl⟩; refine sq_v rfl (v_assign rfl) rfl (sq_end (qs_n (wp_rt (qs_r ?_)))); exact qs_retct 0 rfl ty_34 rfl rfl rfl rfl (fin_e (i := 3) rfl (PermNo (perB_no (fun h => by first | exact tensorB_false.1 c10 h.1 | exact setB_false.1 c18 h.2))))
set_option maxHeartbeats 1000000 in
theorem ct_i_FinishTensor (k p n : Int) (ts : List Ten) (op : List Int) (t : Ten) (vt vo a b c : Value) (w : World) (r : TensR ts vt (hp w)) (r' : IntsR op vo (hp w)) (r1 : IntsR t.l a (hp w)) (r2 : IntsR t.d b (hp w)) (r3 : IntsR t.x c (hp w)) (hs : op.length ≤ 1048576) :
    Calls Tryz.prog 74 [netV k p n vt vo, tenV a b c].toArray w (Ret w emp (TenB (finR k p n ts op t) (finB k p n ts op t))) := by
  refine calls_in Tryz.func74 rfl Tryz.ntmps74 rfl (Sat.start w) ?_; have hle0 := r.le; obtain ⟨cs_r, rr_r, hc_r⟩ := r.at; have hle1 := r'.le; have hle2 := r1.le; have hle3 := r2.le; have hle4 := r3.le; refine wp_sc (wp_sq ?_); refine sq_x rfl (x_box rfl rfl) rfl ?_; rintro _ _ ⟨b2, rfl, rfl⟩; refine sq_x rfl (x_box rfl rfl) rfl ?_; rintro _ _ ⟨b3, rfl, rfl⟩; refine sq_x rfl (x_alloc ty_34 rfl) rfl ?_; rintro _ _ ⟨b4, rfl, rfl⟩; refine sq_v rfl (v_assign rfl) rfl (sq_end (qs_n (wp_sc (wp_sc (wp_sq (sq_v rfl (v_loadNB 2 ty_40 rfl rfl rfl rfl) rfl (sq_u rfl (x_callv rfl en_42 (fun w s => ct_i_NetworkOk _ _ _ _ _ _ _ w (r.mono (s.get 3 rfl)) (r'.mono (s.get 3 rfl)) (by first | assumption | omega))) rfl ?_))))))); refine sq_bb 7 rfl (fun c7 => ?_) (fun c7 => ?_)
  · refine sq_v rfl (v_not rfl) rfl (sq_v rfl (v_move rfl) rfl (sq_v rfl (v_fieldAddr fd_40_0 ty_37 (by decide) rfl) rfl (sq_v rfl (v_loadNB 2 ty_37 rfl rfl rfl rfl) rfl (sq_v rfl (v_loadNB 1 ty_34 rfl rfl rfl rfl) rfl (sq_u rfl (x_callv rfl en_127 (fun w s => ct_i_TensorOk _ _ _ _ _ _ _ _ _ w (r1.mono (s.get 3 rfl)) (r2.mono (s.get 3 rfl)) (r3.mono (s.get 3 rfl)))) rfl (sq_v rfl (v_not rfl) rfl (sq_v rfl (v_pickf rfl rfl) rfl ?_))))))); refine sq_bn 15 rfl (fun c15 => ?_) (fun c15 => ?_)
    · refine sq_v rfl (v_move rfl) rfl (sq_s rfl rfl (sq_s rfl rfl (sq_s rfl rfl (sq_s rfl rfl (sq_s rfl rfl (sq_s rfl rfl (sq_v rfl (v_pickt rfl rfl) rfl (sq_end (qs_n (wp_ct rfl (wp_sc (wp_sq (sq_v rfl (v_build [.slice none 0 0, .slice none 0 0, .slice none 0 0] rfl (by kernel_rfl)) rfl ?_))))))))))))); refine sq_m 0 rfl rfl (m_store 0 ty_34 rfl rfl rfl rfl (by simp [one_sl]) rfl (Nat.le_of_ble_eq_true rfl)) rfl ?_; rintro _ _ ⟨rfl, rfl⟩; refine sq_v rfl (v_assign rfl) rfl (sq_end (qs_n (wp_rt (qs_r ?_)))); exact qs_retct 0 rfl ty_34 rfl rfl rfl rfl (fin_e (i := 3) rfl (FinNo (fun h => by first | exact netB_false.1 c7 h.1 | exact tensorB_false.1 c15 h.2.1 | exact absurd h.2.2 (by simpa using c23))))
    · refine sq_v rfl (v_move rfl) rfl (sq_v rfl (v_fieldAddr fd_40_2 ty_25 (by decide) rfl) rfl (sq_v rfl (v_loadB 2 ty_25 rfl rfl rfl) rfl (sq_v rfl (v_fieldAddr fd_34_0 ty_25 (by decide) rfl) rfl (sq_v rfl (v_loadB 1 ty_25 rfl rfl rfl) rfl (sq_u rfl (x_callv rfl en_181 (fun w s => ct_i_allIn _ _ _ _ w (r'.mono (s.get 3 rfl)) (r1.mono (s.get 3 rfl)))) rfl (sq_v rfl (v_not rfl) rfl (sq_v rfl (v_pickf rfl rfl) rfl (sq_end (qs_n ?_))))))))); refine wp_cnd rfl (fun c23 => ?_) (fun c23 => ?_)
      · refine wp_sc (wp_sq (sq_v rfl (v_build [.slice none 0 0, .slice none 0 0, .slice none 0 0] rfl (by kernel_rfl)) rfl ?_)); refine sq_m 0 rfl rfl (m_store 0 ty_34 rfl rfl rfl rfl (by simp [one_sl]) rfl (Nat.le_of_ble_eq_true rfl)) rfl ?_; rintro _ _ ⟨rfl, rfl⟩; refine sq_v rfl (v_assign rfl) rfl (sq_end (qs_n (wp_rt (qs_r ?_)))); exact qs_retct 0 rfl ty_34 rfl rfl rfl rfl (fin_e (i := 3) rfl (FinNo (fun h => by first | exact netB_false.1 c7 h.1 | exact tensorB_false.1 c15 h.2.1 | exact absurd h.2.2 (by simpa using c23))))
      · refine wp_sk (qs_n (wp_sc (wp_rj 13 [(0, true), (1, true), (2, true), (3, true), (4, true), (5, true), (6, true), (8, true), (9, true), (7, false), (10, false), (11, true), (12, true), (13, false), (14, false)] mixed_ok (by kernel_rfl) ?_))); have hnet := netB_true.1 c7; have hten := tensorB_true.1 c15; have hall : ∀ x ∈ op, x ∈ t.l := (by simpa using c23); have hfp : finP k p n ts op t := ⟨hnet, hten, hall⟩; have hpm := hfp.perm; have hB := perB_true.2 (show perP k p n (sumR k p n t op) op from ⟨hpm.ten, setL_of_perm hpm.perm.symm (net_open hnet).1⟩); refine rj_v rfl rfl (v_fieldAddr fd_40_0 ty_37 (by decide) rfl) rfl (rj_v rfl rfl (v_loadNB 2 ty_37 rfl rfl rfl rfl) rfl (rj_v rfl rfl (v_fieldAddr fd_40_0 ty_37 (by decide) rfl) rfl (rj_v rfl rfl (v_loadNB 2 ty_37 rfl rfl rfl rfl) rfl (rj_v rfl rfl (v_loadNB 1 ty_34 rfl rfl rfl rfl) rfl (rj_v rfl rfl (v_fieldAddr fd_40_2 ty_25 (by decide) rfl) rfl (rj_v rfl rfl (v_loadB 2 ty_25 rfl rfl rfl) rfl (rj_v rfl rfl (v_fieldAddr fd_40_2 ty_25 (by decide) rfl) rfl (rj_v rfl rfl (v_loadB 2 ty_25 rfl rfl rfl) rfl ?_)))))))); refine rj_x rfl rfl (x_call rfl en_60 (fun w s => ct_i_SumLabels _ _ _ _ _ _ _ _ _ w (r1.mono (s.get 3 rfl)) (r2.mono (s.get 3 rfl)) (r3.mono (s.get 3 rfl)) (r'.mono (s.get 3 rfl)))) rfl ?_; rintro _ h32 ⟨va32, vb32, vc32, rfl, o32⟩; refine rj_x rfl rfl (x_call rfl en_182 (fun w s => ct_i_PermuteTensor _ _ _ _ _ _ _ _ _ w (o32.toR.1.mono (s.get 0 rfl)) (o32.toR.2.1.mono (s.get 0 rfl)) (o32.toR.2.2.mono (s.get 0 rfl)) (r'.mono (s.get 4 rfl)))) rfl ?_; rintro _ h35 ⟨va35, vb35, vc35, rfl, o35⟩; refine rj_v rfl rfl (v_extract rfl rfl) rfl (rj_v rfl rfl (v_extract rfl rfl) rfl ?_); refine rj_m 2 rfl rfl rfl rfl (m_store 2 ty_34 rfl rfl rfl rfl (by simp [o35.toR.1.sl.one, o35.toR.2.1.sl.one, o35.toR.2.2.sl.one]) rfl (Nat.le_of_ble_eq_true rfl)) rfl ?_; rintro _ _ ⟨rfl, rfl⟩; refine rj_fv rfl rfl (v_assign rfl) rfl (rj_end ?_); rw [hB] at o35; refine qs_n (wp_rt ?_); exact qs_retct 2 rfl ty_34 rfl rfl rfl rfl (fin_t 0 (i := 5) rfl rfl rfl (by rw [hB]; exact FinYes hfp o35))
  · refine sq_v rfl (v_not rfl) rfl (sq_v rfl (v_move rfl) rfl (sq_s rfl rfl (sq_s rfl rfl (sq_s rfl rfl (sq_s rfl rfl (sq_s rfl rfl (sq_v rfl (v_pickt rfl rfl) rfl (sq_v rfl (v_move rfl) rfl (sq_s rfl rfl ?_))))))))); refine sq_s rfl rfl (sq_s rfl rfl (sq_s rfl rfl (sq_s rfl rfl (sq_s rfl rfl (sq_v rfl (v_pickt rfl rfl) rfl (sq_end (qs_n (wp_ct rfl (wp_sc (wp_sq (sq_v rfl (v_build [.slice none 0 0, .slice none 0 0, .slice none 0 0] rfl (by kernel_rfl)) rfl ?_))))))))))); refine sq_m 0 rfl rfl (m_store 0 ty_34 rfl rfl rfl rfl (by simp [one_sl]) rfl (Nat.le_of_ble_eq_true rfl)) rfl ?_; rintro _ _ ⟨rfl, rfl⟩; refine sq_v rfl (v_assign rfl) rfl (sq_end (qs_n (wp_rt (qs_r ?_)))); exact qs_retct 0 rfl ty_34 rfl rfl rfl rfl (fin_e (i := 3) rfl (FinNo (fun h => by first | exact netB_false.1 c7 h.1 | exact tensorB_false.1 c15 h.2.1 | exact absurd h.2.2 (by simpa using c23))))
end Go.Proofs.YthlmjnihihbckaaGreat
namespace Go.Proofs.YthlmjnihihbckaaGreat
set_option maxRecDepth 100000
open Go.RowKit
theorem TensL.at0 {us : List Ten} {cs : List Value} {h : PH} (hT : TensL us cs h) : ∀ i, i < us.length → ∃ t a b c, us[i]? = some t ∧ (cs.drop (i * 3)).take 3 = [a, b, c] ∧ IntsR t.l a h ∧ IntsR t.d b h ∧ IntsR t.x c h := fun i hi => by
  have ht := List.getElem?_eq_getElem (l := us) (i := i) (by omega); obtain ⟨a, b, c, e, r1, r2, r3⟩ := hT.2 i _ ht; exact ⟨_, a, b, c, ht, e, r1, r2, r3⟩
theorem TensL.drop {us : List Ten} {cs : List Value} {h : PH} (hT : TensL us cs h) (m : Nat) (hm : m ≤ us.length) : TensL (us.drop m) (cs.drop (m * 3)) h := by
  refine ⟨by rw [List.length_drop, List.length_drop, hT.1]; omega, fun i t e => ?_⟩; rw [List.getElem?_drop] at e; have := hT.2 (m + i) t e; rw [List.drop_drop, show m * 3 + i * 3 = (m + i) * 3 by omega]; exact this
end Go.Proofs.YthlmjnihihbckaaGreat
namespace Go.Proofs.YthlmjnihihbckaaGreat
set_option maxRecDepth 100000
open Go.RowKit
theorem dotTo_cons (a b : Int) (xs ys : List Int) : ∀ m, dotTo (a :: xs) (b :: ys) (m + 1) = a * b + dotTo xs ys m
  | 0 => by simp [dotTo]
  | m + 1 => by
    have ih := dotTo_cons a b xs ys m; rw [dotTo, ih, dotTo]; simp only [List.getD_cons_succ]
    omega
theorem dotL_cons (a b : Int) (xs ys : List Int) : dotL (a :: xs) (b :: ys) = a * b + dotL xs ys := by
  unfold dotL
  rw [List.length_cons, dotTo_cons]
theorem steps_skip {labels ls ds : List Int} {l d : Int} (h : l ∉ labels) : stepsL labels (l :: ls) (d :: ds) = stepsL labels ls ds :=
  List.map_congr_left fun x hx => by simp only [strOf]; rw [if_neg (fun e => h (by rw [← e]; exact hx))]
theorem sl_full : ∀ {ls ds is : List Int}, ls.Nodup → ls.length = ds.length → is.length = ls.length → dotL (stepsL ls ls ds) is = offL ds is
  | [], [], [], _, _, _ => by simp [dotL, stepsL, dotTo, offL]
  | l :: ls, d :: ds, i :: is, hn, hl, hi => by
    have hn' := List.nodup_cons.1 hn; have ih := sl_full (ls := ls) (ds := ds) (is := is) hn'.2 (by simpa using hl) (by simpa using hi); have e : stepsL (l :: ls) (l :: ls) (d :: ds) = prodI ds :: stepsL ls ls ds := by
      rw [← steps_skip (l := l) (d := d) hn'.1]
      simp [stepsL, strOf]
    rw [e, dotL_cons, ih, offL, Int.mul_comm]
  | [], _ :: _, _, _, hl, _ => by simp at hl
  | _ :: _, [], _, _, hl, _ => by simp at hl
  | [], [], _ :: _, _, _, hi => by simp at hi
  | _ :: _, _ :: _, [], _, _, hi => by simp at hi
theorem sl_dot : ∀ {ls ds is : List Int} {j : Nat} (v : Int), ls.Nodup → ls.length = ds.length → j < ls.length → is.length + 1 = ls.length → v * strOf ls ds (ls.getD j 0) + dotL (stepsL (ls.eraseIdx j) ls ds) is = offL ds (is.insertIdx j v)
  | l :: ls, d :: ds, is, 0, v, hn, hl, _, hi => by
    have hn' := List.nodup_cons.1 hn; have h := sl_full (ls := ls) (ds := ds) (is := is) hn'.2 (by simpa using hl) (by simpa using hi); rw [List.eraseIdx_zero, List.tail_cons, steps_skip hn'.1, h]
    simp [strOf, offL]
  | l :: ls, d :: ds, i :: is, j + 1, v, hn, hl, hj, hi => by
    have hn' := List.nodup_cons.1 hn; have hj' : j < ls.length := by simpa using hj
    have ih := sl_dot (ls := ls) (ds := ds) (is := is) (j := j) v hn'.2 (by simpa using hl) hj' (by simpa using hi); have hne : ls.getD j 0 ≠ l := fun e => hn'.1 (e ▸ mem_getD hj'); have hm : l ∉ ls.eraseIdx j := fun h => hn'.1 (List.mem_of_mem_eraseIdx h); have e : stepsL (l :: ls.eraseIdx j) (l :: ls) (d :: ds) = prodI ds :: stepsL (ls.eraseIdx j) ls ds := by
      rw [← steps_skip (l := l) (d := d) hm]
      simp [stepsL, strOf]
    rw [List.eraseIdx_cons_succ, e, dotL_cons, List.insertIdx_succ_cons, offL, ← ih, List.getD_cons_succ]; simp only [strOf]; rw [if_neg hne, Int.mul_comm (prodI ds)]
    omega
  | [], _, _, _, _, _, _, hj, _ => by simp at hj
  | _ :: _, [], _, _, _, _, hl, _, _ => by simp at hl
  | l :: ls, _ :: _, [], j + 1, _, _, _, hj, hi => by
    have h1 : (l :: ls).length = ls.length + 1 := rfl; have h2 : ([] : List Int).length = 0 := rfl
    omega
theorem idxL_cons (d : Int) (ds : List Int) (n : Int) : idxL (d :: ds) n = (n / prodI ds % d) :: idxL ds n := by
  unfold idxL
  rw [List.length_cons, List.range_succ_eq_map, List.map_cons, List.map_map]
  rfl
theorem idxL_shift : ∀ {ds : List Int} (_ : ∀ d ∈ ds, 1 ≤ d) (q m : Int), idxL ds (q * prodI ds + m) = idxL ds m
  | [], _, q, m => rfl
  | d :: ds, hd, q, m => by
    have h1 := prodI_one (ds := ds) fun x hx => hd x (by simp [hx]); have hd1 := hd d (by simp); have ih := idxL_shift (ds := ds) (fun x hx => hd x (by simp [hx])) (q * d) m; have e : q * prodI (d :: ds) + m = q * d * prodI ds + m := by rw [prodI_cons, Int.mul_assoc]
    rw [e, idxL_cons, idxL_cons, ih]
    congr 1
    rw [Int.add_comm, Int.add_mul_ediv_right _ _ (by omega), Int.add_mul_emod_self_right]
theorem range_blocks (b : Nat) : ∀ a : Nat, List.range (a * b) = (List.range a).flatMap fun q => (List.range b).map fun r => q * b + r
  | 0 => by simp
  | a + 1 => by
    rw [Nat.add_mul, Nat.one_mul, List.range_add, range_blocks b a, List.range_succ, List.flatMap_append]
    simp
theorem one_block {α : Type} (g : Nat → List α) {v : Nat} : ∀ {a : Nat}, v < a → (List.range a).flatMap (fun q => if q = v then g q else []) = g v
  | 0, h => by omega
  | a + 1, h => by
    rw [List.range_succ, List.flatMap_append]
    by_cases e : a = v
    · subst e; have h0 : (List.range a).flatMap (fun q => if q = a then g q else []) = [] := List.flatMap_eq_nil_iff.2 fun q hq => by
        have := List.mem_range.1 hq; rw [if_neg (by omega)]
      rw [h0]; simp
    · rw [one_block g (show v < a by omega)]; simp [e]
theorem flatMap_congr' {α β : Type} {l : List α} {f g : α → List β} (h : ∀ x ∈ l, f x = g x) : l.flatMap f = l.flatMap g := by
  induction l with
  | nil => rfl
  | cons x l ih => rw [List.flatMap_cons, List.flatMap_cons, h x (by simp), ih fun y hy => h y (by simp [hy])]
theorem filter_flatMap {α β : Type} (p : β → Bool) (f : α → List β) (l : List α) : (l.flatMap f).filter p = l.flatMap fun x => (f x).filter p := by
  induction l with
  | nil => rfl
  | cons x l ih => rw [List.flatMap_cons, List.flatMap_cons, List.filter_append, ih]
theorem map_flatMap' {α β γ : Type} (g : β → γ) (f : α → List β) (l : List α) : (l.flatMap f).map g = l.flatMap fun x => (f x).map g := by
  induction l with
  | nil => rfl
  | cons x l ih => rw [List.flatMap_cons, List.flatMap_cons, List.map_append, ih]
def slHas (ds : List Int) (j : Nat) (v : Int) (n : Nat) : Bool := decide ((idxL ds n).getD j 0 = v)
def slTo (ds : List Int) (j : Nat) (v : Int) (m : Nat) : List Nat := (List.range m).filter (slHas ds j v)
def slAt (ds : List Int) (j : Nat) (v : Int) (m : Nat) : Nat := (offL ds ((idxL (ds.eraseIdx j) m).insertIdx j v)).toNat
theorem ins_in {ds is : List Int} {j : Nat} {v : Int} (hj : j < ds.length) (hv : 0 ≤ v ∧ v < ds.getD j 0) (h : idxIn (ds.eraseIdx j) is) : idxIn ds (is.insertIdx j v) := by
  have hl := h.1; rw [List.length_eraseIdx_of_lt hj] at hl; refine ⟨by rw [List.length_insertIdx_of_le_length (by omega)]; omega, fun i hi => ?_⟩
  rcases Nat.lt_trichotomy i j with c | c | c
  · have e1 : (is.insertIdx j v).getD i 0 = is.getD i 0 := by simp only [List.getD]; rw [List.getElem?_insertIdx_of_lt c]
    have e2 : (ds.eraseIdx j).getD i 0 = ds.getD i 0 := by simp only [List.getD]; rw [List.getElem?_eraseIdx_of_lt c]
    have := h.2 i (by rw [List.length_eraseIdx_of_lt hj]; omega); rw [e1, ← e2]; exact this
  · subst c; have e1 : (is.insertIdx i v).getD i 0 = v := by simp only [List.getD]; rw [List.getElem?_insertIdx_self, if_pos (by omega)]; rfl
    rw [e1]; exact hv
  · have e1 : (is.insertIdx j v).getD i 0 = is.getD (i - 1) 0 := by simp only [List.getD]; rw [List.getElem?_insertIdx_of_gt c]
    have e2 : (ds.eraseIdx j).getD (i - 1) 0 = ds.getD i 0 := by
      simp only [List.getD]; rw [List.getElem?_eraseIdx_of_ge (by omega), show i - 1 + 1 = i by omega]
    have := h.2 (i - 1) (by rw [List.length_eraseIdx_of_lt hj]; omega); rw [e1, ← e2]; exact this
theorem erase_mem {ds : List Int} {j : Nat} {p : Int → Prop} (h : ∀ d ∈ ds, p d) : ∀ d ∈ ds.eraseIdx j, p d := fun d hd => h d (List.mem_of_mem_eraseIdx hd)
theorem sl_in {ds : List Int} (hd : ∀ d ∈ ds, 1 ≤ d) {j : Nat} (hj : j < ds.length) {v : Int} (hv : 0 ≤ v ∧ v < ds.getD j 0) (m : Int) : 0 ≤ offL ds ((idxL (ds.eraseIdx j) m).insertIdx j v) ∧ offL ds ((idxL (ds.eraseIdx j) m).insertIdx j v) ≤ prodI ds - 1 :=
  offL_in hd (ins_in hj hv (idxL_in (erase_mem hd) m))
theorem sl_eq : ∀ {ds : List Int} (_ : ∀ d ∈ ds, 1 ≤ d) {j : Nat} (_ : j < ds.length) {v : Int} (_ : 0 ≤ v ∧ v < ds.getD j 0), slTo ds j v (prodI ds).toNat = (List.range (prodI (ds.eraseIdx j)).toNat).map (slAt ds j v)
  | [], _, j, hj, _, _ => by simp at hj
  | d :: ds, hd, 0, _, v, hv => by
    have hd' : ∀ x ∈ ds, 1 ≤ x := fun x hx => hd x (by simp [hx]); have hd1 := hd d (by simp); have hP := prodI_one hd'; have hv' : 0 ≤ v ∧ v < d := by simpa using hv
    have eP : (prodI (d :: ds)).toNat = d.toNat * (prodI ds).toNat := by rw [prodI_cons, Int.toNat_mul (by omega) (by omega)]
    rw [slTo, eP, range_blocks, filter_flatMap, List.eraseIdx_zero, List.tail_cons]; have e : ∀ q ∈ List.range d.toNat, ((List.range (prodI ds).toNat).map fun r => q * (prodI ds).toNat + r).filter (slHas (d :: ds) 0 v) = if q = v.toNat then (List.range (prodI ds).toNat).map fun r => q * (prodI ds).toNat + r else [] := fun q hq => by
      have hq' := List.mem_range.1 hq; have hdig : ∀ r, r < (prodI ds).toNat → slHas (d :: ds) 0 v (q * (prodI ds).toNat + r) = decide (q = v.toNat) := fun r hr => by
        unfold slHas
        rw [idxL_cons]; have e1 : ((q * (prodI ds).toNat + r : Nat) : Int) = r + q * prodI ds := by
          rw [Int.natCast_add, Int.natCast_mul, show (((prodI ds).toNat : Nat) : Int) = prodI ds by omega, Int.add_comm]
        rw [e1, Int.add_mul_ediv_right _ _ (by omega), Int.ediv_eq_zero_of_lt (by omega) (by omega), Int.zero_add, Int.emod_eq_of_lt (by omega) (by omega), Bool.eq_iff_iff, decide_eq_true_eq, decide_eq_true_eq]; simp only [List.getD_cons_zero]
        omega
      by_cases c : q = v.toNat
      · rw [if_pos c, List.filter_eq_self]; intro x hx; obtain ⟨r, hr, rfl⟩ := List.mem_map.1 hx; rw [hdig r (List.mem_range.1 hr)]; simpa using c
      · rw [if_neg c, List.filter_eq_nil_iff]; intro x hx; obtain ⟨r, hr, rfl⟩ := List.mem_map.1 hx; rw [hdig r (List.mem_range.1 hr)]; simpa using c
    rw [flatMap_congr' e, one_block _ (show v.toNat < d.toNat by omega)]; refine List.map_congr_left fun r hr => ?_; have hr' := List.mem_range.1 hr
    unfold slAt
    rw [List.eraseIdx_zero, List.tail_cons, List.insertIdx_zero, offL, offL_idx hd' (by omega) (by omega), Int.toNat_add (Int.mul_nonneg hv'.1 (by omega)) (by omega), Int.toNat_mul hv'.1 (by omega)]
    simp
  | d :: ds, hd, j + 1, hj, v, hv => by
    have hd' : ∀ x ∈ ds, 1 ≤ x := fun x hx => hd x (by simp [hx]); have hd1 := hd d (by simp); have hP := prodI_one hd'; have hj' : j < ds.length := by simpa using hj
    have hv' : 0 ≤ v ∧ v < ds.getD j 0 := by simpa using hv
    have he := erase_mem (j := j) hd'; have hP' := prodI_one he; have ih := sl_eq hd' hj' hv'; have eP : (prodI (d :: ds)).toNat = d.toNat * (prodI ds).toNat := by rw [prodI_cons, Int.toNat_mul (by omega) (by omega)]
    have eP' : (prodI ((d :: ds).eraseIdx (j + 1))).toNat = d.toNat * (prodI (ds.eraseIdx j)).toNat := by rw [List.eraseIdx_cons_succ, prodI_cons, Int.toNat_mul (by omega) (by omega)]
    rw [slTo, eP, eP', range_blocks, range_blocks, filter_flatMap, map_flatMap']; refine flatMap_congr' fun q hq => ?_; have hq' := List.mem_range.1 hq; rw [List.filter_map]; have e2 : (slHas (d :: ds) (j + 1) v ∘ fun r => q * (prodI ds).toNat + r) = slHas ds j v := by
      funext r
      simp only [Function.comp, slHas]; rw [idxL_cons, List.getD_cons_succ]; have e1 : ((q * (prodI ds).toNat + r : Nat) : Int) = q * prodI ds + r := by
        rw [Int.natCast_add, Int.natCast_mul, show (((prodI ds).toNat : Nat) : Int) = prodI ds by omega]
      rw [e1, idxL_shift hd']
    rw [e2]; have ih' : (List.range (prodI ds).toNat).filter (slHas ds j v) = (List.range (prodI (ds.eraseIdx j)).toNat).map (slAt ds j v) := ih; rw [ih', List.map_map, List.map_map]; refine List.map_congr_left fun m hm => ?_; have hm' := List.mem_range.1 hm; have hin := sl_in hd' hj' hv' m; simp only [Function.comp, slAt]; have e1 : ((q * (prodI (ds.eraseIdx j)).toNat + m : Nat) : Int) = m + q * prodI (ds.eraseIdx j) := by
      rw [Int.natCast_add, Int.natCast_mul, show (((prodI (ds.eraseIdx j)).toNat : Nat) : Int) = prodI (ds.eraseIdx j) by omega, Int.add_comm]
    rw [List.eraseIdx_cons_succ, idxL_cons, e1, Int.add_mul_ediv_right _ _ (by omega), Int.ediv_eq_zero_of_lt (by omega) (by omega), Int.zero_add, Int.emod_eq_of_lt (by omega) (by omega), List.insertIdx_succ_cons, offL, Int.add_comm (m : Int), idxL_shift he,
      Int.toNat_add (Int.mul_nonneg (by omega) (by omega)) hin.1, Int.toNat_mul (by omega) (by omega)]
    simp
end Go.Proofs.YthlmjnihihbckaaGreat
namespace Go.Proofs.YthlmjnihihbckaaGreat
set_option maxRecDepth 100000
open Go.RowKit
theorem one_drop_none {α : Type} {l : List α} {k : Nat} (h : l[k]? = none) : (l.drop (k * 1)).take 1 = [] := by
  rw [Nat.mul_one, List.drop_of_length_le (List.getElem?_eq_none_iff.1 h)]; rfl
theorem mem_dropK {α : Type} {l : List α} {p q : Nat} {t : α} : ∀ k, t ∈ dropK 1 l p q k ↔ ∃ m, m < k ∧ m ≠ p ∧ m ≠ q ∧ l[m]? = some t
  | 0 => by simp [dropK]
  | k + 1 => by
    have ih := mem_dropK (l := l) (p := p) (q := q) (t := t) k; have hx : t ∈ (l.drop (k * 1)).take 1 ↔ l[k]? = some t := by
      cases h : l[k]? with
      | none => rw [one_drop_none h]; simp
      | some x => rw [one_drop h]; simp [eq_comm]
    by_cases hc : k ≠ p ∧ k ≠ q
    · rw [dropK_yes hc, List.mem_append, ih, hx]
      constructor
      · rintro (⟨m, h1, h2⟩ | h)
        · exact ⟨m, by omega, h2⟩
        · exact ⟨k, by omega, hc.1, hc.2, h⟩
      · rintro ⟨m, h1, h2, h3, h4⟩
        by_cases e : m = k
        · subst e; exact .inr h4
        · exact .inl ⟨m, by omega, h2, h3, h4⟩
    · rw [dropK_no hc, ih]
      constructor
      · rintro ⟨m, h1, h2⟩; exact ⟨m, by omega, h2⟩
      · rintro ⟨m, h1, h2, h3, h4⟩; have : m ≠ k := fun e => hc (e ▸ ⟨h2, h3⟩); exact ⟨m, by omega, h2, h3, h4⟩
def needS (ts : List Ten) (op : List Int) (i j m : Nat) : List Int := op ++ (dropK 1 ts i j m).flatMap (·.l)
section
variable {ts : List Ten} {op : List Int} {i j k : Nat} {t : Ten}
end
theorem net_has {k p n : Int} {ts : List Ten} {op : List Int} (h : netL k p n ts op) {x : Int} (hx : x ∈ op) : ∃ t ∈ ts, x ∈ t.l := by
  obtain ⟨j, hj, e⟩ := getD_of_mem hx; have ho := (open_at h.2.2.2.2 hj).2; rw [e] at ho; exact dimOf_mem (by omega)
def mgLo (i j : Int) : Nat := (min i j).toNat
def mgHi (i j : Int) : Nat := (max i j).toNat
def mgA (ts : List Ten) (i j : Int) : Ten := ts.getD (mgLo i j) noTen
def mgB (ts : List Ten) (i j : Int) : Ten := ts.getD (mgHi i j) noTen
def mergN (ts : List Ten) (op : List Int) (i j : Int) : List Int := needS ts op i.toNat j.toNat ts.length
def mergP (k p n : Int) (ts : List Ten) (op : List Int) (i j : Int) : Prop := netL k p n ts op ∧ (0 ≤ i ∧ i < ts.length) ∧ (0 ≤ j ∧ j < ts.length) ∧ i ≠ j ∧ pairP k p n (mgA ts i j) (mgB ts i j) (mergN ts op i j)
noncomputable def mergT (k p n : Int) (ts : List Ten) (op : List Int) (i j : Int) : Ten := pairR k p n (mgA ts i j) (mgB ts i j) (mergN ts op i j)
noncomputable def mergL (k p n : Int) (ts : List Ten) (op : List Int) (i j : Int) (m : Nat) : List Ten := dropK 1 (ts.set (mgLo i j) (mergT k p n ts op i j)) (mgHi i j) (mgHi i j) m
section
variable {k p n : Int} {ts : List Ten} {op : List Int} {i j : Int}
theorem merg_hi {m : Nat} (h : (m : Int) = max i j) : mergL k p n ts op i j (m + 1) = mergL k p n ts op i j m := by
  have e : m = mgHi i j := by unfold mgHi; omega
  unfold mergL
  rw [dropK_no (by omega)]
theorem merg_len (m : Nat) : (mergL k p n ts op i j m).length ≤ m := by
  have := dropK_len (m := 1) (cs := ts.set (mgLo i j) (mergT k p n ts op i j)) (p := mgHi i j) (q := mgHi i j) m
  unfold mergL; omega
theorem mergP.mem (h : mergP k p n ts op i j) {t : Ten} : t ∈ mergL k p n ts op i j ts.length ↔ t = mergT k p n ts op i j ∨ ∃ m, m < ts.length ∧ m ≠ mgLo i j ∧ m ≠ mgHi i j ∧ ts[m]? = some t := by
  obtain ⟨_, hi, hj, hne, _⟩ := h; have e : mgLo i j ≠ mgHi i j := by unfold mgLo mgHi; omega
  have e2 : mgLo i j < ts.length := by unfold mgLo; omega
  rw [mergL, mem_dropK]
  constructor
  · rintro ⟨m, h1, h2, _, h4⟩
    by_cases c : mgLo i j = m
    · subst c; rw [List.getElem?_set_self h1] at h4
      cases h4; exact .inl rfl
    · rw [List.getElem?_set_ne c] at h4; exact .inr ⟨m, h1, Ne.symm c, h2, h4⟩
  · rintro (rfl | ⟨m, h1, h2, h3, h4⟩)
    · exact ⟨mgLo i j, e2, e, e, List.getElem?_set_self e2⟩
    · exact ⟨m, h1, h3, h3, by rw [List.getElem?_set_ne (Ne.symm h2)]; exact h4⟩
theorem mergP.less (h : mergP k p n ts op i j) : (mergL k p n ts op i j ts.length).length + 1 ≤ ts.length := by
  obtain ⟨_, hi, hj, hne, _⟩ := h; have e : mgHi i j < ts.length := by unfold mgHi; omega
  have hs : ∀ (c m : Nat), mgHi i j < m → m = mgHi i j + 1 + c → (mergL k p n ts op i j m).length + 1 ≤ m := by
    intro c
    induction c with
    | zero =>
      intro m hm e; have := merg_len (k := k) (p := p) (n := n) (ts := ts) (op := op) (i := i) (j := j) (mgHi i j); rw [show m = mgHi i j + 1 by omega, merg_hi (by unfold mgHi; omega)]
      omega
    | succ c ih =>
      intro m hm e; have ih := ih (mgHi i j + 1 + c) (by omega) rfl; have e3 : mgHi i j + 1 + c ≠ mgHi i j := by omega
      rw [show m = (mgHi i j + 1 + c) + 1 by omega, mergL, dropK_yes ⟨e3, e3⟩, List.length_append, List.length_take]
      unfold mergL at ih
      omega
  exact hs (ts.length - (mgHi i j + 1)) ts.length e (by omega)
end
end Go.Proofs.YthlmjnihihbckaaGreat
namespace Go.Proofs.YthlmjnihihbckaaGreat
set_option maxRecDepth 100000
open Go.RowKit
theorem prod_erase : ∀ {ds : List Int} {j : Nat}, j < ds.length → prodI (ds.eraseIdx j) * ds.getD j 0 = prodI ds
  | [], j, h => by simp at h
  | d :: ds, 0, _ => by rw [List.eraseIdx_zero, List.tail_cons, prodI_cons, Int.mul_comm]; rfl
  | d :: ds, j + 1, h => by
    have ih := prod_erase (ds := ds) (j := j) (by simpa using h); rw [List.eraseIdx_cons_succ, prodI_cons, prodI_cons, List.getD_cons_succ, Int.mul_assoc, ih]
def slJ (t : Ten) (x : Int) : Nat := (findI t.l x).toNat
def slX (wd : Int) (t : Ten) (j : Nat) (v : Int) (m : Nat) : List Int := (slTo t.d j v m).flatMap fun (n : Nat) => elt t.x wd n
noncomputable def slT (k n : Int) (t : Ten) (x v : Int) : Ten := ⟨t.l.eraseIdx (slJ t x), t.d.eraseIdx (slJ t x), slX (widthI k n) t (slJ t x) v (prodI t.d).toNat⟩
/-- The numbers as the program meets them. -/
def slY (wd : Int) (t : Ten) (j : Nat) (v : Int) (m : Nat) : List Int := ((List.range m).map (slAt t.d j v)).flatMap fun (n : Nat) => elt t.x wd n
theorem slY_step {wd : Int} {t : Ten} {j m : Nat} {v : Int} : slY wd t j v (m + 1) = slY wd t j v m ++ elt t.x wd (slAt t.d j v m) := by
  unfold slY
  rw [List.range_succ, List.map_append, List.flatMap_append]
  simp
structure SlOK (k p n : Int) (t : Ten) (x v : Int) : Prop where
  ten : tensorL k p n t.l t.d t.x
  mem : x ∈ t.l
  val : 0 ≤ v ∧ v < t.d.getD (slJ t x) 0
section
variable {k p n : Int} {t : Ten} {x v : Int}
theorem sl_j (h : tensorL k p n t.l t.d t.x) (hx : x ∈ t.l) : slJ t x < t.l.length ∧ slJ t x < t.d.length ∧ t.l.getD (slJ t x) 0 = x := by
  have hg := findI_get hx; have ha := ten_axes h; exact ⟨hg.1, by rw [← ha.2.1]; exact hg.1, hg.2⟩
theorem SlOK.eq (h : SlOK k p n t x v) : slX (widthI k n) t (slJ t x) v (prodI t.d).toNat = slY (widthI k n) t (slJ t x) v (prodI (t.d.eraseIdx (slJ t x))).toNat := by
  have hj := sl_j h.ten h.mem
  unfold slX slY
  rw [sl_eq (fun d hd => (dims_mem (axes_dims (ten_axes h.ten)) d hd).1) hj.2.1 h.val]
theorem SlOK.at_ (h : SlOK k p n t x v) (m : Nat) : slAt t.d (slJ t x) v m < (prodI t.d).toNat ∧ ((slAt t.d (slJ t x) v m : Nat) : Int) = v * strOf t.l t.d x + dotL (stepsL (t.l.eraseIdx (slJ t x)) t.l t.d) (idxL (t.d.eraseIdx (slJ t x)) m) := by
  have hj := sl_j h.ten h.mem; have ha := ten_axes h.ten; have hd : ∀ d ∈ t.d, 1 ≤ d := fun d hd => (dims_mem (axes_dims ha) d hd).1; have hin := sl_in hd hj.2.1 h.val m; have hs := sl_dot (ls := t.l) (ds := t.d) (is := idxL (t.d.eraseIdx (slJ t x)) m) (j := slJ t x) v (axes_nodup ha) ha.2.1 hj.1 (by rw [idxL_len, List.length_eraseIdx_of_lt hj.2.1]; have := hj.2.1; have := ha.2.1; omega); rw [hj.2.2] at hs
  unfold slAt
  omega
theorem SlOK.dims (h : SlOK k p n t x v) : dimsIn (t.d.eraseIdx (slJ t x)) ∧ 1 ≤ prodI (t.d.eraseIdx (slJ t x)) ∧ prodI (t.d.eraseIdx (slJ t x)) ≤ 4096 := by
  have hj := sl_j h.ten h.mem; have ha := ten_axes h.ten; have hm := erase_mem (j := slJ t x) (dims_mem (axes_dims ha)); have hp1 := prodI_one fun d hd => (hm d hd).1; have hpe := prod_erase hj.2.1; have hd := axes_dims ha (slJ t x) hj.2.1; have hp := ten_prod h.ten; have h1 : prodI (t.d.eraseIdx (slJ t x)) * 1 ≤ prodI (t.d.eraseIdx (slJ t x)) * t.d.getD (slJ t x) 0 := Int.mul_le_mul_of_nonneg_left hd.1 (by omega); exact ⟨fun j hj => hm _ (mem_getD hj), hp1, by omega⟩
theorem SlOK.el (h : SlOK k p n t x v) (m : Nat) : InR k p n (elt t.x (widthI k n) (slAt t.d (slJ t x) v m)) := by
  have := (h.at_ m).1; exact elt_inR h.ten (by omega) (by omega)
theorem SlOK.all (h : SlOK k p n t x v) : ∀ m : Nat, ((slY (widthI k n) t (slJ t x) v m).length : Int) = m * widthI k n ∧ ∀ a ∈ slY (widthI k n) t (slJ t x) v m, 0 ≤ a ∧ a ≤ topI k p n
  | 0 => by simp [slY]
  | m + 1 => by
    have ih := SlOK.all h m; have he := h.el m; have hw := width_range h.ten.1; rw [slY_step]; refine ⟨?_, fun a ha => ?_⟩
    · rw [List.length_append, he.1, Int.natCast_add, ih.1, show ((m + 1 : Nat) : Int) = (m : Int) + 1 from rfl, Int.add_mul, Int.one_mul]; omega
    · rcases List.mem_append.1 ha with ha | ha
      · exact ih.2 a ha
      · exact he.2 a ha
theorem SlOK.axes (h : SlOK k p n t x v) : axesL (t.l.eraseIdx (slJ t x)) (t.d.eraseIdx (slJ t x)) := by
  have hj := sl_j h.ten h.mem; have ha := ten_axes h.ten; have hl := List.length_eraseIdx_of_lt hj.1; have hl2 := List.length_eraseIdx_of_lt hj.2.1; have hn : (t.l.eraseIdx (slJ t x)).Nodup := (axes_nodup ha).sublist (List.eraseIdx_sublist _ _); refine ⟨by rw [hl]; have := ha.1; omega, by rw [hl, hl2, ha.2.1], fun i hi => ⟨?_, h.dims.1 i (by rw [hl] at hi; rw [hl2]; have := ha.2.1; omega), nodup_not_take hn hi⟩⟩; obtain ⟨q, hq, e⟩ := getD_of_mem (List.mem_of_mem_eraseIdx (mem_getD hi)); rw [← e]; exact (ha.2.2 q hq).1
theorem SlOK.out (h : SlOK k p n t x v) : tensorL k p n (slT k n t x v).l (slT k n t x v).d (slT k n t x v).x := by
  have hd := h.dims; have ha := h.axes; have hx := h.all (prodI (t.d.eraseIdx (slJ t x))).toNat; refine ⟨h.ten.1, sizeI_ge.2 ⟨ha, hd.2.2⟩, ?_, fun a hm => ?_⟩
  · show ((slX (widthI k n) t (slJ t x) v (prodI t.d).toNat).length : Int) = sizeI (t.l.eraseIdx (slJ t x)) (t.d.eraseIdx (slJ t x)) * widthI k n
    rw [h.eq, sizeI_yes ha hd.2.2, hx.1, show (((prodI (t.d.eraseIdx (slJ t x))).toNat : Nat) : Int) = prodI (t.d.eraseIdx (slJ t x)) by omega]
  · have hm' : a ∈ slX (widthI k n) t (slJ t x) v (prodI t.d).toNat := hm; rw [h.eq] at hm'; exact hx.2 a hm'
end
end Go.Proofs.YthlmjnihihbckaaGreat
namespace Go.Proofs.YthlmjnihihbckaaGreat
set_option maxRecDepth 100000
open Go.RowKit
section
variable {k p n : Int} {ts : List Ten} {op ls : List Int}
end
/-- A slice of rows of which nothing is wanted by itself. -/
structure Row0 : Prop where
theorem Row0.at (_ : Row0) : ∃ _ _ : Unit, True := ⟨(), (), trivial⟩
theorem TensL.append {a b : List Ten} {ca cb : List Value} {h : PH} (ra : TensL a ca h) (rb : TensL b cb h) : TensL (a ++ b) (ca ++ cb) h := by
  refine ⟨by rw [List.length_append, List.length_append, ra.1, rb.1]; omega, fun i t e => ?_⟩
  by_cases hi : i < a.length
  · rw [List.getElem?_append_left hi] at e; have := ra.2 i t e; have e2 : ((ca ++ cb).drop (i * 3)).take 3 = (ca.drop (i * 3)).take 3 := by
      rw [List.drop_append, List.take_append]; have hl : 3 - (ca.drop (i * 3)).length = 0 := by rw [List.length_drop, ra.1]; omega
      rw [hl, List.take_zero, List.append_nil]
    rw [e2]; exact this
  · rw [List.getElem?_append_right (by omega)] at e; have := rb.2 _ t e; have e2 : ((ca ++ cb).drop (i * 3)).take 3 = (cb.drop ((i - a.length) * 3)).take 3 := by
      rw [List.drop_append, List.drop_of_length_le (by rw [ra.1]; omega), List.nil_append, ra.1, show i * 3 - a.length * 3 = (i - a.length) * 3 by omega]
    rw [e2]; exact this
end Go.Proofs.YthlmjnihihbckaaGreat
namespace Go.Proofs.YthlmjnihihbckaaGreat
set_option maxRecDepth 100000
open Go.RowKit
structure MaR (s : Mach) (vs vf vd : Value) (b : Nat) (h : PH) : Prop where
  c0 : cellP h b 0 = some vs
  c1 : cellP h b 1 = some vf
  c2 : cellP h b 2 = some vd
  S : TensR s.S vs h
  F : BoolsR s.F vf h
  D : BoolsR s.D vd h
def MaO (s : Mach) (bb : Nat) (h q : PH) : Prop :=
  ∃ vs vf vd h0 hf hd hs cs, RowO 34 cs s.S.length 3 vs h0 ∧ BoolsO s.F vf hf ∧ BoolsO s.D vd hd ∧ TensL s.S cs (PUn hs q) ∧ Made h [box bb [vs, vf, vd] 163, h0, hf, hd, hs]
theorem TensL.blank (h : PH) : ∀ m, TensL (List.replicate m noTen) (List.replicate m [Value.slice none 0 0, .slice none 0 0, .slice none 0 0]).flatten h
  | 0 => TensL.nil h
  | m + 1 => by
    have := (TensL.blank h m).snoc (t := noTen) (IntsR.nil h) (IntsR.nil h) (IntsR.nil h); rw [← List.replicate_succ'] at this; rw [show (List.replicate (m + 1) [Value.slice none 0 0, .slice none 0 0, .slice none 0 0]).flatten = (List.replicate m [Value.slice none 0 0, .slice none 0 0, .slice none 0 0]).flatten ++ [Value.slice none 0 0, .slice none 0 0, .slice none 0 0] by rw [List.replicate_succ', List.flatten_append]; simp]; exact this
theorem ct_s_l25New (k p n R : Int) (ts : List Ten) (vt vo : Value) (w : World) (q : PH) (r : TensR ts vt (hp w)) (hR : 0 ≤ R ∧ R ≤ 100) (hts : ts.length ≤ 1000) :
    Calls Tryz.prog 153 [netV k p n vt vo, num R].toArray w (Ret w emp (fun u h => ∃ bb, u = ptrV bb ∧ MaO (mach0 R.toNat ts.length) bb h q)) := by
  refine calls_in Tryz.func153 rfl Tryz.ntmps153 rfl (Sat.start w) ?_; have hle0 := r.le; obtain ⟨cs_r, rr_r, hc_r⟩ := r.at; refine wp_sc (wp_sq ?_); refine sq_x rfl (x_box rfl rfl) rfl ?_; rintro _ _ ⟨b2, rfl, rfl⟩; refine sq_v rfl (v_assign rfl) rfl (sq_end (qs_n (wp_sc ?_))); refine wp_ra (σ := Nat × PH × Value × PH × Value × PH × Value) 11 (fun z_ => BoolsO (List.replicate (R : Int).toNat false) z_.2.2.2.2.1 z_.2.2.2.1 ∧ BoolsO (List.replicate (ts.length : Int).toNat false) z_.2.2.1 z_.2.1 ∧ RowO 34 ((List.replicate (R : Int).toNat [.slice none 0 0, .slice none 0 0, .slice none 0 0]).flatten) ((R : Int).toNat) 3 z_.2.2.2.2.2.2 z_.2.2.2.2.2.1) (fun z_ => [(4, .pointer (some ⟨z_.1, 0, none⟩))]) (fun z_ => [box z_.1 [z_.2.2.2.2.2.2, z_.2.2.2.2.1, z_.2.2.1] 163, z_.2.1, z_.2.2.2.1, z_.2.2.2.2.2.1, box b2 [num k, num p, num n, vt, vo] 40, hp w]) mixed_ok (by kernel_rfl) ?_ ?_
  · refine ra_v (i := 0) (by kernel_rfl) rfl rfl (v_move rfl) rfl (ra_v (i := 2) (by kernel_rfl) rfl rfl (v_move rfl) rfl (ra_v (i := 4) (by kernel_rfl) rfl rfl (v_fieldAddr fd_40_1 ty_38 (by decide) rfl) rfl (ra_v (i := 5) (by kernel_rfl) rfl rfl (v_loadB 0 ty_38 rfl rfl rfl) rfl (ra_v (i := 6) (by kernel_rfl) rfl rfl (v_len Tryz.underlying38 rfl r.sl) rfl ?_)))); refine ra_3 (i := 1) (j := 3) (p := 7) (by kernel_rfl) ?_ ?_ ?_
    · refine ro_x rfl rfl (x_make Tryz.underlying38 ty_34 rfl rfl rfl rfl (by omega) (by omega) (by omega)) rfl ?_; intro v6 h6 r6; refine ra_2 (i := 3) (j := 7) (by kernel_rfl) ?_ ?_
      · refine ro_x rfl rfl (x_makeBl Tryz.underlying161 ty_4 rfl rfl (by omega) (by omega) (by omega)) rfl ?_; intro v8 h8 r8; refine ra_rj [(7, false), (8, true), (9, false), (10, true)] (by kernel_rfl) rfl ?_; refine rj_x rfl rfl (x_makeBl Tryz.underlying161 ty_4 rfl rfl (by omega) (by omega) (by omega)) rfl ?_; intro v12 h12 r12; refine rj_v rfl rfl (v_build [v6, v8, v12] rfl (by obtain ⟨_, _, rfl⟩ := r6.toR.sl; obtain ⟨_, _, rfl⟩ := r8.toR.sl; obtain ⟨_, _, rfl⟩ := r12.toR.sl; kernel_rfl)) rfl ?_; refine rj_x rfl rfl (x_box rfl rfl) rfl ?_; rintro _ _ ⟨b14, rfl, rfl⟩; refine rj_v rfl rfl (v_assign rfl) rfl (rj_end ?_); exact qs_mid (b14, h12, v12, h8, v8, h6, v6) ⟨r8, r12, r6⟩ ⟨rfl, trivial⟩ (fun _ s => s.pick [0, 1, 2, 3, 4, 5] (by decide) rfl)
      · refine ro_x rfl rfl (x_makeBl Tryz.underlying161 ty_4 rfl rfl (by omega) (by omega) (by omega)) rfl ?_; intro v12 h12 r12; refine ra_rj [(3, false), (8, true), (9, false), (10, true)] (by kernel_rfl) rfl ?_; refine rj_x rfl rfl (x_makeBl Tryz.underlying161 ty_4 rfl rfl (by omega) (by omega) (by omega)) rfl ?_; intro v8 h8 r8; refine rj_v rfl rfl (v_build [v6, v8, v12] rfl (by obtain ⟨_, _, rfl⟩ := r6.toR.sl; obtain ⟨_, _, rfl⟩ := r8.toR.sl; obtain ⟨_, _, rfl⟩ := r12.toR.sl; kernel_rfl)) rfl ?_; refine rj_x rfl rfl (x_box rfl rfl) rfl ?_; rintro _ _ ⟨b14, rfl, rfl⟩; refine rj_v rfl rfl (v_assign rfl) rfl (rj_end ?_); exact qs_mid (b14, h12, v12, h8, v8, h6, v6) ⟨r8, r12, r6⟩ ⟨rfl, trivial⟩ (fun _ s => s.pick [0, 2, 1, 3, 4, 5] (by decide) rfl)
    · refine ro_x rfl rfl (x_makeBl Tryz.underlying161 ty_4 rfl rfl (by omega) (by omega) (by omega)) rfl ?_; intro v8 h8 r8; refine ra_2 (i := 1) (j := 7) (by kernel_rfl) ?_ ?_
      · refine ro_x rfl rfl (x_make Tryz.underlying38 ty_34 rfl rfl rfl rfl (by omega) (by omega) (by omega)) rfl ?_; intro v6 h6 r6; refine ra_rj [(7, false), (8, true), (9, false), (10, true)] (by kernel_rfl) rfl ?_; refine rj_x rfl rfl (x_makeBl Tryz.underlying161 ty_4 rfl rfl (by omega) (by omega) (by omega)) rfl ?_; intro v12 h12 r12; refine rj_v rfl rfl (v_build [v6, v8, v12] rfl (by obtain ⟨_, _, rfl⟩ := r6.toR.sl; obtain ⟨_, _, rfl⟩ := r8.toR.sl; obtain ⟨_, _, rfl⟩ := r12.toR.sl; kernel_rfl)) rfl ?_; refine rj_x rfl rfl (x_box rfl rfl) rfl ?_; rintro _ _ ⟨b14, rfl, rfl⟩; refine rj_v rfl rfl (v_assign rfl) rfl (rj_end ?_); exact qs_mid (b14, h12, v12, h8, v8, h6, v6) ⟨r8, r12, r6⟩ ⟨rfl, trivial⟩ (fun _ s => s.pick [0, 1, 3, 2, 4, 5] (by decide) rfl)
      · refine ro_x rfl rfl (x_makeBl Tryz.underlying161 ty_4 rfl rfl (by omega) (by omega) (by omega)) rfl ?_; intro v12 h12 r12; refine ra_rj [(1, false), (8, true), (9, false), (10, true)] (by kernel_rfl) rfl ?_; refine rj_x rfl rfl (x_make Tryz.underlying38 ty_34 rfl rfl rfl rfl (by omega) (by omega) (by omega)) rfl ?_; intro v6 h6 r6; refine rj_v rfl rfl (v_build [v6, v8, v12] rfl (by obtain ⟨_, _, rfl⟩ := r6.toR.sl; obtain ⟨_, _, rfl⟩ := r8.toR.sl; obtain ⟨_, _, rfl⟩ := r12.toR.sl; kernel_rfl)) rfl ?_; refine rj_x rfl rfl (x_box rfl rfl) rfl ?_; rintro _ _ ⟨b14, rfl, rfl⟩; refine rj_v rfl rfl (v_assign rfl) rfl (rj_end ?_); exact qs_mid (b14, h12, v12, h8, v8, h6, v6) ⟨r8, r12, r6⟩ ⟨rfl, trivial⟩ (fun _ s => s.pick [0, 2, 3, 1, 4, 5] (by decide) rfl)
    · refine ro_x rfl rfl (x_makeBl Tryz.underlying161 ty_4 rfl rfl (by omega) (by omega) (by omega)) rfl ?_; intro v12 h12 r12; refine ra_2 (i := 1) (j := 3) (by kernel_rfl) ?_ ?_
      · refine ro_x rfl rfl (x_make Tryz.underlying38 ty_34 rfl rfl rfl rfl (by omega) (by omega) (by omega)) rfl ?_; intro v6 h6 r6; refine ra_rj [(3, false), (8, true), (9, false), (10, true)] (by kernel_rfl) rfl ?_; refine rj_x rfl rfl (x_makeBl Tryz.underlying161 ty_4 rfl rfl (by omega) (by omega) (by omega)) rfl ?_; intro v8 h8 r8; refine rj_v rfl rfl (v_build [v6, v8, v12] rfl (by obtain ⟨_, _, rfl⟩ := r6.toR.sl; obtain ⟨_, _, rfl⟩ := r8.toR.sl; obtain ⟨_, _, rfl⟩ := r12.toR.sl; kernel_rfl)) rfl ?_; refine rj_x rfl rfl (x_box rfl rfl) rfl ?_; rintro _ _ ⟨b14, rfl, rfl⟩; refine rj_v rfl rfl (v_assign rfl) rfl (rj_end ?_); exact qs_mid (b14, h12, v12, h8, v8, h6, v6) ⟨r8, r12, r6⟩ ⟨rfl, trivial⟩ (fun _ s => s.pick [0, 3, 1, 2, 4, 5] (by decide) rfl)
      · refine ro_x rfl rfl (x_makeBl Tryz.underlying161 ty_4 rfl rfl (by omega) (by omega) (by omega)) rfl ?_; intro v8 h8 r8; refine ra_rj [(1, false), (8, true), (9, false), (10, true)] (by kernel_rfl) rfl ?_; refine rj_x rfl rfl (x_make Tryz.underlying38 ty_34 rfl rfl rfl rfl (by omega) (by omega) (by omega)) rfl ?_; intro v6 h6 r6; refine rj_v rfl rfl (v_build [v6, v8, v12] rfl (by obtain ⟨_, _, rfl⟩ := r6.toR.sl; obtain ⟨_, _, rfl⟩ := r8.toR.sl; obtain ⟨_, _, rfl⟩ := r12.toR.sl; kernel_rfl)) rfl ?_; refine rj_x rfl rfl (x_box rfl rfl) rfl ?_; rintro _ _ ⟨b14, rfl, rfl⟩; refine rj_v rfl rfl (v_assign rfl) rfl (rj_end ?_); exact qs_mid (b14, h12, v12, h8, v8, h6, v6) ⟨r8, r12, r6⟩ ⟨rfl, trivial⟩ (fun _ s => s.pick [0, 3, 2, 1, 4, 5] (by decide) rfl)
  · rintro ⟨b14, h12, v12, h8, v8, h6, v6⟩ ⟨r8, r12, r6⟩; dsimp only at r8 r12 r6 ⊢; refine qs_n (wp_rt ?_); refine qs_close [box b2 _ _, hp w] [box b14 _ _, h6, h8, h12, emp] (fun _ s => Sat.pick (HS := emp :: box b14 _ _ :: h6 :: h8 :: h12 :: box b2 _ _ :: hp w :: []) (emp_sat (s.pick [0, 3, 2, 1, 4, 5] (by decide) rfl)) [5, 6, 1, 2, 3, 4, 0] (by decide) rfl) (fun md => ?_); exact qs_ret1 rfl rfl (fin_t 0 (i := 2) rfl rfl rfl ⟨b14, rfl, v6, v8, v12, h6, h8, h12, emp, _, by rw [show (mach0 R.toNat ts.length).S.length = R.toNat from List.length_replicate]; exact r6, r8, by have e := r12; rw [Int.toNat_natCast] at e; exact e, TensL.blank _ _, md⟩)
theorem ct_s_l25Needed (f : Int → Int) (k p n : Int) (ts : List Ten) (op : List Int) (mc : Mach) (vs vf vd vt vo : Value) (bb : Nat) (b c : Int) (w : World) (r : MaR mc vs vf vd bb (hp w)) (rt : TensR ts vt (hp w)) (ro : IntsR op vo (hp w)) (hok : mc.ok f) (hts : ∀ t ∈ ts, tenF f t) (hD : mc.D.length = ts.length) (hF : mc.F.length ≤ 100) (hl : ts.length ≤ 1000) (hop : op.length ≤ 1048576) :
    Calls Tryz.prog 228 [netV k p n vt vo, .pointer (some ⟨bb, 0, none⟩), num b, num c].toArray w (Ret w emp (IntsO (needL op ts mc b c))) := by
  have rS := r.S; have rF := r.F; have rD := r.D; have hSl := hok.len; refine calls_in Tryz.func228 rfl Tryz.ntmps228 rfl (Sat.start w) ?_; have hle0 := rt.le; obtain ⟨cs_rt, rr_rt, hc_rt⟩ := rt.at; have hle1 := ro.le; have hle2 := rS.le; obtain ⟨cs_rS, rr_rS, hc_rS⟩ := rS.at; have hle3 := rF.le; have hle4 := rD.le; refine wp_sc (wp_sq ?_); refine sq_x rfl (x_box rfl rfl) rfl ?_; rintro _ _ ⟨b4, rfl, rfl⟩; refine sq_v rfl (v_assign rfl) rfl (sq_end (qs_n (wp_sc (wp_sq (sq_v rfl (v_fieldAddr fd_40_2 ty_25 (by decide) rfl) rfl (sq_v rfl (v_loadB 0 ty_25 rfl rfl rfl) rfl ?_)))))); refine sq_x rfl (x_call rfl en_112 (fun w s => ct_s_l05Ints _ _ w (ro.mono (s.get 1 rfl)) (by first | assumption | omega))) rfl ?_; rintro v16 h16 r16; refine sq_v rfl (v_assign rfl) rfl (sq_end (qs_n (wp_sc (wp_sc (wp_sq (sq_v rfl (v_move rfl) rfl (sq_v rfl (v_nilCheck rfl) rfl (sq_v rfl (v_fieldAddr fd_163_0 ty_38 (by decide) rfl) rfl (sq_v rfl (v_load 2 ty_38 rfl rfl r.c0) rfl (sq_v rfl (v_len Tryz.underlying38 rfl rS.sl) rfl (sq_v rfl (v_move rfl) rfl (sq_end (qs_n (wp_bl ?_)))))))))))))); refine wp_lp (σ := Nat × Value × PH) (fun z_ => [(1, .pointer (some ⟨bb, 0, none⟩)), (2, num b), (3, num c), (4, .pointer (some ⟨b4, 0, none⟩)), (8, .slice none 0 0), (9, z_.2.1), (20, vs), (21, num mc.S.length), (22, num z_.1)]) (fun z_ => [z_.2.2, box b4 [num k, num p, num n, vt, vo] 40, hp w]) (fun z_ => z_.1 ≤ mc.S.length ∧ IntsO (keepRg op mc b c z_.1) z_.2.1 z_.2.2) (fun z_ => mc.S.length - z_.1) (0, v16, h16) (⟨by (try dsimp only); omega, by (try dsimp only); simpa [keepRg] using r16⟩) ⟨rfl, rfl, rfl, rfl, rfl, rfl, rfl, rfl, rfl, trivial⟩ (fun _ s => s) ?_; rintro ⟨i, lv, lh⟩ ⟨hi, q⟩; dsimp only at hi q ⊢; have hle_q := q.toR.le; have hkl := keepRg_len (op := op) (b := b) (c := c) hok i; refine wp_sc (wp_sq (sq_v rfl (v_lss rfl rfl) rfl (sq_end (qs_n (wp_sc ?_))))); refine wp_cd rfl (fun c23 => ?_) (fun c23 => ?_)
  · refine wp_sk (qs_n (wp_sc (wp_bl (wp_sc (wp_sq (sq_v rfl (v_move rfl) rfl ?_)))))); obtain ⟨t25, a25, b25, c25, ht25, hcs25, rl25, rd25, rx25⟩ := hc_rS (i) (by first | omega | (rw [List.length_set]; omega)); refine sq_v rfl (v_indexAddr Tryz.underlying38 ty_34 rfl rfl rr_rS (by decide) (by omega) (by omega)) rfl ?_; refine sq_v rfl (v_loadNE 2 ty_34 rfl rfl rr_rS (by have := rr_rS.1; omega) rfl hcs25) rfl ?_; refine sq_x rfl (x_alloc ty_34 rfl) rfl ?_; rintro _ _ ⟨b11, rfl, rfl⟩; refine sq_v rfl (v_assign rfl) rfl ?_; refine sq_m 0 rfl rfl (m_store 0 ty_34 rfl rfl rfl rfl (by simp [rl25.sl.one, rd25.sl.one, rx25.sl.one]) rfl (Nat.le_of_ble_eq_true rfl)) rfl ?_; rintro _ _ ⟨rfl, rfl⟩; refine sq_end ?_; have et : t25 = mc.ten i := (tenD_of ht25).symm; have hfew := (hok.at i).few; rw [← et] at hfew; refine qs_n (wp_sc (wp_sq (sq_v rfl (v_move rfl) rfl (sq_v rfl (v_nilCheck rfl) rfl (sq_v rfl (v_fieldAddr fd_163_1 ty_161 (by decide) rfl) rfl (sq_v rfl (v_load 3 ty_161 rfl rfl r.c1) rfl (sq_v rfl (v_move rfl) rfl (sq_v rfl (v_idxB Tryz.underlying161 ty_4 rfl rfl rF (by omega) (by omega)) rfl (sq_v rfl (v_loadBl (k := i) 3 ty_4 rfl rfl rF (by omega)) rfl ?_))))))))); refine sq_bb 33 rfl (fun c33 => ?_) (fun c33 => ?_)
    · refine sq_v rfl (v_move rfl) rfl (sq_v rfl (v_move rfl) rfl (sq_v rfl (v_move rfl) rfl (sq_v rfl (v_neq rfl rfl) rfl (sq_v rfl (v_pickt rfl rfl) rfl ?_)))); refine sq_bd 38 rfl (fun c38 => ?_) (fun c38 => ?_)
      · refine sq_v rfl (v_move rfl) rfl (sq_v rfl (v_move rfl) rfl (sq_v rfl (v_move rfl) rfl (sq_v rfl (v_neq rfl rfl) rfl (sq_v rfl (v_pickt rfl rfl) rfl (sq_end (qs_n ?_)))))); refine wp_cd rfl (fun c43 => ?_) (fun c43 => ?_)
        · refine wp_sq (sq_v rfl (v_move rfl) rfl (sq_v rfl (v_fieldAddr fd_34_0 ty_25 (by decide) rfl) rfl (sq_v rfl (v_loadB 0 ty_25 rfl rfl rfl) rfl ?_))); refine sq_m 1 rfl rfl (m_appI 1 3 Tryz.underlying25 ty_3 rfl rfl rfl rfl q rfl rl25 (by omega)) rfl ?_; intro v47 h_r47 r47; refine sq_v rfl (v_assign rfl) rfl (sq_end (qs_bn (qs_n (wp_sq ?_)))); refine sq_v rfl (v_add rfl rfl ((by unfold I64; omega))) rfl ?_; refine sq_v rfl (v_move rfl) rfl (sq_end ?_); exact qs_bk (i + 1, v47, h_r47) ⟨by (try dsimp only); omega, by (try dsimp only); rw [keepRg_yes ⟨c33, by omega, by omega⟩, ← et]; exact r47⟩ (by simp only; omega) ⟨rfl, rfl, rfl, rfl, rfl, rfl, rfl, rfl, rfl, trivial⟩ (fun _ s => s.pick [1, 2, 3] (by decide) rfl)
        · refine wp_sk (qs_bn (qs_n (wp_sq ?_))); refine sq_v rfl (v_add rfl rfl ((by unfold I64; omega))) rfl ?_; refine sq_v rfl (v_move rfl) rfl (sq_end ?_); exact qs_bk (i + 1, lv, lh) ⟨by (try dsimp only); omega, by (try dsimp only); rw [keepRg_no (fun h => by omega)]; exact q⟩ (by simp only; omega) ⟨rfl, rfl, rfl, rfl, rfl, rfl, rfl, rfl, rfl, trivial⟩ (fun _ s => s.pick [1, 2, 3] (by decide) rfl)
      · refine sq_v rfl (v_move rfl) rfl (sq_s rfl rfl (sq_s rfl rfl (sq_s rfl rfl (sq_v rfl (v_pickf rfl rfl) rfl (sq_end (qs_n (wp_cf rfl (wp_sk (qs_bn (qs_n (wp_sq ?_))))))))))); refine sq_v rfl (v_add rfl rfl ((by unfold I64; omega))) rfl ?_; refine sq_v rfl (v_move rfl) rfl (sq_end ?_); exact qs_bk (i + 1, lv, lh) ⟨by (try dsimp only); omega, by (try dsimp only); rw [keepRg_no (fun h => by omega)]; exact q⟩ (by simp only; omega) ⟨rfl, rfl, rfl, rfl, rfl, rfl, rfl, rfl, rfl, trivial⟩ (fun _ s => s.pick [1, 2, 3] (by decide) rfl)
    · refine sq_v rfl (v_move rfl) rfl (sq_s rfl rfl (sq_s rfl rfl (sq_s rfl rfl (sq_v rfl (v_pickf rfl rfl) rfl (sq_v rfl (v_move rfl) rfl (sq_s rfl rfl (sq_s rfl rfl (sq_s rfl rfl (sq_v rfl (v_pickf rfl rfl) rfl (sq_end (qs_n ?_))))))))))); refine wp_cf rfl (wp_sk (qs_bn (qs_n (wp_sq ?_)))); refine sq_v rfl (v_add rfl rfl ((by unfold I64; omega))) rfl ?_; refine sq_v rfl (v_move rfl) rfl (sq_end ?_); exact qs_bk (i + 1, lv, lh) ⟨by (try dsimp only); omega, by (try dsimp only); rw [keepRg_no (fun h => by rw [c33] at h; exact absurd h.1 (by decide))]; exact q⟩ (by simp only; omega) ⟨rfl, rfl, rfl, rfl, rfl, rfl, rfl, rfl, rfl, trivial⟩ (fun _ s => s.pick [1, 2, 3] (by decide) rfl)
  · refine wp_ex (qs_x (qs_x (qs_bx (qs_n (wp_sc (wp_sc (wp_sq (sq_v rfl (v_fieldAddr fd_40_1 ty_38 (by decide) rfl) rfl (sq_v rfl (v_loadB 1 ty_38 rfl rfl rfl) rfl (sq_v rfl (v_len Tryz.underlying38 rfl rt.sl) rfl (sq_v rfl (v_move rfl) rfl (sq_end (qs_n (wp_bl ?_)))))))))))))); refine wp_lp (σ := Nat × Value × PH) (fun z_ => [(1, .pointer (some ⟨bb, 0, none⟩)), (8, .slice none 0 0), (9, z_.2.1), (50, vt), (51, num ts.length), (52, num z_.1)]) (fun z_ => [z_.2.2, box b4 [num k, num p, num n, vt, vo] 40, hp w]) (fun z_ => z_.1 ≤ ts.length ∧ IntsO (keepRg op mc b c mc.F.length ++ keepLd ts mc z_.1) z_.2.1 z_.2.2) (fun z_ => ts.length - z_.1) (0, lv, lh) (⟨by (try dsimp only); omega, by (try dsimp only); rw [show i = mc.F.length by omega] at q; simpa [keepLd] using q⟩) ⟨rfl, rfl, rfl, rfl, rfl, rfl, trivial⟩ (fun _ s => s) ?_; rintro ⟨i, lv, lh⟩ ⟨hi, q⟩; dsimp only at hi q ⊢; have hle_q := q.toR.le; have hkl := keepRg_len (op := op) (b := b) (c := c) hok mc.F.length; have hkd := keepLd_len (s := mc) hts i; have hka := @List.length_append Int (keepRg op mc b c mc.F.length) (keepLd ts mc i); refine wp_sc (wp_sq (sq_v rfl (v_lss rfl rfl) rfl (sq_end (qs_n (wp_sc ?_))))); refine wp_cd rfl (fun c53 => ?_) (fun c53 => ?_)
    · refine wp_sk (qs_n (wp_sc (wp_bl (wp_sc (wp_sq (sq_v rfl (v_move rfl) rfl ?_)))))); obtain ⟨t55, a55, b55, c55, ht55, hcs55, rl55, rd55, rx55⟩ := hc_rt (i) (by first | omega | (rw [List.length_set]; omega)); refine sq_v rfl (v_indexAddr Tryz.underlying38 ty_34 rfl rfl rr_rt (by decide) (by omega) (by omega)) rfl ?_; refine sq_v rfl (v_loadNE 2 ty_34 rfl rfl rr_rt (by have := rr_rt.1; omega) rfl hcs55) rfl ?_; refine sq_x rfl (x_alloc ty_34 rfl) rfl ?_; rintro _ _ ⟨b13, rfl, rfl⟩; refine sq_v rfl (v_assign rfl) rfl ?_; refine sq_m 0 rfl rfl (m_store 0 ty_34 rfl rfl rfl rfl (by simp [rl55.sl.one, rd55.sl.one, rx55.sl.one]) rfl (Nat.le_of_ble_eq_true rfl)) rfl ?_; rintro _ _ ⟨rfl, rfl⟩; refine sq_end ?_; have et : t55 = ts.getD i noTen := (tenD_of ht55).symm; have hfew := (hts _ (List.mem_of_getElem? ht55)).few; refine qs_n (wp_sc (wp_sq (sq_v rfl (v_move rfl) rfl (sq_v rfl (v_nilCheck rfl) rfl (sq_v rfl (v_fieldAddr fd_163_2 ty_161 (by decide) rfl) rfl (sq_v rfl (v_load 3 ty_161 rfl rfl r.c2) rfl (sq_v rfl (v_move rfl) rfl (sq_v rfl (v_idxB Tryz.underlying161 ty_4 rfl rfl rD (by omega) (by omega)) rfl (sq_v rfl (v_loadBl (k := i) 3 ty_4 rfl rfl rD (by omega)) rfl (sq_v rfl (v_not rfl) rfl (sq_end (qs_n ?_)))))))))))); refine wp_cn _ rfl (fun c64 => ?_) (fun c64 => ?_)
      · refine wp_sq (sq_v rfl (v_move rfl) rfl (sq_v rfl (v_fieldAddr fd_34_0 ty_25 (by decide) rfl) rfl (sq_v rfl (v_loadB 0 ty_25 rfl rfl rfl) rfl ?_))); refine sq_m 1 rfl rfl (m_appI 1 3 Tryz.underlying25 ty_3 rfl rfl rfl rfl q rfl rl55 (by omega)) rfl ?_; intro v68 h_r68 r68; refine sq_v rfl (v_assign rfl) rfl (sq_end (qs_bn (qs_n (wp_sq ?_)))); refine sq_v rfl (v_add rfl rfl ((by unfold I64; omega))) rfl ?_; refine sq_v rfl (v_move rfl) rfl (sq_end ?_); exact qs_bk (i + 1, v68, h_r68) ⟨by (try dsimp only); omega, by (try dsimp only); rw [keepLd_yes c64, ← et, ← List.append_assoc]; exact r68⟩ (by simp only; omega) ⟨rfl, rfl, rfl, rfl, rfl, rfl, trivial⟩ (fun _ s => s.pick [1, 2, 3] (by decide) rfl)
      · refine wp_sk (qs_bn (qs_n (wp_sq ?_))); refine sq_v rfl (v_add rfl rfl ((by unfold I64; omega))) rfl ?_; refine sq_v rfl (v_move rfl) rfl (sq_end ?_); exact qs_bk (i + 1, lv, lh) ⟨by (try dsimp only); omega, by (try dsimp only); rw [keepLd_no c64]; exact q⟩ (by simp only; omega) ⟨rfl, rfl, rfl, rfl, rfl, rfl, trivial⟩ (fun _ s => s.pick [1, 2, 3] (by decide) rfl)
    · refine wp_ex (qs_x (qs_x (qs_bx (qs_n (wp_sc (wp_sq (sq_v rfl (v_move rfl) rfl (sq_v rfl (v_assign rfl) rfl (sq_end (qs_n (wp_rt ?_))))))))))); exact qs_ret1 rfl rfl (fin_t 0 (i := 2) rfl rfl rfl (by rw [show i = ts.length by omega] at q; exact q))
theorem TensL.put {ts : List Ten} {cs : List Value} {h : PH} (r : TensL ts cs h) {i : Nat} {t : Ten} {a b c : Value} (hi : i < ts.length) (r1 : IntsR t.l a h) (r2 : IntsR t.d b h) (r3 : IntsR t.x c h) : TensL (ts.set i t) (cs.take (i * 3) ++ [a, b, c] ++ cs.drop (i * 3 + 3)) h := by
  have hl := r.1; have key : ∀ m, (m < i * 3 ∨ i * 3 + 3 ≤ m) → (cs.take (i * 3) ++ [a, b, c] ++ cs.drop (i * 3 + 3))[m]? = cs[m]? := fun m hm => by
    rcases hm with hm | hm
    · rw [List.append_assoc, List.getElem?_append_left (by simp; omega), List.getElem?_take, if_pos hm]
    · rw [List.getElem?_append_right (by simp; omega)]; simp only [List.length_append, List.length_take, List.length_cons, List.length_nil, List.getElem?_drop]
      congr 1
      omega
  refine ⟨by simp [hl]; omega, fun j y e => ?_⟩
  by_cases hj : j = i
  · subst hj; rw [List.getElem?_set_self hi] at e
    cases e
    have e2 : ((cs.take (j * 3) ++ [a, b, c] ++ cs.drop (j * 3 + 3)).drop (j * 3)).take 3 = [a, b, c] := by
      have e3 : (cs.take (j * 3)).length = j * 3 := by simp; omega
      rw [List.append_assoc, List.drop_append, e3, Nat.sub_self, List.drop_of_length_le (by omega), List.nil_append, List.drop_zero]
      rfl
    rw [e2]; exact ⟨a, b, c, rfl, r1, r2, r3⟩
  · rw [List.getElem?_set_ne (Ne.symm hj)] at e; have e2 : ((cs.take (i * 3) ++ [a, b, c] ++ cs.drop (i * 3 + 3)).drop (j * 3)).take 3 = (cs.drop (j * 3)).take 3 := by
      apply List.ext_getElem?
      intro m; rw [List.getElem?_take, List.getElem?_take]
      split
      · rw [List.getElem?_drop, List.getElem?_drop, key _ (by omega)]
      · rfl
    rw [e2]; exact r.2 j y e
theorem ct_s_l22Within (xs ys : List Int) (v u : Value) (w : World) (r : IntsR xs v (hp w)) (r' : IntsR ys u (hp w)) : Calls Tryz.prog 199 [v, u].toArray w (RetV w (.bool (decide (∀ x ∈ xs, x ∈ ys)))) := by
  refine calls_in Tryz.func199 rfl Tryz.ntmps199 rfl (Sat.start w) ?_; have hle0 := r.le; have hle1 := r'.le; refine wp_sc (wp_sq (sq_v rfl (v_assign rfl) rfl (sq_end (qs_n (wp_sc (wp_sc (wp_sq (sq_v rfl (v_move rfl) rfl (sq_v rfl (v_len Tryz.underlying25 rfl r.sl) rfl (sq_v rfl (v_move rfl) rfl (sq_end (qs_n (wp_bl (wp_lp (σ := Nat) (fun z_ => [(1, u), (4, .bool false), (7, v), (8, num xs.length), (9, num z_)]) (fun z_ => [hp w]) (fun z_ => z_ ≤ xs.length ∧ (∀ j, j < z_ → xs.getD j 0 ∈ ys)) (fun z_ => xs.length - z_) 0 (⟨by omega, fun j hj => by omega⟩) ⟨rfl, rfl, rfl, rfl, rfl, trivial⟩ (fun _ s => s) ?_)))))))))))))); rintro i ⟨hi, hall⟩; refine wp_sc (wp_sq (sq_v rfl (v_lss rfl rfl) rfl (sq_end (qs_n (wp_sc ?_))))); refine wp_cd rfl (fun c10 => ?_) (fun c10 => ?_)
  · refine wp_sk (qs_n (wp_sc (wp_bl (wp_sc (wp_sq (sq_v rfl (v_idxI Tryz.underlying25 ty_3 rfl rfl r (by omega) (by omega)) rfl (sq_v rfl (v_loadI (k := i) 0 ty_3 rfl rfl r (by omega)) rfl (sq_v rfl (v_assign rfl) rfl (sq_end (qs_n (wp_sc (wp_sq (sq_v rfl (v_move rfl) rfl (sq_v rfl (v_move rfl) rfl (sq_u rfl (x_callv rfl en_191 (fun w s => ct_s_l05Find _ _ _ w (r'.mono (s.get 0 rfl)))) rfl (sq_v rfl (v_lss rfl rfl) rfl (sq_end (qs_n ?_)))))))))))))))))); refine wp_cd rfl (fun c16 => ?_) (fun c16 => ?_)
    · refine wp_sc (wp_sq (sq_v rfl (v_assign rfl) rfl (sq_end (qs_n (wp_rt (qs_br (qs_r (qs_r (qs_br (qs_r ?_)))))))))); exact qs_ret1 rfl rfl (fin_q (i := 0) rfl (by rw [decide_eq_false (fun h => by have := findI_ge.2 (h _ (mem_getD (k := i) (by omega))); omega)]))
    · refine wp_sk (qs_bn (qs_n (wp_sq ?_))); refine sq_v rfl (v_add rfl rfl ((by unfold I64; omega))) rfl ?_; refine sq_v rfl (v_move rfl) rfl (sq_end ?_); exact qs_bk (i + 1) ⟨by omega, fun j hj => (Nat.lt_or_ge j i).elim (hall j) (fun h => by rw [show j = i by omega]; exact findI_ge.1 (by omega))⟩ (by omega) ⟨rfl, rfl, rfl, rfl, rfl, trivial⟩ (fun _ s => s)
  · refine wp_ex (qs_x (qs_x (qs_bx (qs_n (wp_sc (wp_sq (sq_v rfl (v_assign rfl) rfl (sq_end (qs_n (wp_rt ?_)))))))))); exact qs_ret1 rfl rfl (fin_q (i := 0) rfl (by rw [decide_eq_true (fun x hx => by obtain ⟨j, hj, e⟩ := getD_of_mem hx; rw [← e]; exact hall j (by omega))]))
theorem MaR.of {s : Mach} {vs vf vd : Value} {bb : Nat} {h h0 hf hd X : PH} {cs : List Value} (hb : PLe (box bb [vs, vf, vd] 163) h) (ra : RowO 34 cs s.S.length 3 vs h0) (la : PLe h0 h) (rt : TensL s.S cs X) (lx : PLe X h) (rf : BoolsO s.F vf hf) (lf : PLe hf h) (rd : BoolsO s.D vd hd) (ld : PLe hd h) : MaR s vs vf vd bb h :=
  ⟨cellP.mono hb (by rw [cellP_box]; rfl), cellP.mono hb (by rw [cellP_box]; rfl), cellP.mono hb (by rw [cellP_box]; rfl), (rt.mono lx).tens (ra.toR.mono la), rf.toR.mono lf, rd.toR.mono ld⟩
set_option maxHeartbeats 2000000 in
theorem ct_s_l25Op (f : Int → Int) (k p n : Int) (ts : List Ten) (op : List Int) (mc : Mach) (o : Opr) (bb : Nat) (vt vo vl : Value) (w : World) (h q : PH) (hle : PLe h (hp w)) (hq : PLe q (restP w h)) (rs : MaO mc bb h q) (rt : TensR ts vt q) (ro : IntsR op vo (restP w h)) (rl : IntsR o.l vl (restP w h))
    (hok : mc.ok f) (hts : ∀ t ∈ ts, tenF f t) (hD : mc.D.length = ts.length) (hF : mc.F.length ≤ 100) (hl : ts.length ≤ 1000) (hop : op.length ≤ 1048576) (hol : o.l.length ≤ 1048576) :
    Calls Tryz.prog 154 [netV k p n vt vo, .pointer (some ⟨bb, 0, none⟩), opV o.k o.a o.b o.c vl].toArray w (Ret w h (fun u h' => ∃ ok : Bool, u = .bool ok ∧ (ok = true ↔ opP op ts mc o) ∧ (ok = true → MaO (mc.next f ts o) bb h' q))) := by
  obtain ⟨vs, vf, vd, h0, hf, hd, hs, cs, ra, rg, rd, rt0, md⟩ := rs; have hsl : PLe hs h := md.le hs (by simp); have hdr := PDj.rest (w := w) hsl; have rtx := (rt.mono hq).mono (PLe.un_r hdr); have rox := ro.mono (PLe.un_r hdr); have rlx := rl.mono (PLe.un_r hdr); have rt' := rt0.mono (PUn.mono_r (a := hs) hq); have rr := ra.toR; have hSl := hok.len; have hc : ∀ i, i < mc.S.length → ∃ t a b c, mc.S[i]? = some t ∧ (cs.drop (i * 3)).take 3 = [a, b, c] ∧ IntsR t.l a (PUn hs (restP w h)) ∧ IntsR t.d b (PUn hs (restP w h)) ∧ IntsR t.x c (PUn hs (restP w h)) := fun i hi => by
    have ht := List.getElem?_eq_getElem hi; obtain ⟨a, b, c, e, r1, r2, r3⟩ := rt'.2 i _ ht; exact ⟨_, a, b, c, ht, e, r1, r2, r3⟩
  obtain ⟨csT, rrT, hcT⟩ := rt.at; have rrX := (rrT.mono hq).mono (PLe.un_r hdr); have hcX : ∀ i, i < ts.length → ∃ t a b c, ts[i]? = some t ∧ (csT.drop (i * 3)).take 3 = [a, b, c] ∧ IntsR t.l a (PUn hs (restP w h)) ∧ IntsR t.d b (PUn hs (restP w h)) ∧ (IntsR t.l a q ∧ IntsR t.d b q ∧ IntsR t.x c q) := fun i hi => by
    obtain ⟨t, a, b, c, ht, e, r1, r2, r3⟩ := hcT i hi; exact ⟨t, a, b, c, ht, e, (r1.mono hq).mono (PLe.un_r hdr), (r2.mono hq).mono (PLe.un_r hdr), r1, r2, r3⟩
  refine calls_in Tryz.func154 rfl Tryz.ntmps154 rfl (Sat.merge (Sat.pick (HS' := [hs, restP w h, box bb [vs, vf, vd] _, h0, hf, hd]) (Sat.open (A := [restP w h]) md (Sat.start2 hle)) [5, 0, 1, 2, 3, 4] (by decide) rfl)) ?_; have hle0 := rox.le; have hle1 := rlx.le; have hle4 := rg.toR.le; have hle5 := rd.toR.le; refine wp_sc (wp_sq ?_); refine sq_x rfl (x_box rfl rfl) rfl ?_; rintro _ _ ⟨b3, rfl, rfl⟩; refine sq_x rfl (x_box rfl rfl) rfl ?_; rintro _ _ ⟨b5, rfl, rfl⟩; refine sq_v rfl (v_assign rfl) rfl (sq_end (qs_n (wp_sc (wp_sq (sq_v rfl (v_move rfl) rfl (sq_v rfl (v_nilCheck rfl) rfl (sq_v rfl (v_fieldAddr fd_163_1 ty_161 (by decide) rfl) rfl (sq_v rfl (v_loadB 3 ty_161 rfl rfl rfl) rfl (sq_v rfl (v_len Tryz.underlying161 rfl rg.toR.sl) rfl ?_))))))))); refine sq_v rfl (v_sub rfl rfl ((by unfold I64; omega))) rfl ?_; refine sq_v rfl (v_assign rfl) rfl (sq_end (qs_n (wp_sc (wp_sc (wp_sq (sq_v rfl (v_fieldAddr fd_99_1 ty_3 (by decide) rfl) rfl (sq_v rfl (v_loadB 0 ty_3 rfl rfl rfl) rfl (sq_v rfl (v_move rfl) rfl (sq_u rfl (x_callv rfl en_152 (fun w s => ct_s_l01In _ _ _ w)) rfl (sq_v rfl (v_not rfl) rfl (sq_end (qs_n ?_)))))))))))); refine wp_cnd rfl (fun c23 => ?_) (fun c23 => ?_)
  · refine wp_sc (wp_sq (sq_v rfl (v_assign rfl) rfl (sq_end (qs_n (wp_rt (qs_r (qs_s [hs, restP w h, box bb _ _, h0, hf, hd] (fun _ s => Sat.part (a := hs) (b := restP w h) hdr (s.pick [2, 3, 4, 5, 6] (by decide) rfl)) ?_))))))); refine qs_close [restP w h] [box bb _ _, h0, hf, hd, hs] (fun _ s => s.pick [1, 2, 3, 4, 5, 0] (by decide) rfl) (fun md1 => ?_); exact qs_ret1 rfl rfl (fin_m (i := 1) 0 rfl rfl rfl ⟨false, rfl, ⟨fun hq => (by cases hq), fun hq => absurd hq (fun hq => by rcases hq with ⟨_, ⟨h1, h2⟩, _⟩ | ⟨_, ⟨h1, h2⟩, _⟩ <;> omega)⟩, fun hq => (by cases hq)⟩)
  · refine wp_sk (qs_n (wp_sc (wp_sc (wp_sq (sq_v rfl (v_fieldAddr fd_99_0 ty_3 (by decide) rfl) rfl (sq_v rfl (v_loadB 0 ty_3 rfl rfl rfl) rfl (sq_end (qs_n (wp_bl (wp_sc (wp_sq (sq_v rfl (v_eql rfl rfl) rfl (sq_v rfl (v_assign rfl) rfl (sq_end (qs_n ?_))))))))))))))); refine wp_cd rfl (fun c26 => ?_) (fun c26 => ?_)
    · refine wp_sc (wp_sc (wp_rj 39 [(0, true), (1, true), (2, true), (3, true), (4, true), (5, true), (6, true), (7, true), (8, true), (9, true), (10, true), (11, true), (12, true), (13, true), (14, true), (15, false), (16, true), (17, true), (18, true), (19, true), (20, true), (21, true), (22, true), (23, true), (24, true), (25, true), (26, true), (27, true), (28, true), (29, true), (30, true), (31, true), (32, true), (33, true), (34, true), (35, true), (36, true), (37, true), (38, true)] mixed_ok (by kernel_rfl) (rj_v rfl rfl (v_move rfl) rfl (rj_v rfl rfl (v_nilCheck rfl) rfl (rj_v rfl rfl (v_fieldAddr fd_163_1 ty_161 (by decide) rfl) rfl (rj_v rfl rfl (v_loadB 3 ty_161 rfl rfl rfl) rfl (rj_v rfl rfl (v_fieldAddr fd_99_1 ty_3 (by decide) rfl) rfl (rj_v rfl rfl (v_loadB 0 ty_3 rfl rfl rfl) rfl (rj_v rfl rfl (v_idxB Tryz.underlying161 ty_4 rfl rfl rg.toR (by omega) (by omega)) rfl (rj_v rfl rfl (v_loadBl  5 ty_4 rfl rfl rg.toR (by omega)) rfl ?_)))))))))); refine rj_bb 35 rfl (fun c35 => ?_) (fun c35 => ?_)
      · refine rj_v rfl rfl (v_move rfl) rfl (rj_s rfl rfl rfl (rj_s rfl rfl rfl (rj_s rfl rfl rfl (rj_s rfl rfl rfl (rj_s rfl rfl rfl (rj_s rfl rfl rfl (rj_fs rfl rfl rfl (rj_s rfl rfl rfl (rj_v rfl rfl (v_pickt rfl rfl) rfl ?_))))))))); refine rj_v rfl rfl (v_move rfl) rfl (rj_s rfl rfl rfl (rj_s rfl rfl rfl (rj_s rfl rfl rfl (rj_s rfl rfl rfl (rj_s rfl rfl rfl (rj_s rfl rfl rfl (rj_s rfl rfl rfl (rj_s rfl rfl rfl (rj_v rfl rfl (v_pickt rfl rfl) rfl ?_))))))))); refine rj_v rfl rfl (v_move rfl) rfl (rj_s rfl rfl rfl (rj_s rfl rfl rfl (rj_s rfl rfl rfl (rj_v rfl rfl (v_pickt rfl rfl) rfl (rj_v rfl rfl (v_move rfl) rfl (rj_s rfl rfl rfl (rj_s rfl rfl rfl (rj_s rfl rfl rfl (rj_s rfl rfl rfl ?_))))))))); refine rj_v rfl rfl (v_pickt rfl rfl) rfl (rj_end (qs_n (wp_ct rfl (wp_sc (wp_sq (sq_v rfl (v_assign rfl) rfl (sq_end (qs_n (wp_rt (qs_r (qs_br (qs_r (qs_s [hs, restP w h, box bb _ _, h0, hf, hd] (fun _ s => Sat.part (a := hs) (b := restP w h) hdr (s.pick [2, 3, 4, 5, 6] (by decide) rfl)) ?_))))))))))))); refine qs_close [restP w h] [box bb _ _, h0, hf, hd, hs] (fun _ s => s.pick [1, 2, 3, 4, 5, 0] (by decide) rfl) (fun md1 => ?_); exact qs_ret1 rfl rfl (fin_m (i := 1) 0 rfl rfl rfl ⟨false, rfl, ⟨fun hq => (by cases hq), fun hq => absurd hq (fun hq => by rcases hq with ⟨_, ⟨_, _⟩, h2, ⟨h3, h3'⟩, h4, h5, h6⟩ | ⟨h1, _⟩; (first | omega | exact absurd (h2.symm.trans c35) (by decide) | exact absurd (h4.symm.trans c55) (by decide) | exact absurd (congrArg List.length h6) (by simp only [List.length_nil]; omega)); omega)⟩, fun hq => (by cases hq)⟩)
      · refine rj_v rfl rfl (v_move rfl) rfl (rj_v rfl rfl (v_fieldAddr fd_99_2 ty_3 (by decide) rfl) rfl (rj_v rfl rfl (v_loadB 0 ty_3 rfl rfl rfl) rfl (rj_v rfl rfl (v_fieldAddr fd_40_1 ty_38 (by decide) rfl) rfl (rj_v rfl rfl (v_loadB 1 ty_38 rfl rfl rfl) rfl (rj_v rfl rfl (v_len Tryz.underlying38 rfl rtx.sl) rfl ?_))))); refine rj_v rfl rfl (v_sub rfl rfl ((by unfold I64; omega))) rfl ?_; refine rj_u rfl rfl (x_callv rfl en_152 (fun w s => ct_s_l01In _ _ _ w)) rfl (rj_v rfl rfl (v_not rfl) rfl (rj_v rfl rfl (v_pickf rfl rfl) rfl ?_)); refine rj_bnd 45 rfl (fun c45 => ?_) (fun c45 => ?_)
        · refine rj_v rfl rfl (v_move rfl) rfl (rj_s rfl rfl rfl (rj_s rfl rfl rfl (rj_s rfl rfl rfl (rj_s rfl rfl rfl (rj_s rfl rfl rfl (rj_s rfl rfl rfl (rj_s rfl rfl rfl (rj_s rfl rfl rfl (rj_v rfl rfl (v_pickt rfl rfl) rfl ?_))))))))); refine rj_v rfl rfl (v_move rfl) rfl (rj_s rfl rfl rfl (rj_s rfl rfl rfl (rj_s rfl rfl rfl (rj_v rfl rfl (v_pickt rfl rfl) rfl (rj_v rfl rfl (v_move rfl) rfl (rj_s rfl rfl rfl (rj_s rfl rfl rfl (rj_s rfl rfl rfl (rj_s rfl rfl rfl ?_))))))))); refine rj_v rfl rfl (v_pickt rfl rfl) rfl (rj_end (qs_n (wp_ct rfl (wp_sc (wp_sq (sq_v rfl (v_assign rfl) rfl (sq_end (qs_n (wp_rt (qs_r (qs_br (qs_r (qs_s [hs, restP w h, box bb _ _, h0, hf, hd] (fun _ s => Sat.part (a := hs) (b := restP w h) hdr (s.pick [2, 3, 4, 5, 6] (by decide) rfl)) ?_))))))))))))); refine qs_close [restP w h] [box bb _ _, h0, hf, hd, hs] (fun _ s => s.pick [1, 2, 3, 4, 5, 0] (by decide) rfl) (fun md1 => ?_); exact qs_ret1 rfl rfl (fin_m (i := 1) 0 rfl rfl rfl ⟨false, rfl, ⟨fun hq => (by cases hq), fun hq => absurd hq (fun hq => by rcases hq with ⟨_, ⟨_, _⟩, h2, ⟨h3, h3'⟩, h4, h5, h6⟩ | ⟨h1, _⟩; (first | omega | exact absurd (h2.symm.trans c35) (by decide) | exact absurd (h4.symm.trans c55) (by decide) | exact absurd (congrArg List.length h6) (by simp only [List.length_nil]; omega)); omega)⟩, fun hq => (by cases hq)⟩)
        · refine rj_v rfl rfl (v_move rfl) rfl (rj_v rfl rfl (v_move rfl) rfl (rj_v rfl rfl (v_nilCheck rfl) rfl (rj_v rfl rfl (v_fieldAddr fd_163_2 ty_161 (by decide) rfl) rfl (rj_v rfl rfl (v_loadB 3 ty_161 rfl rfl rfl) rfl (rj_v rfl rfl (v_fieldAddr fd_99_2 ty_3 (by decide) rfl) rfl (rj_v rfl rfl (v_loadB 0 ty_3 rfl rfl rfl) rfl (rj_v rfl rfl (v_idxB Tryz.underlying161 ty_4 rfl rfl rd.toR (by omega) (by omega)) rfl (rj_v rfl rfl (v_loadBl  6 ty_4 rfl rfl rd.toR (by omega)) rfl (rj_v rfl rfl (v_pickf rfl rfl) rfl ?_))))))))); refine rj_bb 55 rfl (fun c55 => ?_) (fun c55 => ?_)
          · refine rj_v rfl rfl (v_move rfl) rfl (rj_s rfl rfl rfl (rj_s rfl rfl rfl (rj_s rfl rfl rfl (rj_v rfl rfl (v_pickt rfl rfl) rfl (rj_v rfl rfl (v_move rfl) rfl (rj_s rfl rfl rfl (rj_s rfl rfl rfl (rj_s rfl rfl rfl (rj_s rfl rfl rfl ?_))))))))); refine rj_v rfl rfl (v_pickt rfl rfl) rfl (rj_end (qs_n (wp_ct rfl (wp_sc (wp_sq (sq_v rfl (v_assign rfl) rfl (sq_end (qs_n (wp_rt (qs_r (qs_br (qs_r (qs_s [hs, restP w h, box bb _ _, h0, hf, hd] (fun _ s => Sat.part (a := hs) (b := restP w h) hdr (s.pick [2, 3, 4, 5, 6] (by decide) rfl)) ?_))))))))))))); refine qs_close [restP w h] [box bb _ _, h0, hf, hd, hs] (fun _ s => s.pick [1, 2, 3, 4, 5, 0] (by decide) rfl) (fun md1 => ?_); exact qs_ret1 rfl rfl (fin_m (i := 1) 0 rfl rfl rfl ⟨false, rfl, ⟨fun hq => (by cases hq), fun hq => absurd hq (fun hq => by rcases hq with ⟨_, ⟨_, _⟩, h2, ⟨h3, h3'⟩, h4, h5, h6⟩ | ⟨h1, _⟩; (first | omega | exact absurd (h2.symm.trans c35) (by decide) | exact absurd (h4.symm.trans c55) (by decide) | exact absurd (congrArg List.length h6) (by simp only [List.length_nil]; omega)); omega)⟩, fun hq => (by cases hq)⟩)
          · refine rj_v rfl rfl (v_move rfl) rfl (rj_v rfl rfl (v_fieldAddr fd_99_3 ty_3 (by decide) rfl) rfl (rj_v rfl rfl (v_loadB 0 ty_3 rfl rfl rfl) rfl (rj_v rfl rfl (v_neq rfl rfl) rfl (rj_v rfl rfl (v_pickf rfl rfl) rfl ?_)))); refine rj_bd 60 rfl (fun c60 => ?_) (fun c60 => ?_)
            · refine rj_v rfl rfl (v_move rfl) rfl (rj_s rfl rfl rfl (rj_s rfl rfl rfl (rj_s rfl rfl rfl (rj_s rfl rfl rfl (rj_v rfl rfl (v_pickt rfl rfl) rfl (rj_end (qs_n (wp_ct rfl (wp_sc (wp_sq (sq_v rfl (v_assign rfl) rfl (sq_end (qs_n (wp_rt (qs_r (qs_br (qs_r (qs_s [hs, restP w h, box bb _ _, h0, hf, hd] (fun _ s => Sat.part (a := hs) (b := restP w h) hdr (s.pick [2, 3, 4, 5, 6] (by decide) rfl)) ?_)))))))))))))))))); refine qs_close [restP w h] [box bb _ _, h0, hf, hd, hs] (fun _ s => s.pick [1, 2, 3, 4, 5, 0] (by decide) rfl) (fun md1 => ?_); exact qs_ret1 rfl rfl (fin_m (i := 1) 0 rfl rfl rfl ⟨false, rfl, ⟨fun hq => (by cases hq), fun hq => absurd hq (fun hq => by rcases hq with ⟨_, ⟨_, _⟩, h2, ⟨h3, h3'⟩, h4, h5, h6⟩ | ⟨h1, _⟩; (first | omega | exact absurd (h2.symm.trans c35) (by decide) | exact absurd (h4.symm.trans c55) (by decide) | exact absurd (congrArg List.length h6) (by simp only [List.length_nil]; omega)); omega)⟩, fun hq => (by cases hq)⟩)
            · refine rj_v rfl rfl (v_move rfl) rfl (rj_v rfl rfl (v_fieldAddr fd_99_4 ty_25 (by decide) rfl) rfl (rj_v rfl rfl (v_loadB 0 ty_25 rfl rfl rfl) rfl (rj_v rfl rfl (v_len Tryz.underlying25 rfl rlx.sl) rfl (rj_v rfl rfl (v_gtr rfl rfl) rfl (rj_v rfl rfl (v_pickf rfl rfl) rfl (rj_end (qs_n ?_))))))); refine wp_cd rfl (fun c66 => ?_) (fun c66 => ?_)
              · refine wp_sc (wp_sq (sq_v rfl (v_assign rfl) rfl (sq_end (qs_n (wp_rt (qs_r (qs_br (qs_r (qs_s [hs, restP w h, box bb _ _, h0, hf, hd] (fun _ s => Sat.part (a := hs) (b := restP w h) hdr (s.pick [2, 3, 4, 5, 6] (by decide) rfl)) ?_))))))))); refine qs_close [restP w h] [box bb _ _, h0, hf, hd, hs] (fun _ s => s.pick [1, 2, 3, 4, 5, 0] (by decide) rfl) (fun md1 => ?_); exact qs_ret1 rfl rfl (fin_m (i := 1) 0 rfl rfl rfl ⟨false, rfl, ⟨fun hq => (by cases hq), fun hq => absurd hq (fun hq => by rcases hq with ⟨_, ⟨_, _⟩, h2, ⟨h3, h3'⟩, h4, h5, h6⟩ | ⟨h1, _⟩; (first | omega | exact absurd (h2.symm.trans c35) (by decide) | exact absurd (h4.symm.trans c55) (by decide) | exact absurd (congrArg List.length h6) (by simp only [List.length_nil]; omega)); omega)⟩, fun hq => (by cases hq)⟩)
              · refine wp_sk (qs_n (wp_sc (wp_rj 7 [(0, true), (1, true), (2, true), (3, true), (4, true), (5, true), (6, true), (7, false)] mixed_ok (by kernel_rfl) (rj_v rfl rfl (v_move rfl) rfl (rj_v rfl rfl (v_nilCheck rfl) rfl (rj_v rfl rfl (v_fieldAddr fd_163_2 ty_161 (by decide) rfl) rfl (rj_v rfl rfl (v_loadB 3 ty_161 rfl rfl rfl) rfl (rj_v rfl rfl (v_fieldAddr fd_99_2 ty_3 (by decide) rfl) rfl (rj_v rfl rfl (v_loadB 0 ty_3 rfl rfl rfl) rfl (rj_v rfl rfl (v_idxB Tryz.underlying161 ty_4 rfl rfl rd.toR (by omega) (by omega)) rfl ?_)))))))))); refine rj_m 6 rfl rfl rfl rfl (m_storeBl 6 ty_4 rfl rfl rfl rd (by omega)) rfl ?_; rintro _ h_q9_7 ⟨rfl, q9_7⟩; refine rj_end (qs_n (wp_rj 13 [(0, true), (1, true), (2, true), (3, true), (4, true), (5, true), (6, true), (7, true), (8, true), (9, true), (10, true), (11, true), (12, true), (13, false)] mixed_ok (by kernel_rfl) (rj_v rfl rfl (v_move rfl) rfl (rj_v rfl rfl (v_nilCheck rfl) rfl (rj_v rfl rfl (v_fieldAddr fd_163_0 ty_38 (by decide) rfl) rfl (rj_v rfl rfl (v_loadB 3 ty_38 rfl rfl rfl) rfl (rj_v rfl rfl (v_fieldAddr fd_99_1 ty_3 (by decide) rfl) rfl (rj_v rfl rfl (v_loadB 0 ty_3 rfl rfl rfl) rfl (rj_v rfl rfl (v_fieldAddr fd_40_1 ty_38 (by decide) rfl) rfl (rj_v rfl rfl (v_loadB 1 ty_38 rfl rfl rfl) rfl (rj_v rfl rfl (v_fieldAddr fd_99_2 ty_3 (by decide) rfl) rfl ?_))))))))))); refine rj_v rfl rfl (v_loadB 0 ty_3 rfl rfl rfl) rfl ?_; obtain ⟨t84, a84, b84, c84, ht84, hcs84, rl84, rd84, rx84⟩ := hcX ((o.b : Int).toNat) (by first | omega | (rw [List.length_set]; omega)); refine rj_v rfl rfl (v_indexAddr Tryz.underlying38 ty_34 rfl rfl rrX (by decide) (by omega) (by omega)) rfl ?_; refine rj_v rfl rfl (v_loadNE 2 ty_34 rfl rfl rrX (by have := rrX.1; omega) rfl hcs84) rfl ?_; obtain ⟨t86, a86, b86, c86, ht86, hcs86, rl86, rd86, rx86⟩ := hc ((o.a : Int).toNat) (by first | omega | (rw [List.length_set]; omega)); refine rj_v rfl rfl (v_indexAddr Tryz.underlying38 ty_34 rfl rfl rr (by decide) (by omega) (by omega)) rfl ?_; refine rj_m 4 rfl rfl rfl rfl (m_storeE 4 ty_34 rfl rfl (us := [a84, b84, c84]) rfl rfl (fun u hu => by simp only [List.mem_cons, List.not_mem_nil, or_false] at hu; rcases hu with rfl | rfl | rfl; exact rx84.1.sl.one; exact rx84.2.1.sl.one; exact rx84.2.2.sl.one) rfl ra (by decide) (by have := ra.1; omega)) rfl ?_; rintro _ h10 ⟨rfl, r10⟩; refine rj_end (qs_bn (qs_n (wp_sc (wp_rj 7 [(0, true), (1, true), (2, true), (3, true), (4, true), (5, true), (6, true), (7, false)] mixed_ok (by kernel_rfl) (rj_v rfl rfl (v_move rfl) rfl (rj_v rfl rfl (v_nilCheck rfl) rfl (rj_v rfl rfl (v_fieldAddr fd_163_1 ty_161 (by decide) rfl) rfl (rj_v rfl rfl (v_loadB 3 ty_161 rfl rfl rfl) rfl (rj_v rfl rfl (v_fieldAddr fd_99_1 ty_3 (by decide) rfl) rfl (rj_v rfl rfl (v_loadB 0 ty_3 rfl rfl rfl) rfl (rj_v rfl rfl (v_idxB Tryz.underlying161 ty_4 rfl rfl rg.toR (by omega) (by omega)) rfl ?_))))))))))); refine rj_m 5 rfl rfl rfl rfl (m_storeBl 5 ty_4 rfl rfl rfl rg (by omega)) rfl ?_; rintro _ h_q26_7 ⟨rfl, q26_7⟩; refine rj_end (qs_n (wp_sc (wp_sq (sq_v rfl (v_assign rfl) rfl (sq_end (qs_n (wp_rt (qs_s [hs, restP w h, box bb _ _, h10, h_q26_7, h_q9_7] (fun _ s => Sat.part (a := hs) (b := restP w h) hdr (s.pick [2, 3, 4, 5, 6] (by decide) rfl)) ?_)))))))); refine qs_close [restP w h] [box bb _ _, h10, h_q26_7, h_q9_7, hs] (fun _ s => s.pick [1, 2, 3, 4, 5, 0] (by decide) rfl) (fun md1 => ?_); have en : mc.next f ts o = mc.load ts o := if_pos c26; have e84 : ts.getD o.b.toNat noTen = t84 := tenD_of ht84; have hdq : PDj hs q := (hdr.symm.mono hq).symm; have hput := rt0.put (i := o.a.toNat) (t := t84) (by omega) (rx84.1.mono (PLe.un_r hdq)) (rx84.2.1.mono (PLe.un_r hdq)) (rx84.2.2.mono (PLe.un_r hdq)); rw [← e84] at hput; exact qs_ret1 rfl rfl (fin_m (i := 1) 0 rfl rfl rfl ⟨true, rfl, ⟨fun _ => .inl ⟨c26, ⟨c23.1, by omega⟩, c35, ⟨by omega, by omega⟩, c55, by omega, List.eq_nil_of_length_eq_zero (by omega)⟩, fun _ => rfl⟩, fun _ => by rw [en]; exact ⟨vs, vf, vd, h10, h_q26_7, h_q9_7, hs, _, by show RowO _ _ (mc.S.set _ _).length _ _ _; rw [List.length_set]; exact r10, q26_7, q9_7, hput, md1⟩⟩)
    · refine wp_sc (wp_sq (sq_v rfl (v_eql rfl rfl) rfl (sq_v rfl (v_assign rfl) rfl (sq_end (qs_n ?_))))); refine wp_cd rfl (fun c87 => ?_) (fun c87 => ?_)
      · refine wp_sc (wp_sc (wp_rj 51 [(0, true), (1, true), (2, true), (3, true), (4, true), (5, true), (6, true), (7, true), (8, true), (9, true), (10, true), (11, true), (12, false), (13, true), (14, true), (15, true), (16, true), (17, true), (18, true), (19, false), (20, true), (21, true), (22, true), (23, true), (24, true), (25, true), (26, true), (27, true), (28, true), (29, true), (30, true), (31, true), (32, true), (33, true), (34, true), (35, true), (36, true), (37, true), (38, true), (39, true), (40, true), (41, true), (42, true), (43, true), (44, true), (45, true), (46, true), (47, true), (48, true), (49, true), (50, true)] mixed_ok (by kernel_rfl) (rj_v rfl rfl (v_move rfl) rfl (rj_v rfl rfl (v_nilCheck rfl) rfl (rj_v rfl rfl (v_fieldAddr fd_163_1 ty_161 (by decide) rfl) rfl (rj_v rfl rfl (v_loadB 3 ty_161 rfl rfl rfl) rfl (rj_v rfl rfl (v_fieldAddr fd_99_1 ty_3 (by decide) rfl) rfl (rj_v rfl rfl (v_loadB 0 ty_3 rfl rfl rfl) rfl (rj_v rfl rfl (v_idxB Tryz.underlying161 ty_4 rfl rfl rg.toR (by omega) (by omega)) rfl (rj_v rfl rfl (v_loadBl  5 ty_4 rfl rfl rg.toR (by omega)) rfl ?_)))))))))); refine rj_bb 96 rfl (fun c96 => ?_) (fun c96 => ?_)
        · refine rj_v rfl rfl (v_move rfl) rfl (rj_s rfl rfl rfl (rj_s rfl rfl rfl (rj_s rfl rfl rfl (rj_fs rfl rfl rfl (rj_s rfl rfl rfl (rj_v rfl rfl (v_pickt rfl rfl) rfl (rj_v rfl rfl (v_move rfl) rfl (rj_s rfl rfl rfl (rj_s rfl rfl rfl ?_))))))))); refine rj_s rfl rfl rfl (rj_fs rfl rfl rfl (rj_s rfl rfl rfl (rj_v rfl rfl (v_pickt rfl rfl) rfl (rj_v rfl rfl (v_move rfl) rfl (rj_s rfl rfl rfl (rj_s rfl rfl rfl (rj_s rfl rfl rfl (rj_s rfl rfl rfl (rj_s rfl rfl rfl ?_))))))))); refine rj_v rfl rfl (v_pickt rfl rfl) rfl (rj_v rfl rfl (v_move rfl) rfl (rj_s rfl rfl rfl (rj_s rfl rfl rfl (rj_s rfl rfl rfl (rj_s rfl rfl rfl (rj_s rfl rfl rfl (rj_s rfl rfl rfl (rj_s rfl rfl rfl (rj_s rfl rfl rfl ?_))))))))); refine rj_s rfl rfl rfl (rj_v rfl rfl (v_pickt rfl rfl) rfl (rj_v rfl rfl (v_move rfl) rfl (rj_s rfl rfl rfl (rj_s rfl rfl rfl (rj_s rfl rfl rfl (rj_s rfl rfl rfl (rj_s rfl rfl rfl (rj_s rfl rfl rfl (rj_s rfl rfl rfl ?_))))))))); refine rj_s rfl rfl rfl (rj_s rfl rfl rfl (rj_v rfl rfl (v_pickt rfl rfl) rfl (rj_end (qs_n (wp_ct rfl (wp_sc (wp_sq (sq_v rfl (v_assign rfl) rfl (sq_end (qs_n (wp_rt (qs_r (qs_br (qs_r (qs_s [hs, restP w h, box bb _ _, h0, hf, hd] (fun _ s => Sat.part (a := hs) (b := restP w h) hdr (s.pick [2, 3, 4, 5, 6] (by decide) rfl)) ?_))))))))))))))); refine qs_close [restP w h] [box bb _ _, h0, hf, hd, hs] (fun _ s => s.pick [1, 2, 3, 4, 5, 0] (by decide) rfl) (fun md1 => ?_); exact qs_ret1 rfl rfl (fin_m (i := 1) 0 rfl rfl rfl ⟨false, rfl, ⟨fun hq => (by cases hq), fun hq => absurd hq (fun hq => by rcases hq with ⟨h1, _⟩ | ⟨_, ⟨_, _⟩, h2, ⟨h3, h3'⟩, ⟨h4, h4'⟩, h5, h6, h7, h8, h9⟩; omega; first | omega | exact absurd (h2.symm.trans c96) (by decide) | exact absurd (h6.symm.trans c128) (by decide) | exact absurd (h7.symm.trans c139) (by decide))⟩, fun hq => (by cases hq)⟩)
        · refine rj_v rfl rfl (v_move rfl) rfl (rj_v rfl rfl (v_fieldAddr fd_99_2 ty_3 (by decide) rfl) rfl (rj_v rfl rfl (v_loadB 0 ty_3 rfl rfl rfl) rfl (rj_v rfl rfl (v_move rfl) rfl (rj_u rfl rfl (x_callv rfl en_152 (fun w s => ct_s_l01In _ _ _ w)) rfl (rj_v rfl rfl (v_not rfl) rfl (rj_v rfl rfl (v_pickf rfl rfl) rfl ?_)))))); refine rj_bnd 103 rfl (fun c103 => ?_) (fun c103 => ?_)
          · refine rj_v rfl rfl (v_move rfl) rfl (rj_s rfl rfl rfl (rj_s rfl rfl rfl (rj_s rfl rfl rfl (rj_fs rfl rfl rfl (rj_s rfl rfl rfl (rj_v rfl rfl (v_pickt rfl rfl) rfl (rj_v rfl rfl (v_move rfl) rfl (rj_s rfl rfl rfl (rj_s rfl rfl rfl ?_))))))))); refine rj_s rfl rfl rfl (rj_s rfl rfl rfl (rj_s rfl rfl rfl (rj_v rfl rfl (v_pickt rfl rfl) rfl (rj_v rfl rfl (v_move rfl) rfl (rj_s rfl rfl rfl (rj_s rfl rfl rfl (rj_s rfl rfl rfl (rj_s rfl rfl rfl (rj_s rfl rfl rfl ?_))))))))); refine rj_s rfl rfl rfl (rj_s rfl rfl rfl (rj_s rfl rfl rfl (rj_s rfl rfl rfl (rj_v rfl rfl (v_pickt rfl rfl) rfl (rj_v rfl rfl (v_move rfl) rfl (rj_s rfl rfl rfl (rj_s rfl rfl rfl (rj_s rfl rfl rfl (rj_s rfl rfl rfl ?_))))))))); refine rj_s rfl rfl rfl (rj_s rfl rfl rfl (rj_s rfl rfl rfl (rj_s rfl rfl rfl (rj_s rfl rfl rfl (rj_v rfl rfl (v_pickt rfl rfl) rfl (rj_end (qs_n (wp_ct rfl (wp_sc (wp_sq (sq_v rfl (v_assign rfl) rfl (sq_end (qs_n (wp_rt (qs_r (qs_br (qs_r (qs_s [hs, restP w h, box bb _ _, h0, hf, hd] (fun _ s => Sat.part (a := hs) (b := restP w h) hdr (s.pick [2, 3, 4, 5, 6] (by decide) rfl)) ?_)))))))))))))))))); refine qs_close [restP w h] [box bb _ _, h0, hf, hd, hs] (fun _ s => s.pick [1, 2, 3, 4, 5, 0] (by decide) rfl) (fun md1 => ?_); exact qs_ret1 rfl rfl (fin_m (i := 1) 0 rfl rfl rfl ⟨false, rfl, ⟨fun hq => (by cases hq), fun hq => absurd hq (fun hq => by rcases hq with ⟨h1, _⟩ | ⟨_, ⟨_, _⟩, h2, ⟨h3, h3'⟩, ⟨h4, h4'⟩, h5, h6, h7, h8, h9⟩; omega; first | omega | exact absurd (h2.symm.trans c96) (by decide) | exact absurd (h6.symm.trans c128) (by decide) | exact absurd (h7.symm.trans c139) (by decide))⟩, fun hq => (by cases hq)⟩)
          · refine rj_v rfl rfl (v_move rfl) rfl (rj_v rfl rfl (v_fieldAddr fd_99_3 ty_3 (by decide) rfl) rfl (rj_v rfl rfl (v_loadB 0 ty_3 rfl rfl rfl) rfl (rj_v rfl rfl (v_move rfl) rfl (rj_u rfl rfl (x_callv rfl en_152 (fun w s => ct_s_l01In _ _ _ w)) rfl (rj_v rfl rfl (v_not rfl) rfl (rj_v rfl rfl (v_pickf rfl rfl) rfl ?_)))))); refine rj_bnd 110 rfl (fun c110 => ?_) (fun c110 => ?_)
            · refine rj_v rfl rfl (v_move rfl) rfl (rj_s rfl rfl rfl (rj_s rfl rfl rfl (rj_s rfl rfl rfl (rj_s rfl rfl rfl (rj_s rfl rfl rfl (rj_v rfl rfl (v_pickt rfl rfl) rfl (rj_v rfl rfl (v_move rfl) rfl (rj_s rfl rfl rfl (rj_s rfl rfl rfl ?_))))))))); refine rj_s rfl rfl rfl (rj_s rfl rfl rfl (rj_s rfl rfl rfl (rj_s rfl rfl rfl (rj_s rfl rfl rfl (rj_s rfl rfl rfl (rj_s rfl rfl rfl (rj_v rfl rfl (v_pickt rfl rfl) rfl (rj_v rfl rfl (v_move rfl) rfl (rj_s rfl rfl rfl ?_))))))))); refine rj_s rfl rfl rfl (rj_s rfl rfl rfl (rj_s rfl rfl rfl (rj_s rfl rfl rfl (rj_s rfl rfl rfl (rj_s rfl rfl rfl (rj_s rfl rfl rfl (rj_s rfl rfl rfl (rj_v rfl rfl (v_pickt rfl rfl) rfl (rj_end (qs_n (wp_ct rfl (wp_sc (wp_sq ?_))))))))))))); refine sq_v rfl (v_assign rfl) rfl (sq_end (qs_n (wp_rt (qs_r (qs_br (qs_r (qs_s [hs, restP w h, box bb _ _, h0, hf, hd] (fun _ s => Sat.part (a := hs) (b := restP w h) hdr (s.pick [2, 3, 4, 5, 6] (by decide) rfl)) ?_))))))); refine qs_close [restP w h] [box bb _ _, h0, hf, hd, hs] (fun _ s => s.pick [1, 2, 3, 4, 5, 0] (by decide) rfl) (fun md1 => ?_); exact qs_ret1 rfl rfl (fin_m (i := 1) 0 rfl rfl rfl ⟨false, rfl, ⟨fun hq => (by cases hq), fun hq => absurd hq (fun hq => by rcases hq with ⟨h1, _⟩ | ⟨_, ⟨_, _⟩, h2, ⟨h3, h3'⟩, ⟨h4, h4'⟩, h5, h6, h7, h8, h9⟩; omega; first | omega | exact absurd (h2.symm.trans c96) (by decide) | exact absurd (h6.symm.trans c128) (by decide) | exact absurd (h7.symm.trans c139) (by decide))⟩, fun hq => (by cases hq)⟩)
            · refine rj_v rfl rfl (v_move rfl) rfl (rj_v rfl rfl (v_fieldAddr fd_99_2 ty_3 (by decide) rfl) rfl (rj_v rfl rfl (v_loadB 0 ty_3 rfl rfl rfl) rfl (rj_v rfl rfl (v_fieldAddr fd_99_3 ty_3 (by decide) rfl) rfl (rj_v rfl rfl (v_loadB 0 ty_3 rfl rfl rfl) rfl (rj_v rfl rfl (v_eql rfl rfl) rfl (rj_v rfl rfl (v_pickf rfl rfl) rfl ?_)))))); refine rj_bd 117 rfl (fun c117 => ?_) (fun c117 => ?_)
              · refine rj_v rfl rfl (v_move rfl) rfl (rj_s rfl rfl rfl (rj_s rfl rfl rfl (rj_s rfl rfl rfl (rj_s rfl rfl rfl (rj_s rfl rfl rfl (rj_s rfl rfl rfl (rj_s rfl rfl rfl (rj_s rfl rfl rfl (rj_s rfl rfl rfl ?_))))))))); refine rj_v rfl rfl (v_pickt rfl rfl) rfl (rj_v rfl rfl (v_move rfl) rfl (rj_s rfl rfl rfl (rj_s rfl rfl rfl (rj_s rfl rfl rfl (rj_s rfl rfl rfl (rj_s rfl rfl rfl (rj_s rfl rfl rfl (rj_s rfl rfl rfl (rj_s rfl rfl rfl ?_))))))))); refine rj_s rfl rfl rfl (rj_v rfl rfl (v_pickt rfl rfl) rfl (rj_end (qs_n (wp_ct rfl (wp_sc (wp_sq (sq_v rfl (v_assign rfl) rfl (sq_end (qs_n (wp_rt (qs_r (qs_br (qs_r (qs_s [hs, restP w h, box bb _ _, h0, hf, hd] (fun _ s => Sat.part (a := hs) (b := restP w h) hdr (s.pick [2, 3, 4, 5, 6] (by decide) rfl)) ?_)))))))))))))); refine qs_close [restP w h] [box bb _ _, h0, hf, hd, hs] (fun _ s => s.pick [1, 2, 3, 4, 5, 0] (by decide) rfl) (fun md1 => ?_); exact qs_ret1 rfl rfl (fin_m (i := 1) 0 rfl rfl rfl ⟨false, rfl, ⟨fun hq => (by cases hq), fun hq => absurd hq (fun hq => by rcases hq with ⟨h1, _⟩ | ⟨_, ⟨_, _⟩, h2, ⟨h3, h3'⟩, ⟨h4, h4'⟩, h5, h6, h7, h8, h9⟩; omega; first | omega | exact absurd (h2.symm.trans c96) (by decide) | exact absurd (h6.symm.trans c128) (by decide) | exact absurd (h7.symm.trans c139) (by decide))⟩, fun hq => (by cases hq)⟩)
              · refine rj_v rfl rfl (v_move rfl) rfl (rj_v rfl rfl (v_move rfl) rfl (rj_v rfl rfl (v_nilCheck rfl) rfl (rj_v rfl rfl (v_fieldAddr fd_163_1 ty_161 (by decide) rfl) rfl (rj_v rfl rfl (v_loadB 3 ty_161 rfl rfl rfl) rfl (rj_v rfl rfl (v_fieldAddr fd_99_2 ty_3 (by decide) rfl) rfl (rj_v rfl rfl (v_loadB 0 ty_3 rfl rfl rfl) rfl (rj_v rfl rfl (v_idxB Tryz.underlying161 ty_4 rfl rfl rg.toR (by omega) (by omega)) rfl (rj_v rfl rfl (v_loadBl  5 ty_4 rfl rfl rg.toR (by omega)) rfl (rj_v rfl rfl (v_not rfl) rfl ?_))))))))); refine rj_v rfl rfl (v_pickf rfl rfl) rfl ?_; refine rj_bn 128 rfl (fun c128 => ?_) (fun c128 => ?_)
                · refine rj_v rfl rfl (v_move rfl) rfl (rj_s rfl rfl rfl (rj_s rfl rfl rfl (rj_s rfl rfl rfl (rj_s rfl rfl rfl (rj_s rfl rfl rfl (rj_s rfl rfl rfl (rj_s rfl rfl rfl (rj_s rfl rfl rfl (rj_s rfl rfl rfl ?_))))))))); refine rj_v rfl rfl (v_pickt rfl rfl) rfl (rj_end (qs_n (wp_ct rfl (wp_sc (wp_sq (sq_v rfl (v_assign rfl) rfl (sq_end (qs_n (wp_rt (qs_r (qs_br (qs_r (qs_s [hs, restP w h, box bb _ _, h0, hf, hd] (fun _ s => Sat.part (a := hs) (b := restP w h) hdr (s.pick [2, 3, 4, 5, 6] (by decide) rfl)) ?_))))))))))))); refine qs_close [restP w h] [box bb _ _, h0, hf, hd, hs] (fun _ s => s.pick [1, 2, 3, 4, 5, 0] (by decide) rfl) (fun md1 => ?_); exact qs_ret1 rfl rfl (fin_m (i := 1) 0 rfl rfl rfl ⟨false, rfl, ⟨fun hq => (by cases hq), fun hq => absurd hq (fun hq => by rcases hq with ⟨h1, _⟩ | ⟨_, ⟨_, _⟩, h2, ⟨h3, h3'⟩, ⟨h4, h4'⟩, h5, h6, h7, h8, h9⟩; omega; first | omega | exact absurd (h2.symm.trans c96) (by decide) | exact absurd (h6.symm.trans c128) (by decide) | exact absurd (h7.symm.trans c139) (by decide))⟩, fun hq => (by cases hq)⟩)
                · refine rj_v rfl rfl (v_move rfl) rfl (rj_v rfl rfl (v_move rfl) rfl (rj_v rfl rfl (v_nilCheck rfl) rfl (rj_v rfl rfl (v_fieldAddr fd_163_1 ty_161 (by decide) rfl) rfl (rj_v rfl rfl (v_loadB 3 ty_161 rfl rfl rfl) rfl (rj_v rfl rfl (v_fieldAddr fd_99_3 ty_3 (by decide) rfl) rfl (rj_v rfl rfl (v_loadB 0 ty_3 rfl rfl rfl) rfl (rj_v rfl rfl (v_idxB Tryz.underlying161 ty_4 rfl rfl rg.toR (by omega) (by omega)) rfl (rj_v rfl rfl (v_loadBl  5 ty_4 rfl rfl rg.toR (by omega)) rfl (rj_v rfl rfl (v_not rfl) rfl ?_))))))))); refine rj_v rfl rfl (v_pickf rfl rfl) rfl (rj_end (qs_n ?_)); refine wp_cn _ rfl (fun c139 => ?_) (fun c139 => ?_)
                  · refine wp_sc (wp_sq (sq_v rfl (v_assign rfl) rfl (sq_end (qs_n (wp_rt (qs_r (qs_br (qs_r (qs_s [hs, restP w h, box bb _ _, h0, hf, hd] (fun _ s => Sat.part (a := hs) (b := restP w h) hdr (s.pick [2, 3, 4, 5, 6] (by decide) rfl)) ?_))))))))); refine qs_close [restP w h] [box bb _ _, h0, hf, hd, hs] (fun _ s => s.pick [1, 2, 3, 4, 5, 0] (by decide) rfl) (fun md1 => ?_); exact qs_ret1 rfl rfl (fin_m (i := 1) 0 rfl rfl rfl ⟨false, rfl, ⟨fun hq => (by cases hq), fun hq => absurd hq (fun hq => by rcases hq with ⟨h1, _⟩ | ⟨_, ⟨_, _⟩, h2, ⟨h3, h3'⟩, ⟨h4, h4'⟩, h5, h6, h7, h8, h9⟩; omega; first | omega | exact absurd (h2.symm.trans c96) (by decide) | exact absurd (h6.symm.trans c128) (by decide) | exact absurd (h7.symm.trans c139) (by decide))⟩, fun hq => (by cases hq)⟩)
                  · refine wp_sk (qs_n (wp_sc (wp_rj 24 [(0, true), (1, true), (2, true), (3, true), (4, true), (5, true), (6, true), (7, true), (8, true), (9, true), (10, true), (11, true), (12, true), (13, true), (14, true), (15, true), (16, false), (17, true), (18, true), (19, true), (20, true), (21, true), (22, true), (23, true)] mixed_ok (by kernel_rfl) (rj_v rfl rfl (v_move rfl) rfl (rj_v rfl rfl (v_nilCheck rfl) rfl (rj_v rfl rfl (v_fieldAddr fd_163_0 ty_38 (by decide) rfl) rfl (rj_v rfl rfl (v_loadB 3 ty_38 rfl rfl rfl) rfl (rj_v rfl rfl (v_fieldAddr fd_99_2 ty_3 (by decide) rfl) rfl (rj_v rfl rfl (v_loadB 0 ty_3 rfl rfl rfl) rfl ?_))))))))); obtain ⟨t147, a147, b147, c147, ht147, hcs147, rl147, rd147, rx147⟩ := hc ((o.b : Int).toNat) (by first | omega | (rw [List.length_set]; omega)); refine rj_v rfl rfl (v_indexAddr Tryz.underlying38 ty_34 rfl rfl rr (by decide) (by omega) (by omega)) rfl ?_; refine rj_v rfl rfl (v_loadNE 4 ty_34 rfl rfl rr (by have := rr.1; omega) rfl hcs147) rfl ?_; refine rj_v rfl rfl (v_move rfl) rfl (rj_v rfl rfl (v_nilCheck rfl) rfl (rj_v rfl rfl (v_fieldAddr fd_163_0 ty_38 (by decide) rfl) rfl (rj_v rfl rfl (v_loadB 3 ty_38 rfl rfl rfl) rfl (rj_v rfl rfl (v_fieldAddr fd_99_3 ty_3 (by decide) rfl) rfl (rj_v rfl rfl (v_loadB 0 ty_3 rfl rfl rfl) rfl ?_))))); obtain ⟨t155, a155, b155, c155, ht155, hcs155, rl155, rd155, rx155⟩ := hc ((o.c : Int).toNat) (by first | omega | (rw [List.length_set]; omega)); refine rj_v rfl rfl (v_indexAddr Tryz.underlying38 ty_34 rfl rfl rr (by decide) (by omega) (by omega)) rfl ?_; refine rj_v rfl rfl (v_loadNE 4 ty_34 rfl rfl rr (by have := rr.1; omega) rfl hcs155) rfl ?_; have hB := hok.at o.b.toNat; have hC := hok.at o.c.toNat; have e147 : mc.ten o.b.toNat = t147 := tenD_of ht147; have e155 : mc.ten o.c.toNat = t155 := tenD_of ht155; rw [e147] at hB; rw [e155] at hC; have hfB := hB.few; have hfC := hC.few; have hjl := joinI_len t147.l t155.l; refine rj_x rfl rfl (x_call rfl en_155 (fun w s => ct_u_l08Join f t147 t155 _ _ _ _ _ _ w (rl147.mono (s.get 2 rfl)) (rd147.mono (s.get 2 rfl)) (rl155.mono (s.get 2 rfl)) (rd155.mono (s.get 2 rfl)) hB.1 hC.1 hC.2.1 (by omega))) rfl ?_; rintro _ h157 ⟨v1, v2, rfl, rj1, rj2⟩; refine rj_v rfl rfl (v_move rfl) rfl (rj_v rfl rfl (v_extract rfl rfl) rfl (rj_v rfl rfl (v_extract rfl rfl) rfl (rj_v rfl rfl (v_extract rfl rfl) rfl (rj_v rfl rfl (v_assign rfl) rfl (rj_v rfl rfl (v_assign rfl) rfl (rj_v rfl rfl (v_assign rfl) rfl (rj_end (qs_n (wp_sc (wp_sc (wp_sq (sq_v rfl (v_fieldAddr fd_99_4 ty_25 (by decide) rfl) rfl (sq_v rfl (v_loadB 1 ty_25 rfl rfl rfl) rfl (sq_v rfl (v_move rfl) rfl ?_)))))))))))))); refine sq_u rfl (x_callv rfl en_199 (fun w s => ct_s_l22Within _ _ _ _ w (rlx.mono (s.get 3 rfl)) (rj1.mono (s.get 0 rfl)))) rfl (sq_v rfl (v_not rfl) rfl (sq_end (qs_n ?_))); refine wp_cnd rfl (fun c165 => ?_) (fun c165 => ?_)
                    · refine wp_sc (wp_sq (sq_v rfl (v_assign rfl) rfl (sq_end (qs_n (wp_rt (qs_r (qs_br (qs_r (qs_s [hs, restP w h, box bb _ _, h0, hf, hd] (fun _ s => Sat.part (a := hs) (b := restP w h) hdr (s.pick [3, 4, 5, 6, 7] (by decide) rfl)) ?_))))))))); refine qs_close [restP w h] [box bb _ _, h0, hf, hd, hs] (fun _ s => s.pick [1, 2, 3, 4, 5, 0] (by decide) rfl) (fun md1 => ?_); exact qs_ret1 rfl rfl (fin_m (i := 1) 0 rfl rfl rfl ⟨false, rfl, ⟨fun hq => (by cases hq), fun hq => absurd hq (fun hq => by rcases hq with ⟨h1, _⟩ | ⟨_, ⟨_, _⟩, h2, ⟨h3, h3'⟩, ⟨h4, h4'⟩, h5, h6, h7, h8, h9⟩; omega; exact c165 (fun x hx => by have := h8 x hx; rw [e147, e155] at this; exact this))⟩, fun hq => (by cases hq)⟩)
                    · refine wp_sk (qs_n (wp_sc (wp_sc (wp_sq (sq_v rfl (v_loadNB 2 ty_40 rfl rfl rfl rfl) rfl (sq_v rfl (v_move rfl) rfl (sq_v rfl (v_fieldAddr fd_99_2 ty_3 (by decide) rfl) rfl (sq_v rfl (v_loadB 1 ty_3 rfl rfl rfl) rfl (sq_v rfl (v_fieldAddr fd_99_3 ty_3 (by decide) rfl) rfl (sq_v rfl (v_loadB 1 ty_3 rfl rfl rfl) rfl ?_)))))))))); refine sq_x rfl (x_call rfl en_228 (fun w s => ct_s_l25Needed f _ _ _ _ _ mc _ _ _ _ _ _ _ _ w (MaR.of (s.get 4 rfl) ra (s.get 5 rfl) rt' (s.get 3 rfl) rg (s.get 6 rfl) rd (s.get 7 rfl)) (rtx.mono (s.get 3 rfl)) (rox.mono (s.get 3 rfl)) hok hts (by first | assumption | omega) (by first | assumption | omega) (by first | assumption | omega) (by first | assumption | omega))) rfl ?_; rintro v172 h172 r172; refine sq_v rfl (v_len Tryz.underlying25 rfl r172.toR.sl) rfl (sq_v rfl (v_move rfl) rfl (sq_end (qs_n (wp_bl (wp_lp (σ := Nat) (fun z_ => [(1, .pointer (some ⟨bb, 0, none⟩)), (5, .pointer (some ⟨b5, 0, none⟩)), (6, .bool false), (8, v1), (9, v2), (172, v172), (173, num (needL op ts mc o.b o.c).length), (174, num z_)]) (fun z_ => [h172, h157, box b5 [num o.k, num o.a, num o.b, num o.c, vl] 99, box b3 [num k, num p, num n, vt, vo] 40, (PUn hs (restP w h)), box bb [vs, vf, vd] 163, h0, hf, hd]) (fun z_ => z_ ≤ (needL op ts mc o.b o.c).length ∧ (∀ j, j < z_ → (needL op ts mc o.b o.c).getD j 0 ∈ joinI t147.l t155.l → (needL op ts mc o.b o.c).getD j 0 ∈ o.l)) (fun z_ => (needL op ts mc o.b o.c).length - z_) 0 (⟨by omega, fun j hj => by omega⟩) ⟨rfl, rfl, rfl, rfl, rfl, rfl, rfl, rfl, trivial⟩ (fun _ s => s) ?_))))); rintro i ⟨hi, hall⟩; have hnl := r172.toR.le; refine wp_sc (wp_sq (sq_v rfl (v_lss rfl rfl) rfl (sq_end (qs_n (wp_sc ?_))))); refine wp_cd rfl (fun c175 => ?_) (fun c175 => ?_)
                      · refine wp_sk (qs_n (wp_sc (wp_bl (wp_sc (wp_sq (sq_v rfl (v_idxI Tryz.underlying25 ty_3 rfl rfl r172.toR (by omega) (by omega)) rfl (sq_v rfl (v_loadI (k := i) 0 ty_3 rfl rfl r172.toR (by omega)) rfl (sq_v rfl (v_assign rfl) rfl (sq_end (qs_n (wp_sc (wp_sq (sq_v rfl (v_move rfl) rfl (sq_v rfl (v_move rfl) rfl (sq_u rfl (x_callv rfl en_191 (fun w s => ct_s_l05Find _ _ _ w (rj1.mono (s.get 1 rfl)))) rfl (sq_v rfl (v_geq rfl rfl) rfl ?_)))))))))))))))); refine sq_bd 181 rfl (fun c181 => ?_) (fun c181 => ?_)
                        · refine sq_v rfl (v_move rfl) rfl (sq_v rfl (v_fieldAddr fd_99_4 ty_25 (by decide) rfl) rfl (sq_v rfl (v_loadB 2 ty_25 rfl rfl rfl) rfl (sq_v rfl (v_move rfl) rfl (sq_u rfl (x_callv rfl en_191 (fun w s => ct_s_l05Find _ _ _ w (rlx.mono (s.get 4 rfl)))) rfl (sq_v rfl (v_lss rfl rfl) rfl (sq_v rfl (v_pickt rfl rfl) rfl (sq_end (qs_n ?_)))))))); refine wp_cd rfl (fun c188 => ?_) (fun c188 => ?_)
                          · refine wp_sc (wp_sq (sq_v rfl (v_assign rfl) rfl (sq_end (qs_n (wp_rt (qs_br (qs_r (qs_r (qs_br (qs_r (qs_br (qs_r (qs_s [hs, restP w h, box bb _ _, h0, hf, hd] (fun _ s => Sat.part (a := hs) (b := restP w h) hdr (s.pick [4, 5, 6, 7, 8] (by decide) rfl)) ?_))))))))))))); refine qs_close [restP w h] [box bb _ _, h0, hf, hd, hs] (fun _ s => s.pick [1, 2, 3, 4, 5, 0] (by decide) rfl) (fun md1 => ?_); exact qs_ret1 rfl rfl (fin_m (i := 1) 0 rfl rfl rfl ⟨false, rfl, ⟨fun hq => (by cases hq), fun hq => absurd hq (fun hq => by rcases hq with ⟨h1, _⟩ | ⟨_, ⟨_, _⟩, h2, ⟨h3, h3'⟩, ⟨h4, h4'⟩, h5, h6, h7, h8, h9⟩; omega; have h10 := h9 _ (mem_getD (k := i) (by omega)) (by rw [e147, e155]; exact findI_ge.1 c181); have := findI_ge.2 h10; omega)⟩, fun hq => (by cases hq)⟩)
                          · refine wp_sk (qs_bn (qs_n (wp_sq ?_))); refine sq_v rfl (v_add rfl rfl ((by unfold I64; omega))) rfl ?_; refine sq_v rfl (v_move rfl) rfl (sq_end ?_); exact qs_bk (i + 1) ⟨by omega, fun j hj hm => (Nat.lt_or_ge j i).elim (fun h => hall j h hm) (fun h => by rw [show j = i by omega]; exact findI_ge.1 (by omega))⟩ (by omega) ⟨rfl, rfl, rfl, rfl, rfl, rfl, rfl, rfl, trivial⟩ (fun _ s => s)
                        · refine sq_v rfl (v_move rfl) rfl (sq_s rfl rfl (sq_s rfl rfl (sq_s rfl rfl (sq_s rfl rfl (sq_s rfl rfl (sq_v rfl (v_pickf rfl rfl) rfl (sq_end (qs_n (wp_cf rfl (wp_sk (qs_bn (qs_n (wp_sq ?_))))))))))))); refine sq_v rfl (v_add rfl rfl ((by unfold I64; omega))) rfl ?_; refine sq_v rfl (v_move rfl) rfl (sq_end ?_); exact qs_bk (i + 1) ⟨by omega, fun j hj hm => (Nat.lt_or_ge j i).elim (fun h => hall j h hm) (fun h => by rw [show j = i by omega] at hm; exact absurd (findI_ge.2 hm) c181)⟩ (by omega) ⟨rfl, rfl, rfl, rfl, rfl, rfl, rfl, rfl, trivial⟩ (fun _ s => s)
                      · refine wp_ex (qs_x (qs_x (qs_bx (qs_n (wp_sc (wp_rj 7 [(0, true), (1, true), (2, true), (3, true), (4, true), (5, true), (6, true), (7, false)] mixed_ok (by kernel_rfl) (rj_v rfl rfl (v_move rfl) rfl (rj_v rfl rfl (v_nilCheck rfl) rfl (rj_v rfl rfl (v_fieldAddr fd_163_1 ty_161 (by decide) rfl) rfl (rj_v rfl rfl (v_loadB 5 ty_161 rfl rfl rfl) rfl (rj_v rfl rfl (v_fieldAddr fd_99_2 ty_3 (by decide) rfl) rfl (rj_v rfl rfl (v_loadB 2 ty_3 rfl rfl rfl) rfl (rj_v rfl rfl (v_idxB Tryz.underlying161 ty_4 rfl rfl rg.toR (by omega) (by omega)) rfl ?_))))))))))))); refine rj_m 7 rfl rfl rfl rfl (m_storeBl 7 ty_4 rfl rfl rfl rg (by omega)) rfl ?_; rintro _ h_q23_7 ⟨rfl, q23_7⟩; refine rj_end (qs_n (wp_sc (wp_rj 7 [(0, true), (1, true), (2, true), (3, true), (4, true), (5, true), (6, true), (7, false)] mixed_ok (by kernel_rfl) (rj_v rfl rfl (v_move rfl) rfl (rj_v rfl rfl (v_nilCheck rfl) rfl (rj_v rfl rfl (v_fieldAddr fd_163_1 ty_161 (by decide) rfl) rfl (rj_v rfl rfl (v_loadB 5 ty_161 rfl rfl rfl) rfl (rj_v rfl rfl (v_fieldAddr fd_99_3 ty_3 (by decide) rfl) rfl (rj_v rfl rfl (v_loadB 2 ty_3 rfl rfl rfl) rfl ?_))))))))); refine rj_v rfl rfl (v_idxB Tryz.underlying161 ty_4 rfl rfl q23_7.toR (by omega) (by first | omega | (simp; omega) | (simp only [List.length_append, List.length_cons, List.length_nil]; omega) | (rw [List.length_set]; omega))) rfl ?_; refine rj_m 7 rfl rfl rfl rfl (m_storeBl 7 ty_4 rfl rfl rfl q23_7 (by first | omega | (simp; omega) | (simp only [List.length_append, List.length_cons, List.length_nil]; omega) | (rw [List.length_set]; omega))) rfl ?_; rintro _ h_q24_7 ⟨rfl, q24_7⟩; refine rj_end (qs_n (wp_rj 12 [(0, true), (1, true), (2, true), (3, true), (4, true), (5, true), (6, true), (7, true), (8, true), (9, true), (10, false), (11, true), (12, false)] mixed_ok (by kernel_rfl) (rj_v rfl rfl (v_move rfl) rfl (rj_v rfl rfl (v_nilCheck rfl) rfl (rj_v rfl rfl (v_fieldAddr fd_163_0 ty_38 (by decide) rfl) rfl (rj_v rfl rfl (v_loadB 5 ty_38 rfl rfl rfl) rfl (rj_v rfl rfl (v_fieldAddr fd_99_1 ty_3 (by decide) rfl) rfl (rj_v rfl rfl (v_loadB 2 ty_3 rfl rfl rfl) rfl (rj_v rfl rfl (v_move rfl) rfl (rj_v rfl rfl (v_move rfl) rfl (rj_v rfl rfl (v_fieldAddr fd_99_4 ty_25 (by decide) rfl) rfl ?_))))))))))); refine rj_v rfl rfl (v_loadB 2 ty_25 rfl rfl rfl) rfl ?_; refine rj_x rfl rfl (x_call rfl en_158 (fun w s => ct_s_l08Keep _ _ _ _ _ _ w (rj1.mono (s.get 1 rfl)) (rj2.mono (s.get 1 rfl)) (rlx.mono (s.get 4 rfl)) (by rw [List.length_map]) (by omega))) rfl ?_; rintro _ h214 ⟨k1, k2, g1, g2, rfl, rk1, rk2, mdk⟩; obtain ⟨t215, a215, b215, c215, ht215, hcs215, rl215, rd215, rx215⟩ := hc ((o.a : Int).toNat) (by first | omega | (rw [List.length_set]; omega)); refine rj_v rfl rfl (v_indexAddr Tryz.underlying38 ty_34 rfl rfl rr (by decide) (by omega) (by omega)) rfl ?_; refine rj_m 7 rfl rfl rfl rfl (m_storeE 7 ty_34 rfl rfl (us := [k1, k2, .slice none 0 0]) rfl rfl (fun u hu => by simp only [List.mem_cons, List.not_mem_nil, or_false] at hu; rcases hu with rfl | rfl | rfl; exact rk1.toR.sl.one; exact rk2.toR.sl.one; rfl) rfl ra (by decide) (by have := ra.1; omega)) rfl ?_; rintro _ h25 ⟨rfl, r25⟩; refine rj_end (qs_bn (qs_n (wp_sc (wp_rj 7 [(0, true), (1, true), (2, true), (3, true), (4, true), (5, true), (6, true), (7, false)] mixed_ok (by kernel_rfl) (rj_v rfl rfl (v_move rfl) rfl (rj_v rfl rfl (v_nilCheck rfl) rfl (rj_v rfl rfl (v_fieldAddr fd_163_1 ty_161 (by decide) rfl) rfl (rj_v rfl rfl (v_loadB 6 ty_161 rfl rfl rfl) rfl (rj_v rfl rfl (v_fieldAddr fd_99_1 ty_3 (by decide) rfl) rfl (rj_v rfl rfl (v_loadB 3 ty_3 rfl rfl rfl) rfl ?_)))))))))); refine rj_v rfl rfl (v_idxB Tryz.underlying161 ty_4 rfl rfl q24_7.toR (by omega) (by first | omega | (simp; omega) | (simp only [List.length_append, List.length_cons, List.length_nil]; omega) | (rw [List.length_set]; omega))) rfl ?_; refine rj_m 8 rfl rfl rfl rfl (m_storeBl 8 ty_4 rfl rfl rfl q24_7 (by first | omega | (simp; omega) | (simp only [List.length_append, List.length_cons, List.length_nil]; omega) | (rw [List.length_set]; omega))) rfl ?_; rintro _ h_q26_7 ⟨rfl, q26_7⟩; refine rj_end (qs_n (wp_sc (wp_sq (sq_v rfl (v_assign rfl) rfl (sq_end (qs_n (wp_rt (qs_s [hs, restP w h, h214, box bb _ _, h25, h_q26_7, hd] (fun _ s => Sat.part (a := hs) (b := restP w h) hdr (s.pick [5, 0, 6, 7, 8, 9] (by decide) rfl)) ?_)))))))); refine qs_close [restP w h, box bb _ _, h25, h_q26_7, hd] [hs, h214] (fun _ s => s.pick [1, 3, 4, 5, 6, 0, 2] (by decide) rfl) (fun md1 => ?_); refine qs_dj 0 1 rfl rfl rfl (fun hdq => ?_); have hdq' : PDj (joinP [hs, h214]) q := (hdq.symm.mono hq).symm; refine qs_close [restP w h] [box bb _ _, h25, h_q26_7, hd, joinP [hs, h214]] (fun _ s => s.pick [1, 2, 3, 4, 5, 0] (by decide) rfl) (fun md2 => ?_); have en : mc.next f ts o = mc.pair f o := if_neg c26; have hk : keepI mc o = (joinI t147.l t155.l).filter fun x => decide (x ∈ o.l) := by unfold keepI; rw [e147, e155]
                        rw [selP_map] at rk2; rw [← hk] at rk1 rk2; have lk := (mdk.le g1 (by simp)).trans ((md1.le h214 (by simp)).trans (PLe.un_l _ q)); have lk2 := (mdk.le g2 (by simp)).trans ((md1.le h214 (by simp)).trans (PLe.un_l _ q)); have hput := (rt0.mono (PUn.mono_l (md1.le hs (by simp)) hdq')).put (i := o.a.toNat) (t := ⟨keepI mc o, (keepI mc o).map f, []⟩) (by omega) (rk1.toR.mono lk) (rk2.toR.mono lk2) (IntsR.nil _); exact qs_ret1 rfl rfl (fin_m (i := 1) 0 rfl rfl rfl ⟨true, rfl, ⟨fun _ => .inr ⟨c87, ⟨c23.1, by omega⟩, c96, ⟨c103.1, by omega⟩, ⟨c110.1, by omega⟩, c117, c128, c139, fun x hx => by rw [e147, e155]; exact c165 x hx, fun x hx hj => by obtain ⟨j, hj', e⟩ := getD_of_mem hx; rw [e147, e155] at hj; rw [← e] at hj ⊢; exact hall j (by omega) hj⟩, fun _ => rfl⟩, fun _ => by rw [en]; exact ⟨vs, vf, vd, h25, h_q26_7, hd, _, _, by show RowO _ _ (mc.S.set _ _).length _ _ _; rw [List.length_set]; exact r25, q26_7, rd, hput, md2⟩⟩)
      · refine wp_sc (wp_sq (sq_v rfl (v_assign rfl) rfl (sq_end (qs_n (wp_rt (qs_br (qs_r (qs_s [hs, restP w h, box bb _ _, h0, hf, hd] (fun _ s => Sat.part (a := hs) (b := restP w h) hdr (s.pick [2, 3, 4, 5, 6] (by decide) rfl)) ?_)))))))); refine qs_close [restP w h] [box bb _ _, h0, hf, hd, hs] (fun _ s => s.pick [1, 2, 3, 4, 5, 0] (by decide) rfl) (fun md1 => ?_); exact qs_ret1 rfl rfl (fin_m (i := 1) 0 rfl rfl rfl ⟨false, rfl, ⟨fun hq => (by cases hq), fun hq => absurd hq (fun hq => by rcases hq with ⟨h1, _⟩ | ⟨h1, _⟩ <;> omega)⟩, fun hq => (by cases hq)⟩)
end Go.Proofs.YthlmjnihihbckaaGreat
