/-
  Parts of the proof of FnExactDecompositionOf: laws of heaps, contracts of functions.
  Conditions: none.
-/
import Derived.Test.YthlmjnihihbckaaQDecompositionOf3
namespace Go.Proofs.Ythlmjnihihbckaa
set_option maxRecDepth 100000
open Go.RowKit
structure Sm (A : Type) where
  zero : A
  one : A
  add : A → A → A
  mul : A → A → A
  addC : ∀ a b, add a b = add b a
  addA : ∀ a b c, add (add a b) c = add a (add b c)
  add0 : ∀ a, add zero a = a
  mulC : ∀ a b, mul a b = mul b a
  mulA : ∀ a b c, mul (mul a b) c = mul a (mul b c)
  mul1 : ∀ a, mul one a = a
  mul0 : ∀ a, mul zero a = zero
  dist : ∀ a b c, mul (add a b) c = add (mul a c) (mul b c)
section
variable {A : Type} (R : Sm A)
def upd (a : Int → Int) (x v : Int) : Int → Int := fun y => if y = x then v else a y
variable (f : Int → Int)
end
end Go.Proofs.Ythlmjnihihbckaa
namespace Go.Proofs.Ythlmjnihihbckaa
set_option maxRecDepth 100000
open Go.RowKit
def keepL (t u : Ten) (ks : List Int) : List Int := (joinI t.l u.l).filter fun x => decide (x ∈ ks)
def pairP (k p n : Int) (t u : Ten) (ks : List Int) : Prop := tensorL k p n t.l t.d t.x ∧ tensorL k p n u.l u.d u.x ∧ ¬ mism t u ∧ prodI (joinD t u) ≤ 65536 ∧ 0 ≤ sizeI (keepL t u ks) ((keepL t u ks).map (dimJ t u))
open Classical in
noncomputable def pairR (k p n : Int) (t u : Ten) (ks : List Int) : Ten := if pairP k p n t u ks then pairT k p n (dimJ t u) t u (keepL t u ks) else ⟨[], [], []⟩
theorem pairP.dims {k p n : Int} {t u : Ten} (h1 : tensorL k p n t.l t.d t.x) (h2 : tensorL k p n u.l u.d u.x) (h3 : ¬ mism t u) : t.d = t.l.map (dimJ t u) ∧ u.d = u.l.map (dimJ t u) ∧ joinD t u = (joinI t.l u.l).map (dimJ t u) := by
  have e1 := dimJ_l (u := u) (axes_nodup (ten_axes h1)) (ten_axes h1).2.1; have e2 := dimJ_r (axes_nodup (ten_axes h2)) (ten_axes h2).2.1 h3; exact ⟨e1, e2, joinD_map e1 e2⟩
theorem pair_ok {k p n : Int} {t u : Ten} (h1 : tensorL k p n t.l t.d t.x) (h2 : tensorL k p n u.l u.d u.x) (h3 : ¬ mism t u) (h4 : prodI (joinD t u) ≤ 65536) : PairOK k p n t u (dimJ t u) := by
  have e := pairP.dims h1 h2 h3; exact ⟨h1, h2, e.1, e.2.1, by rw [← e.2.2]; exact h4⟩
theorem keep_ok {k p n : Int} {t u : Ten} {ks : List Int} (ok : PairOK k p n t u (dimJ t u)) (h : 0 ≤ sizeI (keepL t u ks) ((keepL t u ks).map (dimJ t u))) : KeepOK t u (dimJ t u) (keepL t u ks) :=
  ⟨fun _ hl => (List.mem_filter.1 hl).1, List.Pairwise.filter _ ok.nd, (sizeI_ge.1 h).2⟩
theorem selP_prod (p : Int → Bool) : ∀ ls ds : List Int, (∀ d ∈ ds, 1 ≤ d) → 1 ≤ prodI (selP p ls ds) ∧ prodI (selP p ls ds) ≤ prodI ds
  | [], ds, h => by
    have := prodI_one h
    cases ds <;> simp [selP, prodI] at * <;> omega
  | l :: ls, [], _ => by simp [selP, prodI]
  | l :: ls, d :: ds, h => by
    have ih := selP_prod p ls ds (fun x hx => h x (by simp [hx])); have hd := h d (by simp); simp only [selP]; have h1 : 1 * prodI ds ≤ d * prodI ds := Int.mul_le_mul_of_nonneg_right hd (by omega)
    split
    · rw [prodI_cons, prodI_cons]; have h2 : d * prodI (selP p ls ds) ≤ d * prodI ds := Int.mul_le_mul_of_nonneg_left ih.2 (by omega); have h3 : 1 * 1 ≤ d * prodI (selP p ls ds) := Int.mul_le_mul hd ih.1 (by omega) (by omega)
      omega
    · rw [prodI_cons]; omega
end Go.Proofs.Ythlmjnihihbckaa
namespace Go.Proofs.Ythlmjnihihbckaa
set_option maxRecDepth 100000
open Go.RowKit
def oneT (k p n : Int) : Ten := ⟨[], [], oneL k p n⟩
theorem one_ten {k p n : Int} (h : ringL k p n) : tensorL k p n (oneT k p n).l (oneT k p n).d (oneT k p n).x := by
  have hs : sizeI [] [] = 1 := by
    have : axesL [] [] := ⟨by decide, rfl, fun j hj => by simp at hj⟩
    rw [sizeI_yes this (by decide)]; rfl
  have ho := oneL_in h; have hw := width_range h; refine ⟨h, by simp only [oneT]; omega, ?_, ho.2⟩; have := ho.1; simp only [oneT]; rw [hs]
  omega
theorem one_mism (k p n : Int) (t : Ten) : ¬ mism t (oneT k p n) := by
  rintro ⟨i, hi, _⟩
  simp [oneT] at hi
theorem one_joinD (k p n : Int) (t : Ten) : joinD t (oneT k p n) = t.d := by simp [joinD, oneT, selP]
theorem keep_axes {k p n : Int} {t u : Ten} {f : Int → Int} {K : List Int} (ok : PairOK k p n t u f) (hs : ∀ l ∈ K, l ∈ joinI t.l u.l) (hn : K.Nodup) (h12 : K.length ≤ 12) : axesL K (K.map f) := by
  refine ⟨h12, by simp, fun j hj => ⟨?_, ?_, nodup_not_take hn hj⟩⟩
  · rcases mem_joinI.1 (hs _ (mem_getD hj)) with h | h
    · obtain ⟨i, hi, e⟩ := getD_of_mem h; rw [← e]; exact ((ten_axes ok.tt).2.2 i hi).1
    · obtain ⟨i, hi, e⟩ := getD_of_mem h; rw [← e]; exact ((ten_axes ok.uu).2.2 i hi).1
  · rw [map_getD hj]; exact ok.dim _ (hs _ (mem_getD hj))
theorem sum_pair {k p n : Int} {t : Ten} (h : tensorL k p n t.l t.d t.x) (ks : List Int) : pairP k p n t (oneT k p n) ks := by
  have h1 := one_ten h.1; have hm := one_mism k p n t; have hp := ten_prod h; have ok := pair_ok h h1 hm (by rw [one_joinD]; omega); have hd := pairP.dims h h1 hm; have ej := hd.2.2; refine ⟨h, h1, hm, by rw [one_joinD]; omega, sizeI_ge.2 ⟨keep_axes ok (fun l hl => (List.mem_filter.1 hl).1) (List.Pairwise.filter _ ok.nd) ?_, ?_⟩⟩
  · have h1 := List.length_filter_le (fun x => decide (x ∈ ks)) (joinI t.l (oneT k p n).l); have h2 := joinI_len t.l (oneT k p n).l; have h3 := (ten_axes h).1; have h4 : (oneT k p n).l.length = 0 := rfl
    unfold keepL
    omega
  · have hs := selP_prod (fun x => decide (x ∈ ks)) (joinI t.l (oneT k p n).l) (joinD t (oneT k p n)) (by rw [one_joinD]; exact fun d hd => (dims_mem (axes_dims (ten_axes h)) d hd).1); rw [ej, selP_map, ← ej, one_joinD] at hs; exact Int.le_trans hs.2 hp
open Classical in
noncomputable def sumR (k p n : Int) (t : Ten) (ks : List Int) : Ten := if tensorL k p n t.l t.d t.x then pairT k p n (dimJ t (oneT k p n)) t (oneT k p n) (keepL t (oneT k p n) ks) else ⟨[], [], []⟩
theorem sumR_pair {k p n : Int} {t : Ten} {ks : List Int} (h : tensorL k p n t.l t.d t.x) : pairR k p n t (oneT k p n) ks = sumR k p n t ks := by
  rw [sumR, if_pos h, pairR, if_pos (sum_pair h ks)]
end Go.Proofs.Ythlmjnihihbckaa
namespace Go.Proofs.Ythlmjnihihbckaa
set_option maxRecDepth 100000
open Go.RowKit
def pairsL : List Nat → List (Nat × Nat)
  | [] => []
  | a :: r => r.map (fun b => (a, b)) ++ pairsL r
def bestP {α : Type} (g : α → Int) (l : List α) : Option α := l.foldl (fun o x => match o with | none => some x | some y => if g x < g y then some x else some y) none
theorem bestP_snoc {α : Type} (g : α → Int) (l : List α) (x : α) : bestP g (l ++ [x]) = match bestP g l with | none => some x | some y => if g x < g y then some x else some y := by simp [bestP]
noncomputable def gainP (f : Int → Int) (op : List Int) (s : Sh) (x : Nat × Nat) : Int :=
  min (prodI ((s.res op x.1 x.2).map f)) 1000000000 - min (prodI ((s.lab x.1).map f)) 1000000000 - min (prodI ((s.lab x.2).map f)) 1000000000
noncomputable def pickP (f : Int → Int) (op : List Int) (s : Sh) : Nat × Nat := (bestP (gainP f op s) (pairsL s.ixs)).getD (0, 0)
theorem two_off : ∀ {l : List Nat} (_ : l.Nodup) {a b : Nat}, a ∈ l → b ∈ l → a ≠ b → (l.filter fun i => decide (i ≠ a ∧ i ≠ b)).length + 2 = l.length := by
  intro l hn a b ha hb hab; have hp := List.perm_cons_erase ha; have hb' : b ∈ l.erase a := (List.mem_erase_of_ne (Ne.symm hab)).2 hb; have hp2 := List.perm_cons_erase hb'; have hn2 : (l.erase a).Nodup := hn.erase a; have e : l.filter (fun i => decide (i ≠ a ∧ i ≠ b)) = (l.erase a).erase b := by
    rw [List.Nodup.erase_eq_filter hn a, List.Nodup.erase_eq_filter (List.Pairwise.filter _ hn) b, List.filter_filter]
    apply List.filter_congr
    intro i _; rw [Bool.eq_iff_iff]
    simp [and_comm]
  have h1 := hp.length_eq; have h2 := hp2.length_eq; simp only [List.length_cons] at h1 h2; rw [e]
  omega
theorem step_count {op : List Int} {s : Sh} (h : s.ok) {a b : Nat} (ha : a ∈ s.ixs) (hb : b ∈ s.ixs) (hab : a ≠ b) : (s.step op a b).ixs.length + 1 = s.ixs.length := by
  have := two_off (ixs_nodup s) ha hb hab; rw [step_ixs h, List.length_append, List.length_singleton]
  omega
theorem steps_count {op : List Int} {s : Sh} (h : s.fine) {ss : List Stp} (hok : okSteps op s ss) : ∀ i, i ≤ ss.length → (shTo op s (ss.take i)).ixs.length + i = s.ixs.length
  | 0, _ => by simp [shTo]
  | i + 1, hi => by
    have ih := steps_count h hok i (by omega); have hx : ss[i]? = some ss[i] := List.getElem?_eq_getElem (by omega); have hst := stepOk_at hok hx; have h1 := live_ixs.1 hst.1; have h2 := live_ixs.1 hst.2.1; rw [shTo_step hx]; have := step_count (op := op) (shTo_fine h (ss.take i)).1 h1.2 h2.2 (by have := hst.2.2; omega)
    omega
noncomputable def greedyTo (f : Int → Int) (op : List Int) (s : Sh) : Nat → List Stp
  | 0 => []
  | k + 1 => greedyTo f op s k ++ [⟨(pickP f op (shTo op s (greedyTo f op s k))).1, (pickP f op (shTo op s (greedyTo f op s k))).2⟩]
def compP (k p n : Int) (ts : List Ten) (op : List Int) (ss : List Stp) : Prop := netL k p n ts op ∧ okSteps op (sh0 ts) ss
open Classical in
noncomputable def compB (k p n : Int) (ts : List Ten) (op : List Int) (ss : List Stp) : Bool := decide (compP k p n ts op ss)
noncomputable def compS (k p n : Int) (ts : List Ten) (op : List Int) (ss : List Stp) : List Stp :=
  @ite _ (compP k p n ts op ss) (Classical.propDecidable _) (ss ++ greedyTo (dimOf ts) op (shTo op (sh0 ts) ss) (ts.length - 1 - ss.length)) []
end Go.Proofs.Ythlmjnihihbckaa
namespace Go.Proofs.Ythlmjnihihbckaa
set_option maxRecDepth 100000
open Go.RowKit
abbrev noTen : Ten := ⟨[], [], []⟩
theorem dimJ_f {t u : Ten} {f : Int → Int} (ht : t.d = t.l.map f) (hu : u.d = u.l.map f) {x : Int} (hx : x ∈ joinI t.l u.l) : dimJ t u x = f x := by
  unfold dimJ
  by_cases h : x ∈ t.l
  · rw [if_pos h, ht, map_getD (findI_get h).1, (findI_get h).2]
  · have h2 := (mem_joinI.1 hx).resolve_left h; rw [if_neg h, hu, map_getD (findI_get h2).1, (findI_get h2).2]
theorem keep_map {t u : Ten} {f : Int → Int} (ht : t.d = t.l.map f) (hu : u.d = u.l.map f) (ks : List Int) : (keepL t u ks).map (dimJ t u) = (keepL t u ks).map f :=
  List.map_congr_left fun _ hx => dimJ_f ht hu (List.mem_filter.1 hx).1
theorem pair_ten {k p n : Int} {t u : Ten} {ks : List Int} (h : pairP k p n t u ks) : tensorL k p n (pairR k p n t u ks).l (pairR k p n t u ks).d (pairR k p n t u ks).x ∧ (pairR k p n t u ks).l = keepL t u ks ∧ (pairR k p n t u ks).d = (keepL t u ks).map (dimJ t u) := by
  have ok := pair_ok h.1 h.2.1 h.2.2.1 h.2.2.2.1; have hk := keep_ok ok h.2.2.2.2; have ha := ok.all hk (prodI ((joinI t.l u.l).map (dimJ t u))).toNat; have hs := sizeI_ge.1 h.2.2.2.2; rw [pairR, if_pos h]; refine ⟨⟨h.1.1, h.2.2.2.2, ?_, ha.2⟩, rfl, rfl⟩
  show ((pairX k p n (dimJ t u) t u (keepL t u ks) _).length : Int) = sizeI (keepL t u ks) ((keepL t u ks).map (dimJ t u)) * widthI k n
  rw [sizeI_yes hs.1 hs.2]; exact ha.1
theorem keepL_self {t u : Ten} {q : Int → Bool} : keepL t u ((joinI t.l u.l).filter q) = (joinI t.l u.l).filter q := by
  unfold keepL
  refine List.filter_congr fun x hx => ?_; rw [Bool.eq_iff_iff, decide_eq_true_eq, List.mem_filter]; exact ⟨fun h => h.2, fun h => ⟨hx, h⟩⟩
def stpAt (ss : List Stp) (i : Nat) : Stp := ss.getD i ⟨0, 0⟩
theorem stpAt_of {ss : List Stp} {i : Nat} {x : Stp} (h : ss[i]? = some x) : stpAt ss i = x := by simp [stpAt, List.getD, h]
noncomputable def runS (ts : List Ten) (op : List Int) (ss : List Stp) (i : Nat) : Sh := shTo op (sh0 ts) (ss.take i)
noncomputable def runK (ts : List Ten) (op : List Int) (ss : List Stp) (i : Nat) : List Int := (runS ts op ss i).res op (stpAt ss i).a.toNat (stpAt ss i).b.toNat
noncomputable def runTo (k p n : Int) (ts : List Ten) (op : List Int) (ss : List Stp) : Nat → List Ten
  | 0 => ts
  | i + 1 => runTo k p n ts op ss i ++ [pairR k p n ((runTo k p n ts op ss i).getD (stpAt ss i).a.toNat noTen) ((runTo k p n ts op ss i).getD (stpAt ss i).b.toNat noTen) (runK ts op ss i)]
noncomputable def runA (k p n : Int) (ts : List Ten) (op : List Int) (ss : List Stp) (i : Nat) : Ten := (runTo k p n ts op ss i).getD (stpAt ss i).a.toNat noTen
noncomputable def runB (k p n : Int) (ts : List Ten) (op : List Int) (ss : List Stp) (i : Nat) : Ten := (runTo k p n ts op ss i).getD (stpAt ss i).b.toNat noTen
def runFit (k p n : Int) (ts : List Ten) (op : List Int) (ss : List Stp) (i : Nat) : Prop := pairP k p n (runA k p n ts op ss i) (runB k p n ts op ss i) (runK ts op ss i)
structure RunOK (k p n : Int) (ts : List Ten) (op : List Int) (ss : List Stp) (i : Nat) : Prop where
  len : (runTo k p n ts op ss i).length = ts.length + i
  ten : ∀ (j : Nat) (t : Ten), (runTo k p n ts op ss i)[j]? = some t → tensorL k p n t.l t.d t.x ∧ t.l = (runS ts op ss i).lab j ∧ t.d = t.l.map (dimOf ts)
section
variable {k p n : Int} {ts : List Ten} {op : List Int} {ss : List Stp}
theorem runTo_step (i : Nat) : runTo k p n ts op ss (i + 1) = runTo k p n ts op ss i ++ [pairR k p n (runA k p n ts op ss i) (runB k p n ts op ss i) (runK ts op ss i)] := rfl
theorem RunOK.get {i : Nat} (r : RunOK k p n ts op ss i) {j : Nat} (hj : j < ts.length + i) : tensorL k p n ((runTo k p n ts op ss i).getD j noTen).l ((runTo k p n ts op ss i).getD j noTen).d ((runTo k p n ts op ss i).getD j noTen).x ∧
    ((runTo k p n ts op ss i).getD j noTen).l = (runS ts op ss i).lab j ∧ ((runTo k p n ts op ss i).getD j noTen).d = ((runTo k p n ts op ss i).getD j noTen).l.map (dimOf ts) := by
  have hlt : j < (runTo k p n ts op ss i).length := by rw [r.len]; exact hj
  have h := r.ten j _ (List.getElem?_eq_getElem hlt); have e2 : (runTo k p n ts op ss i).getD j noTen = (runTo k p n ts op ss i)[j] := by simp [List.getD, List.getElem?_eq_getElem hlt]
  rw [e2]; exact h
theorem run_step (h : orderL k p n ts op ss) {i : Nat} (hi : i < ss.length) : stepOk (runS ts op ss i) (stpAt ss i) ∧ runS ts op ss (i + 1) = (runS ts op ss i).step op (stpAt ss i).a.toNat (stpAt ss i).b.toNat ∧ (runS ts op ss i).all.length = ts.length + i := by
  have hx : ss[i]? = some ss[i] := List.getElem?_eq_getElem hi; refine ⟨?_, ?_, ?_⟩
  · rw [stpAt_of hx]; exact h.2.2 i hi _ hx
  · rw [stpAt_of hx]; exact shTo_step hx
  · rw [runS, shTo_all, show (sh0 ts).all.length = ts.length by simp [sh0], List.length_take]; omega
theorem run_fine (h : netL k p n ts op) (i : Nat) : (runS ts op ss i).fine := shTo_fine (sh0_fine (net_axes h)) _
theorem RunOK.two {i : Nat} (r : RunOK k p n ts op ss i) (h : orderL k p n ts op ss) (hi : i < ss.length) :
    (tensorL k p n (runA k p n ts op ss i).l (runA k p n ts op ss i).d (runA k p n ts op ss i).x ∧ (runA k p n ts op ss i).l = (runS ts op ss i).lab (stpAt ss i).a.toNat ∧ (runA k p n ts op ss i).d = (runA k p n ts op ss i).l.map (dimOf ts)) ∧
    (tensorL k p n (runB k p n ts op ss i).l (runB k p n ts op ss i).d (runB k p n ts op ss i).x ∧ (runB k p n ts op ss i).l = (runS ts op ss i).lab (stpAt ss i).b.toNat ∧ (runB k p n ts op ss i).d = (runB k p n ts op ss i).l.map (dimOf ts)) := by
  obtain ⟨⟨⟨a0, a1, _⟩, ⟨b0, b1, _⟩, _⟩, _, hl⟩ := run_step h hi; exact ⟨r.get (by omega), r.get (by omega)⟩
theorem RunOK.kept {i : Nat} (r : RunOK k p n ts op ss i) (h : orderL k p n ts op ss) (hi : i < ss.length) : keepL (runA k p n ts op ss i) (runB k p n ts op ss i) (runK ts op ss i) = runK ts op ss i := by
  obtain ⟨⟨_, la, _⟩, ⟨_, lb, _⟩⟩ := r.two h hi; have e : runK ts op ss i = (joinI (runA k p n ts op ss i).l (runB k p n ts op ss i).l).filter fun x => @decide ((runS ts op ss i).kept op (stpAt ss i).a.toNat (stpAt ss i).b.toNat x) (Classical.propDecidable _) := by rw [la, lb]; rfl
  rw [e]; exact keepL_self
theorem RunOK.step {i : Nat} (r : RunOK k p n ts op ss i) (h : orderL k p n ts op ss) (hi : i < ss.length) (hf : runFit k p n ts op ss i) : RunOK k p n ts op ss (i + 1) := by
  obtain ⟨hst, hs1, hl⟩ := run_step h hi; obtain ⟨⟨ta, la, da⟩, ⟨tb, lb, db⟩⟩ := r.two h hi; have hk := r.kept h hi; obtain ⟨p1, p2, p3⟩ := pair_ten hf; rw [keep_map da db, hk] at p3; rw [hk] at p2; refine ⟨by rw [runTo_step, List.length_append, r.len]; simp; omega, fun j t hj => ?_⟩; rw [runTo_step] at hj
  rcases Nat.lt_or_ge j (runTo k p n ts op ss i).length with hlt | hge
  · rw [List.getElem?_append_left hlt] at hj; have := r.ten j t hj; rw [hs1, step_lab (by rw [hl, ← r.len]; exact hlt)]; exact this
  · rw [List.getElem?_append_right hge] at hj; have e0 : j - (runTo k p n ts op ss i).length = 0 := by
      rcases Nat.eq_zero_or_pos (j - (runTo k p n ts op ss i).length) with h0 | h0
      · exact h0
      · rw [List.getElem?_eq_none (by simp; omega)] at hj; cases hj
    rw [e0] at hj
    simp at hj
    subst hj; refine ⟨p1, ?_, ?_⟩
    · rw [p2, hs1, show j = (runS ts op ss i).all.length by rw [hl, ← r.len]; omega, step_lab_new]; rfl
    · rw [p2, p3]
theorem run_ok (h : orderL k p n ts op ss) : ∀ i, i ≤ ss.length → (∀ j, j < i → runFit k p n ts op ss j) → RunOK k p n ts op ss i
  | 0, _, _ => by
    refine ⟨rfl, fun j t hj => ?_⟩; have hj' : ts[j]? = some t := hj; have hm := List.mem_of_getElem? hj'; exact ⟨h.1.2.2.1 t hm, by simp [runS, shTo, Sh.lab, sh0, List.getD, hj'], net_dmap h.1 t hm⟩
  | i + 1, hi, hf => (run_ok h i (by omega) fun j hj => hf j (by omega)).step h (by omega) (hf i (by omega))
/-- The rows of m cells but those at p and q, of the first k. -/
def dropK {α : Type} (m : Nat) (cs : List α) (p q : Nat) : Nat → List α
  | 0 => []
  | k + 1 => if k ≠ p ∧ k ≠ q then dropK m cs p q k ++ (cs.drop (k * m)).take m else dropK m cs p q k
theorem dropK_yes {α : Type} {m : Nat} {cs : List α} {p q k : Nat} (h : k ≠ p ∧ k ≠ q) : dropK m cs p q (k + 1) = dropK m cs p q k ++ (cs.drop (k * m)).take m := by rw [dropK, if_pos h]
theorem dropK_no {α : Type} {m : Nat} {cs : List α} {p q k : Nat} (h : ¬ (k ≠ p ∧ k ≠ q)) : dropK m cs p q (k + 1) = dropK m cs p q k := by rw [dropK, if_neg h]
theorem one_drop {α : Type} {l : List α} {k : Nat} {x : α} (h : l[k]? = some x) : (l.drop (k * 1)).take 1 = [x] := by
  obtain ⟨hk, rfl⟩ := List.getElem?_eq_some_iff.1 h; rw [Nat.mul_one, List.drop_eq_getElem_cons hk]; rfl
theorem dropK_len {α : Type} {m : Nat} {cs : List α} {p q : Nat} : ∀ k, (dropK m cs p q k).length ≤ k * m
  | 0 => by simp [dropK]
  | k + 1 => by
    have ih := dropK_len (m := m) (cs := cs) (p := p) (q := q) k; have e : (k + 1) * m = k * m + m := by rw [Nat.add_mul, Nat.one_mul]
    by_cases h : k ≠ p ∧ k ≠ q
    · rw [dropK_yes h, List.length_append, List.length_take]; omega
    · rw [dropK_no h]; omega
noncomputable def outTo (k p n : Int) (ts : List Ten) (op : List Int) (ss : List Stp) (i : Nat) : List Ten := (runS ts op ss i).ixs.map fun j => (runTo k p n ts op ss i).getD j noTen
theorem dimOf_mem {ts : List Ten} {x : Int} (h : dimOf ts x ≠ 0) : ∃ t ∈ ts, x ∈ t.l := by
  induction ts with
  | nil => simp [dimOf] at h
  | cons t ts ih =>
    rw [dimOf] at h
    by_cases hx : x ∈ t.l
    · exact ⟨t, by simp, hx⟩
    · rw [if_neg hx] at h; obtain ⟨u, hu, hxu⟩ := ih h; exact ⟨u, by simp [hu], hxu⟩
theorem run_open (h : orderL k p n ts op ss) {x : Int} (hx : x ∈ op) : ∀ i, i ≤ ss.length → ∃ j ∈ (runS ts op ss i).ixs, x ∈ (runS ts op ss i).lab j
  | 0, _ => by
    obtain ⟨j, hj, e⟩ := getD_of_mem hx; have ho := (open_at h.1.2.2.2.2 hj).2; rw [e] at ho; obtain ⟨t, ht, hxt⟩ := dimOf_mem (ts := ts) (x := x) (by omega); obtain ⟨m, hm⟩ := List.getElem?_of_mem ht; have hml := (List.getElem?_eq_some_iff.1 hm).1; have e0 : runS ts op ss 0 = sh0 ts := rfl; refine ⟨m, by rw [e0, sh0_ixs]; simpa using hml, ?_⟩; rw [e0]
    simpa [Sh.lab, sh0, List.getD, hm] using hxt
  | i + 1, hi => by
    obtain ⟨j, hj, hxj⟩ := run_open h hx i (by omega); obtain ⟨hst, hs1, hl⟩ := run_step h (i := i) (by omega); have hok := (run_fine (ss := ss) h.1 i).1; rw [hs1]
    by_cases hc : j ≠ (stpAt ss i).a.toNat ∧ j ≠ (stpAt ss i).b.toNat
    · refine ⟨j, by rw [step_ixs hok]; simp [hj, hc], ?_⟩; rw [step_lab (mem_ixs.1 hj).1]; exact hxj
    · refine ⟨(runS ts op ss i).all.length, by rw [step_ixs hok]; simp, ?_⟩; rw [step_lab_new]; refine List.mem_filter.2 ⟨mem_joinI.2 ?_, by simpa using .inl hx⟩
      by_cases ea : j = (stpAt ss i).a.toNat
      · exact .inl (ea ▸ hxj)
      · exact .inr ((show j = (stpAt ss i).b.toNat by omega) ▸ hxj)
theorem run_left (h : orderL k p n ts op ss) (hn : ts ≠ []) : (runS ts op ss ss.length).ixs = [ts.length + ss.length - 1] := by
  have hlen : ts.length ≠ 0 := fun e => hn (List.eq_nil_of_length_eq_zero e); have hc := steps_count (op := op) (sh0_fine (net_axes h.1)) h.2.2 ss.length (Nat.le_refl _); rw [show (sh0 ts).ixs.length = ts.length by rw [sh0_ixs]; simp] at hc; have h1 : (runS ts op ss ss.length).ixs.length = 1 := by
    have := h.2.1
    show (shTo op (sh0 ts) (ss.take ss.length)).ixs.length = 1
    omega
  have hm : ts.length + ss.length - 1 ∈ (runS ts op ss ss.length).ixs := by
    rcases Nat.eq_zero_or_pos ss.length with h0 | h0
    · have e0 : runS ts op ss ss.length = sh0 ts := by rw [h0]; rfl
      rw [e0, sh0_ixs, h0]; simp; omega
    · obtain ⟨hst, hs1, hl⟩ := run_step h (i := ss.length - 1) (by omega); rw [show ss.length - 1 + 1 = ss.length by omega] at hs1; rw [hs1, step_ixs (run_fine (ss := ss) h.1 _).1, hl]
      simp; omega
  obtain ⟨y, hy⟩ := List.length_eq_one_iff.1 h1; rw [hy] at hm ⊢
  simp at hm
  rw [hm]
end
end Go.Proofs.Ythlmjnihihbckaa
namespace Go.Proofs.Ythlmjnihihbckaa
set_option maxRecDepth 100000
open Go.RowKit
theorem Made.join3 {h a b : PH} {l : List PH} (m : Made h (a :: b :: l)) : Made h [a, b, joinP l] := by
  have hs := m.sep; have hl : PLe (joinP l) h := fun k o e => by
    obtain ⟨y, hy, e'⟩ := joinP_dom e; exact m.le y (by simp [hy]) k o e'
  refine ⟨⟨fun x hx => ?_, fun x hx => ?_, fun x hx => by simp at hx, trivial⟩, fun x hx => ?_, fun k o e => ?_⟩
  · rcases List.mem_cons.1 hx with rfl | hx
    · exact hs.1 _ (by simp)
    · simp at hx; subst hx
      exact PDj.join fun y hy => hs.1 y (by simp [hy])
  · simp at hx; subst hx
    exact PDj.join fun y hy => hs.2.1 y hy
  · simp at hx
    rcases hx with rfl | rfl | rfl
    · exact m.le _ (by simp)
    · exact m.le _ (by simp)
    · exact hl
  · obtain ⟨x, hx, e'⟩ := m.dom k o e
    simp at hx
    rcases hx with rfl | rfl | hx
    · exact ⟨x, by simp, e'⟩
    · exact ⟨x, by simp, e'⟩
    · exact ⟨joinP l, by simp, PLe.join hs.2.2 x hx k o e'⟩
theorem Made.part3 {h a b c : PH} {l : List PH} (m : Made h [a, b, c]) (ml : Made c l) : Made h (a :: b :: l) := by
  have hs := m.sep; have hc : PLe c h := m.le c (by simp); refine ⟨⟨fun x hx => ?_, fun x hx => ?_, ml.sep⟩, fun x hx => ?_, fun k o e => ?_⟩
  · rcases List.mem_cons.1 hx with rfl | hx
    · exact hs.1 _ (by simp)
    · exact (((hs.1 c (by simp)).symm).mono (ml.le x hx)).symm
  · exact (((hs.2.1 c (by simp)).symm).mono (ml.le x hx)).symm
  · simp at hx
    rcases hx with rfl | rfl | hx
    · exact m.le _ (by simp)
    · exact m.le _ (by simp)
    · exact (ml.le x hx).trans hc
  · obtain ⟨x, hx, e'⟩ := m.dom k o e
    simp at hx
    rcases hx with rfl | rfl | rfl
    · exact ⟨x, by simp, e'⟩
    · exact ⟨x, by simp, e'⟩
    · obtain ⟨y, hy, e2⟩ := ml.dom k o e'; exact ⟨y, by simp [hy], e2⟩
theorem NetO.split {ts : List Ten} {op : List Int} {vt vo : Value} {h : PH} (r : NetO ts op vt vo h) : ∃ cs h0 ho hl, RowO 77 cs ts.length 3 vt h0 ∧ IntsO op vo ho ∧ OwnH (flat ts) cs hl ∧ Made h [h0, ho, hl] := by
  obtain ⟨cs, h0, ho, l, r0, r1, o, m⟩ := r; exact ⟨cs, h0, ho, joinP l, r0, r1, ⟨l, o, Made.join m.sep.2.2⟩, m.join3⟩
theorem NetO.join {ts : List Ten} {op : List Int} {vt vo : Value} {h h0 ho hl : PH} {cs : List Value} (r0 : RowO 77 cs ts.length 3 vt h0) (r1 : IntsO op vo ho) (o : OwnH (flat ts) cs hl) (m : Made h [h0, ho, hl]) : NetO ts op vt vo h := by
  obtain ⟨l, o, ml⟩ := o; exact ⟨cs, h0, ho, l, r0, r1, o, m.part3 ml⟩
theorem OwnL.take {xss : List (List Int)} {vs : List Value} {l : List PH} (o : OwnL xss vs l) (n : Nat) : OwnL (xss.take n) (vs.take n) (l.take n) := by
  refine ⟨by simp [o.l1], by simp [o.l2], fun i xs h => ?_⟩; have hi : i < n := by
    rcases Nat.lt_or_ge i n with h' | h'
    · exact h'
    · rw [List.getElem?_take, if_neg (by omega)] at h; cases h
  rw [List.getElem?_take, if_pos hi] at h ⊢; rw [List.getElem?_take, if_pos hi]; exact o.own i xs h
theorem OwnL.drop {xss : List (List Int)} {vs : List Value} {l : List PH} (o : OwnL xss vs l) (n : Nat) : OwnL (xss.drop n) (vs.drop n) (l.drop n) := by
  refine ⟨by simp [o.l1], by simp [o.l2], fun i xs h => ?_⟩; rw [List.getElem?_drop] at h ⊢; rw [List.getElem?_drop]; exact o.own (n + i) xs h
theorem flat_take {ts : List Ten} {i : Nat} (h : i ≤ ts.length) : flat (ts.take i) = (flat ts).take (i * 3) ∧ flat (ts.drop i) = (flat ts).drop (i * 3) := by
  have e : flat ts = flat (ts.take i) ++ flat (ts.drop i) := by rw [← flat_append, List.take_append_drop]
  have hl : (flat (ts.take i)).length = i * 3 := by rw [flat_len, List.length_take, Nat.min_eq_left h]
  constructor
  · rw [e, List.take_left' hl]
  · rw [e, List.drop_left' hl]
theorem flat_set {ts : List Ten} {i : Nat} (h : i < ts.length) (u : Ten) : flat (ts.set i u) = (flat ts).take (i * 3) ++ [u.l, u.d, u.x] ++ (flat ts).drop (i * 3 + 3) := by
  rw [List.set_eq_take_append_cons_drop, if_pos h, flat_append, (flat_take (Nat.le_of_lt h)).1, show i * 3 + 3 = (i + 1) * 3 by omega, ← (flat_take (show i + 1 ≤ ts.length by omega)).2, List.append_assoc]
  rfl
theorem sep_mono {l l' : List PH} (h : sepL l) (hs : l'.Sublist l) : sepL l' := by
  induction hs with
  | slnil => exact trivial
  | cons x _ ih => exact ih h.2
  | cons_cons x s ih => exact ⟨fun y hy => h.1 y (s.subset hy), ih h.2⟩
theorem OwnH.set {ts : List Ten} {u : Ten} {cs : List Value} {a b c : Value} {h h' : PH} {i : Nat} (hi : i < ts.length) (o : OwnH (flat ts) cs h) (r : TriO u a b c h') (hd : PDj h h') :
    ∃ g, PLe g (PUn h h') ∧ OwnH (flat (ts.set i u)) (cs.take (i * 3) ++ [a, b, c] ++ cs.drop (i * 3 + 3)) g := by
  obtain ⟨l, ol, m⟩ := o; obtain ⟨h1, h2, h3, r1, r2, r3, m'⟩ := r; have hx : ∀ x ∈ l.take (i * 3) ++ [h1, h2, h3] ++ l.drop (i * 3 + 3), PLe x (PUn h h') := fun x hx => by
    simp only [List.mem_append] at hx
    rcases hx with (hx | hx) | hx
    · exact (m.le x (List.mem_of_mem_take hx)).trans (PLe.un_l _ _)
    · exact (m'.le x hx).trans (PLe.un_r hd)
    · exact (m.le x (List.mem_of_mem_drop hx)).trans (PLe.un_l _ _)
  have hab : ∀ x ∈ l, ∀ y ∈ [h1, h2, h3], PDj x y := fun x hx y hy => (((hd.mono (m.le x hx)).symm).mono (m'.le y hy)).symm; have hsub : (l.take (i * 3) ++ l.drop (i * 3 + 3)).Sublist l := by
    conv => rhs; rw [← List.take_append_drop (i * 3) l]
    refine List.Sublist.append (List.Sublist.refl _) ?_; rw [← List.drop_drop]; exact List.drop_sublist _ _
  have hsep := sepL_append.1 (sep_mono m.sep hsub); have hs : sepL (l.take (i * 3) ++ [h1, h2, h3] ++ l.drop (i * 3 + 3)) := by
    refine sepL_append.2 ⟨sepL_append.2 ⟨hsep.1, m'.sep, fun x hx y hy => hab x (List.mem_of_mem_take hx) y hy⟩, hsep.2.1, fun x hx y hy => ?_⟩
    rcases List.mem_append.1 hx with hx | hx
    · exact hsep.2.2 x hx y hy
    · exact (hab y (List.mem_of_mem_drop hy) x hx).symm
  refine ⟨joinP (l.take (i * 3) ++ [h1, h2, h3] ++ l.drop (i * 3 + 3)), fun k o e => ?_, _, ?_, Made.join hs⟩
  · obtain ⟨y, hy, e'⟩ := joinP_dom e; exact hx y hy k o e'
  · rw [flat_set hi]; exact ((ol.take _).append (OwnL.three r1 r2 r3)).append (ol.drop _)
def replP (k p n : Int) (ts : List Ten) (op : List Int) (i : Int) (u : Ten) : Prop := netL k p n ts op ∧ (0 ≤ i ∧ i < ts.length) ∧ fitP k p n (ts.getD i.toNat ⟨[], [], []⟩) u
open Classical in
noncomputable def replB (k p n : Int) (ts : List Ten) (op : List Int) (i : Int) (u : Ten) : Bool := decide (replP k p n ts op i u)
noncomputable def ifB {α : Type} (b : Bool) (x y : α) : α := if b then x else y
noncomputable def replTs (k p n : Int) (ts : List Ten) (op : List Int) (i : Int) (u : Ten) : List Ten := ifB (replB k p n ts op i u) (ts.set i.toNat u) []
noncomputable def replOp (k p n : Int) (ts : List Ten) (op : List Int) (i : Int) (u : Ten) : List Int := ifB (replB k p n ts op i u) op []
def ReplR (k p n : Int) (ts : List Ten) (op : List Int) (i : Int) (u : Ten) (x : Value) (h : PH) : Prop :=
  ∃ vt vo, x = .tuple [netV (ifB (replB k p n ts op i u) k 0) (ifB (replB k p n ts op i u) p 0) (ifB (replB k p n ts op i u) n 0) vt vo, .bool (replB k p n ts op i u)].toArray ∧ NetO (replTs k p n ts op i u) (replOp k p n ts op i u) vt vo h
theorem NetO.nil : NetO [] [] (.slice none 0 0) (.slice none 0 0) emp :=
  ⟨[], emp, emp, [], RowO.nil, IntsO.nil, OwnL.nil, ⟨by simp [sepL, PDj.emp], fun x hx => by simp at hx; subst hx; exact PLe.emp _, fun k o e => by cases e⟩⟩
theorem ReplR.no {k p n i : Int} {ts : List Ten} {op : List Int} {u : Ten} (h : ¬ replP k p n ts op i u) : ReplR k p n ts op i u (.tuple [netV 0 0 0 (.slice none 0 0) (.slice none 0 0), .bool false].toArray) emp := by
  have e : replB k p n ts op i u = false := by simp [replB, h]
  refine ⟨.slice none 0 0, .slice none 0 0, ?_, ?_⟩
  · rw [e]; rfl
  · rw [replTs, replOp, e]; exact NetO.nil
theorem ReplR.yes {k p n i : Int} {ts : List Ten} {op : List Int} {u : Ten} {vt vo : Value} {g : PH} (h : replP k p n ts op i u) (r : NetO (ts.set i.toNat u) op vt vo g) : ReplR k p n ts op i u (.tuple [netV k p n vt vo, .bool true].toArray) g := by
  have e : replB k p n ts op i u = true := by simp [replB, h]
  refine ⟨vt, vo, ?_, ?_⟩
  · rw [e]; rfl
  · rw [replTs, replOp, e]; exact r
end Go.Proofs.Ythlmjnihihbckaa
namespace Go.Proofs.Ythlmjnihihbckaa
set_option maxRecDepth 100000
open Go.RowKit
theorem OwnL.piece {ts : List Ten} {vs : List Value} {l : List PH} (o : OwnL (flat ts) vs l) {k : Nat} {t : Ten} (h : ts[k]? = some t) : OwnL (flat [t]) ((vs.drop (k * 3)).take 3) ((l.drop (k * 3)).take 3) := by
  have hk := (List.getElem?_eq_some_iff.1 h).1; have e : ((flat ts).drop (k * 3)).take 3 = flat [t] := by
    rw [← (flat_take (Nat.le_of_lt hk)).2, drop_at h]; rfl
  have := (o.drop (k * 3)).take 3
  rwa [e] at this
theorem OwnL.dropK {ts : List Ten} {vs : List Value} {l : List PH} (o : OwnL (flat ts) vs l) (p q : Nat) : ∀ k, k ≤ ts.length → OwnL (flat (dropK 1 ts p q k)) (dropK 3 vs p q k) (dropK 3 l p q k)
  | 0, _ => OwnL.nil
  | k + 1, hk => by
    have ih := OwnL.dropK o p q k (by omega); have ht : ts[k]? = some ts[k] := List.getElem?_eq_getElem (by omega)
    by_cases h : k ≠ p ∧ k ≠ q
    · rw [dropK_yes h, dropK_yes h, dropK_yes h, one_drop ht, flat_append]; exact ih.append (o.piece ht)
    · rw [dropK_no h, dropK_no h, dropK_no h]; exact ih
theorem dropK_sub {α : Type} (m : Nat) (l : List α) (p q : Nat) : ∀ k, (dropK m l p q k).Sublist (l.take (k * m))
  | 0 => by simp [dropK]
  | k + 1 => by
    have ih := dropK_sub m l p q k; have e : l.take ((k + 1) * m) = l.take (k * m) ++ (l.drop (k * m)).take m := by rw [Nat.add_mul, Nat.one_mul, List.take_add]
    rw [e]
    by_cases h : k ≠ p ∧ k ≠ q
    · rw [dropK_yes h]; exact ih.append (List.Sublist.refl _)
    · rw [dropK_no h]; exact ih.trans (List.sublist_append_left _ _)
theorem OwnH.dropK {ts : List Ten} {cs : List Value} {h : PH} (o : OwnH (flat ts) cs h) (p q : Nat) : ∃ g, PLe g h ∧ OwnH (flat (dropK 1 ts p q ts.length)) (dropK 3 cs p q ts.length) g := by
  obtain ⟨l, ol, m⟩ := o; have hs := (dropK_sub 3 l p q ts.length).trans (List.take_sublist _ _); have hsep := sep_mono m.sep hs; refine ⟨joinP (Go.Proofs.Ythlmjnihihbckaa.dropK 3 l p q ts.length), fun k o e => ?_, _, ol.dropK p q _ (Nat.le_refl _), Made.join hsep⟩; obtain ⟨y, hy, e'⟩ := joinP_dom e; exact m.le y (hs.subset hy) k o e'
theorem perm_all {k p n : Int} {t : Ten} {ls : List Int} (h : PermOK k p n t ls) : ∀ m : Nat, ((permX (widthI k n) t ls (permD t ls) m).length : Int) = m * widthI k n ∧ ∀ a ∈ permX (widthI k n) t ls (permD t ls) m, 0 ≤ a ∧ a ≤ topI k p n
  | 0 => by simp [permX]
  | m + 1 => by
    have ih := perm_all h m; have ho := h.off m; have he := elt_inR h.ten ho.1 ho.2; have hw := width_range h.ring; rw [permX_step]; refine ⟨?_, fun a ha => ?_⟩
    · rw [List.length_append, he.1, Int.natCast_add, ih.1, show ((m + 1 : Nat) : Int) = (m : Int) + 1 from rfl, Int.add_mul, Int.one_mul]; omega
    · rcases List.mem_append.1 ha with ha | ha
      · exact ih.2 a ha
      · exact he.2 a ha
theorem perm_axes {k p n : Int} {t : Ten} {ls : List Int} (h : PermOK k p n t ls) : axesL ls (permD t ls) := by
  refine ⟨h.len.2.2, (permD_len t ls).symm, fun j hj => ⟨?_, h.dims j (by rw [permD_len]; exact hj), nodup_not_take h.nodup hj⟩⟩; obtain ⟨i, hi, e⟩ := getD_of_mem (h.perm.mem_iff.1 (mem_getD hj)); rw [← e]; exact (h.axes.2.2 i hi).1
theorem perm_ten {k p n : Int} {t : Ten} {ls : List Int} (h : PermOK k p n t ls) : tensorL k p n (permT k n t ls).l (permT k n t ls).d (permT k n t ls).x := by
  have hs := h.small; have ha := perm_axes h; have hx := perm_all h (prodI (permD t ls)).toNat; refine ⟨h.ring, sizeI_ge.2 ⟨ha, hs.2⟩, ?_, hx.2⟩
  show ((permX (widthI k n) t ls (permD t ls) (prodI (permD t ls)).toNat).length : Int) = sizeI ls (permD t ls) * widthI k n
  rw [sizeI_yes ha hs.2, hx.1, show (((prodI (permD t ls)).toNat : Nat) : Int) = prodI (permD t ls) by omega]
theorem net_open {k p n : Int} {ts : List Ten} {op : List Int} (h : netL k p n ts op) : op.Nodup ∧ op.length ≤ 12 := by
  have ha := (sizeI_ge.1 h.2.2.2.2).1; exact ⟨axes_nodup ha, ha.1⟩
theorem mem_keep {t u : Ten} {ks : List Int} {x : Int} : x ∈ keepL t u ks ↔ (x ∈ t.l ∨ x ∈ u.l) ∧ x ∈ ks := by
  unfold keepL
  rw [List.mem_filter, mem_joinI, decide_eq_true_eq]
theorem sum_ten {k p n : Int} {t : Ten} (ht : tensorL k p n t.l t.d t.x) (ks : List Int) : tensorL k p n (sumR k p n t ks).l (sumR k p n t ks).d (sumR k p n t ks).x ∧ (sumR k p n t ks).l = keepL t (oneT k p n) ks ∧ (sumR k p n t ks).d = (keepL t (oneT k p n) ks).map (dimJ t (oneT k p n)) := by
  have := pair_ten (sum_pair ht ks)
  rwa [sumR_pair ht] at this
theorem fin_perm {k p n : Int} {t : Ten} {op : List Int} (ht : tensorL k p n t.l t.d t.x) (hn : op.Nodup) (hs : ∀ x ∈ op, x ∈ t.l) : PermOK k p n (sumR k p n t op) op := by
  obtain ⟨h1, h2, _⟩ := sum_ten ht op; have hk : ∀ x, x ∈ (sumR k p n t op).l ↔ x ∈ op := fun x => by
    rw [h2, mem_keep]; exact ⟨fun h => h.2, fun h => ⟨.inl (hs x h), h⟩⟩
  exact ⟨ht.1, h1, perm_of hn (fun x hx => (hk x).2 hx) (pigeon (axes_nodup (ten_axes h1)) fun x hx => (hk x).1 hx)⟩
noncomputable def finT (k p n : Int) (t : Ten) (op : List Int) : Ten := permT k n (sumR k p n t op) op
def finP (k p n : Int) (ts : List Ten) (op : List Int) (t : Ten) : Prop := netL k p n ts op ∧ tensorL k p n t.l t.d t.x ∧ ∀ x ∈ op, x ∈ t.l
theorem finP.perm {k p n : Int} {ts : List Ten} {op : List Int} {t : Ten} (h : finP k p n ts op t) : PermOK k p n (sumR k p n t op) op := fin_perm h.2.1 (net_open h.1).1 h.2.2
def conP (k p n : Int) (ts : List Ten) (op : List Int) (ss : List Stp) : Prop := orderL k p n ts op ss ∧ ∀ j, j < ss.length → runFit k p n ts op ss j
noncomputable def lastT (k p n : Int) (ts : List Ten) (op : List Int) (ss : List Stp) : Ten := (runTo k p n ts op ss ss.length).getD (ts.length + ss.length - 1) noTen
noncomputable def conT (k p n : Int) (ts : List Ten) (op : List Int) (ss : List Stp) : Ten := if ts.length = 0 then oneT k p n else finT k p n (lastT k p n ts op ss) op
section
variable {k p n : Int} {ts : List Ten} {op : List Int} {ss : List Stp}
theorem conP.last (h : conP k p n ts op ss) (hn : ts.length ≠ 0) : finP k p n ts op (lastT k p n ts op ss) ∧ outTo k p n ts op ss ss.length = [lastT k p n ts op ss] := by
  have r := run_ok h.1 ss.length (Nat.le_refl _) h.2; have hl := run_left h.1 (fun e => hn (by rw [e]; rfl)); have hg := r.get (j := ts.length + ss.length - 1) (by omega); refine ⟨⟨h.1.1, hg.1, fun x hx => ?_⟩, by rw [outTo, hl]; rfl⟩; obtain ⟨j, hj, hxj⟩ := run_open h.1 hx ss.length (Nat.le_refl _); rw [hl] at hj
  simp at hj
  show x ∈ ((runTo k p n ts op ss ss.length).getD (ts.length + ss.length - 1) noTen).l
  rw [hg.2.1, ← hj]; exact hxj
theorem conP.empty (h : conP k p n ts op ss) (hn : ts.length = 0) : op = [] := by
  refine List.eq_nil_iff_forall_not_mem.2 fun x hx => ?_; obtain ⟨j, hj, e⟩ := getD_of_mem hx; have ho := (open_at h.1.1.2.2.2.2 hj).2; have e0 : ts = [] := List.eq_nil_of_length_eq_zero hn; rw [e0] at ho
  simp [dimOf] at ho
theorem conP.ten (h : conP k p n ts op ss) : tensorL k p n (conT k p n ts op ss).l (conT k p n ts op ss).d (conT k p n ts op ss).x ∧ (conT k p n ts op ss).l = op := by
  unfold conT
  by_cases hn : ts.length = 0
  · rw [if_pos hn]; exact ⟨one_ten h.1.1.1, (h.empty hn).symm⟩
  · rw [if_neg hn]; exact ⟨perm_ten (h.last hn).1.perm, rfl⟩
end
end Go.Proofs.Ythlmjnihihbckaa
namespace Go.Proofs.Ythlmjnihihbckaa
set_option maxRecDepth 100000
open Go.RowKit
theorem one_drop_none {α : Type} {l : List α} {k : Nat} (h : l[k]? = none) : (l.drop (k * 1)).take 1 = [] := by
  rw [Nat.mul_one, List.drop_of_length_le (List.getElem?_eq_none_iff.1 h)]; rfl
theorem mem_dropK {α : Type} {l : List α} {p q : Nat} {t : α} : ∀ k, t ∈ dropK 1 l p q k ↔ ∃ m, m < k ∧ m ≠ p ∧ m ≠ q ∧ l[m]? = some t
  | 0 => by simp [dropK]
  | k + 1 => by
    have ih := mem_dropK (l := l) (p := p) (q := q) (t := t) k; have hx : t ∈ (l.drop (k * 1)).take 1 ↔ l[k]? = some t := by
      cases h : l[k]? with
      | none => rw [one_drop_none h]; simp
      | some x => rw [one_drop h]; simp [eq_comm]
    by_cases hc : k ≠ p ∧ k ≠ q
    · rw [dropK_yes hc, List.mem_append, ih, hx]
      constructor
      · rintro (⟨m, h1, h2⟩ | h)
        · exact ⟨m, by omega, h2⟩
        · exact ⟨k, by omega, hc.1, hc.2, h⟩
      · rintro ⟨m, h1, h2, h3, h4⟩
        by_cases e : m = k
        · subst e; exact .inr h4
        · exact .inl ⟨m, by omega, h2, h3, h4⟩
    · rw [dropK_no hc, ih]
      constructor
      · rintro ⟨m, h1, h2⟩; exact ⟨m, by omega, h2⟩
      · rintro ⟨m, h1, h2, h3, h4⟩; have : m ≠ k := fun e => hc (e ▸ ⟨h2, h3⟩); exact ⟨m, by omega, h2, h3, h4⟩
def needS (ts : List Ten) (op : List Int) (i j m : Nat) : List Int := op ++ (dropK 1 ts i j m).flatMap (·.l)
theorem mem_needS {ts : List Ten} {op : List Int} {i j m : Nat} {x : Int} : x ∈ needS ts op i j m ↔ x ∈ op ∨ ∃ t ∈ dropK 1 ts i j m, x ∈ t.l := by
  simp [needS, List.mem_append, List.mem_flatMap]
section
variable {ts : List Ten} {op : List Int} {i j k : Nat} {t : Ten}
end
theorem dimOf_map {us : List Ten} {f : Int → Int} {x : Int} (h : ∀ t ∈ us, t.d = t.l.map f) (hx : ∃ t ∈ us, x ∈ t.l) : dimOf us x = f x := by
  induction us with
  | nil => obtain ⟨t, ht, _⟩ := hx; simp at ht
  | cons t us ih =>
    rw [dimOf]
    by_cases hm : x ∈ t.l
    · rw [if_pos hm, h t (by simp), map_getD (findI_get hm).1, (findI_get hm).2]
    · rw [if_neg hm]; refine ih (fun u hu => h u (by simp [hu])) ?_; obtain ⟨u, hu, hxu⟩ := hx
      rcases List.mem_cons.1 hu with rfl | hu
      · exact absurd hxu hm
      · exact ⟨u, hu, hxu⟩
theorem dimOf_none {us : List Ten} {x : Int} (hx : ¬ ∃ t ∈ us, x ∈ t.l) : dimOf us x = 0 := Classical.byContradiction fun h => hx (dimOf_mem h)
theorem cons_of_map {us : List Ten} {f : Int → Int} (h : ∀ t ∈ us, t.d = t.l.map f) : consL us := fun i _ t ht j hj t' ht' => by
  rw [ht] at ht'
  cases ht'
  by_cases hx : ∃ u ∈ us.take i, t.l.getD j 0 ∈ u.l
  · right
    rw [dimOf_map (fun u hu => h u (List.mem_of_mem_take hu)) hx, h t (List.mem_of_getElem? ht), map_getD hj]
  · exact .inl (dimOf_none hx)
theorem net_of {k p n : Int} {ts us : List Ten} {op : List Int} (h : netL k p n ts op) (hl : us.length ≤ 12) (ht : ∀ t ∈ us, tensorL k p n t.l t.d t.x) (hd : ∀ t ∈ us, t.d = t.l.map (dimOf ts)) (ho : ∀ x ∈ op, ∃ t ∈ us, x ∈ t.l) : netL k p n us op := by
  refine ⟨h.1, hl, ht, cons_of_map hd, ?_⟩; have e : dimsFor us op = dimsFor ts op := List.map_congr_left fun x hx => dimOf_map hd (ho x hx); rw [e]; exact h.2.2.2.2
theorem net_has {k p n : Int} {ts : List Ten} {op : List Int} (h : netL k p n ts op) {x : Int} (hx : x ∈ op) : ∃ t ∈ ts, x ∈ t.l := by
  obtain ⟨j, hj, e⟩ := getD_of_mem hx; have ho := (open_at h.2.2.2.2 hj).2; rw [e] at ho; exact dimOf_mem (by omega)
def mgLo (i j : Int) : Nat := (min i j).toNat
def mgHi (i j : Int) : Nat := (max i j).toNat
def mgA (ts : List Ten) (i j : Int) : Ten := ts.getD (mgLo i j) noTen
def mgB (ts : List Ten) (i j : Int) : Ten := ts.getD (mgHi i j) noTen
def mergN (ts : List Ten) (op : List Int) (i j : Int) : List Int := needS ts op i.toNat j.toNat ts.length
def mergP (k p n : Int) (ts : List Ten) (op : List Int) (i j : Int) : Prop := netL k p n ts op ∧ (0 ≤ i ∧ i < ts.length) ∧ (0 ≤ j ∧ j < ts.length) ∧ i ≠ j ∧ pairP k p n (mgA ts i j) (mgB ts i j) (mergN ts op i j)
noncomputable def mergT (k p n : Int) (ts : List Ten) (op : List Int) (i j : Int) : Ten := pairR k p n (mgA ts i j) (mgB ts i j) (mergN ts op i j)
noncomputable def mergL (k p n : Int) (ts : List Ten) (op : List Int) (i j : Int) (m : Nat) : List Ten := dropK 1 (ts.set (mgLo i j) (mergT k p n ts op i j)) (mgHi i j) (mgHi i j) m
section
variable {k p n : Int} {ts : List Ten} {op : List Int} {i j : Int}
theorem merg_hi {m : Nat} (h : (m : Int) = max i j) : mergL k p n ts op i j (m + 1) = mergL k p n ts op i j m := by
  have e : m = mgHi i j := by unfold mgHi; omega
  unfold mergL
  rw [dropK_no (by omega)]
theorem merg_len (m : Nat) : (mergL k p n ts op i j m).length ≤ m := by
  have := dropK_len (m := 1) (cs := ts.set (mgLo i j) (mergT k p n ts op i j)) (p := mgHi i j) (q := mgHi i j) m
  unfold mergL; omega
theorem mergP.mem (h : mergP k p n ts op i j) {t : Ten} : t ∈ mergL k p n ts op i j ts.length ↔ t = mergT k p n ts op i j ∨ ∃ m, m < ts.length ∧ m ≠ mgLo i j ∧ m ≠ mgHi i j ∧ ts[m]? = some t := by
  obtain ⟨_, hi, hj, hne, _⟩ := h; have e : mgLo i j ≠ mgHi i j := by unfold mgLo mgHi; omega
  have e2 : mgLo i j < ts.length := by unfold mgLo; omega
  rw [mergL, mem_dropK]
  constructor
  · rintro ⟨m, h1, h2, _, h4⟩
    by_cases c : mgLo i j = m
    · subst c; rw [List.getElem?_set_self h1] at h4
      cases h4; exact .inl rfl
    · rw [List.getElem?_set_ne c] at h4; exact .inr ⟨m, h1, Ne.symm c, h2, h4⟩
  · rintro (rfl | ⟨m, h1, h2, h3, h4⟩)
    · exact ⟨mgLo i j, e2, e, e, List.getElem?_set_self e2⟩
    · exact ⟨m, h1, h3, h3, by rw [List.getElem?_set_ne (Ne.symm h2)]; exact h4⟩
theorem mergP.ab (h : mergP k p n ts op i j) : ts[mgLo i j]? = some (mgA ts i j) ∧ ts[mgHi i j]? = some (mgB ts i j) := by
  obtain ⟨_, hi, hj, hne, _⟩ := h; have e1 : mgLo i j < ts.length := by unfold mgLo; omega
  have e2 : mgHi i j < ts.length := by unfold mgHi; omega
  exact ⟨by simp [mgA, List.getD, e1], by simp [mgB, List.getD, e2]⟩
theorem mergP.net (h : mergP k p n ts op i j) : netL k p n (mergL k p n ts op i j ts.length) op := by
  have hn := h.1; have hd := net_dmap hn; obtain ⟨ea, eb⟩ := h.ab; have hma := List.mem_of_getElem? ea; have hmb := List.mem_of_getElem? eb; have pt := pair_ten h.2.2.2.2; refine net_of hn (Nat.le_trans (merg_len _) hn.2.1) (fun t ht => ?_) (fun t ht => ?_) (fun x hx => ?_)
  · rcases h.mem.1 ht with rfl | ⟨m, _, _, _, hm⟩
    · exact pt.1
    · exact hn.2.2.1 t (List.mem_of_getElem? hm)
  · rcases h.mem.1 ht with rfl | ⟨m, _, _, _, hm⟩
    · show (mergT k p n ts op i j).d = (mergT k p n ts op i j).l.map (dimOf ts)
      rw [mergT, pt.2.2, pt.2.1, keep_map (hd _ hma) (hd _ hmb)]
    · exact hd t (List.mem_of_getElem? hm)
  · obtain ⟨t, ht, hxt⟩ := net_has hn hx; obtain ⟨m, hm⟩ := List.getElem?_of_mem ht
    by_cases c : m ≠ mgLo i j ∧ m ≠ mgHi i j
    · exact ⟨t, h.mem.2 (.inr ⟨m, (List.getElem?_eq_some_iff.1 hm).1, c.1, c.2, hm⟩), hxt⟩
    · refine ⟨_, h.mem.2 (.inl rfl), ?_⟩; rw [mergT, pt.2.1, mem_keep]; refine ⟨?_, mem_needS.2 (.inl hx)⟩
      by_cases c1 : m = mgLo i j
      · subst c1; rw [ea] at hm; cases hm; exact .inl hxt
      · have c2 : m = mgHi i j := by omega
        subst c2; rw [eb] at hm; cases hm; exact .inr hxt
theorem mergP.less (h : mergP k p n ts op i j) : (mergL k p n ts op i j ts.length).length + 1 ≤ ts.length := by
  obtain ⟨_, hi, hj, hne, _⟩ := h; have e : mgHi i j < ts.length := by unfold mgHi; omega
  have hs : ∀ (c m : Nat), mgHi i j < m → m = mgHi i j + 1 + c → (mergL k p n ts op i j m).length + 1 ≤ m := by
    intro c
    induction c with
    | zero =>
      intro m hm e; have := merg_len (k := k) (p := p) (n := n) (ts := ts) (op := op) (i := i) (j := j) (mgHi i j); rw [show m = mgHi i j + 1 by omega, merg_hi (by unfold mgHi; omega)]
      omega
    | succ c ih =>
      intro m hm e; have ih := ih (mgHi i j + 1 + c) (by omega) rfl; have e3 : mgHi i j + 1 + c ≠ mgHi i j := by omega
      rw [show m = (mgHi i j + 1 + c) + 1 by omega, mergL, dropK_yes ⟨e3, e3⟩, List.length_append, List.length_take]
      unfold mergL at ih
      omega
  exact hs (ts.length - (mgHi i j + 1)) ts.length e (by omega)
end
end Go.Proofs.Ythlmjnihihbckaa
namespace Go.Proofs.Ythlmjnihihbckaa
set_option maxRecDepth 100000
open Go.RowKit
theorem prod_erase : ∀ {ds : List Int} {j : Nat}, j < ds.length → prodI (ds.eraseIdx j) * ds.getD j 0 = prodI ds
  | [], j, h => by simp at h
  | d :: ds, 0, _ => by rw [List.eraseIdx_zero, List.tail_cons, prodI_cons, Int.mul_comm]; rfl
  | d :: ds, j + 1, h => by
    have ih := prod_erase (ds := ds) (j := j) (by simpa using h); rw [List.eraseIdx_cons_succ, prodI_cons, prodI_cons, List.getD_cons_succ, Int.mul_assoc, ih]
def slJ (t : Ten) (x : Int) : Nat := (findI t.l x).toNat
def slX (wd : Int) (t : Ten) (j : Nat) (v : Int) (m : Nat) : List Int := (slTo t.d j v m).flatMap fun (n : Nat) => elt t.x wd n
noncomputable def slT (k n : Int) (t : Ten) (x v : Int) : Ten := ⟨t.l.eraseIdx (slJ t x), t.d.eraseIdx (slJ t x), slX (widthI k n) t (slJ t x) v (prodI t.d).toNat⟩
/-- The numbers as the program meets them. -/
def slY (wd : Int) (t : Ten) (j : Nat) (v : Int) (m : Nat) : List Int := ((List.range m).map (slAt t.d j v)).flatMap fun (n : Nat) => elt t.x wd n
theorem slY_step {wd : Int} {t : Ten} {j m : Nat} {v : Int} : slY wd t j v (m + 1) = slY wd t j v m ++ elt t.x wd (slAt t.d j v m) := by
  unfold slY
  rw [List.range_succ, List.map_append, List.flatMap_append]
  simp
structure SlOK (k p n : Int) (t : Ten) (x v : Int) : Prop where
  ten : tensorL k p n t.l t.d t.x
  mem : x ∈ t.l
  val : 0 ≤ v ∧ v < t.d.getD (slJ t x) 0
section
variable {k p n : Int} {t : Ten} {x v : Int}
theorem sl_j (h : tensorL k p n t.l t.d t.x) (hx : x ∈ t.l) : slJ t x < t.l.length ∧ slJ t x < t.d.length ∧ t.l.getD (slJ t x) 0 = x := by
  have hg := findI_get hx; have ha := ten_axes h; exact ⟨hg.1, by rw [← ha.2.1]; exact hg.1, hg.2⟩
theorem SlOK.eq (h : SlOK k p n t x v) : slX (widthI k n) t (slJ t x) v (prodI t.d).toNat = slY (widthI k n) t (slJ t x) v (prodI (t.d.eraseIdx (slJ t x))).toNat := by
  have hj := sl_j h.ten h.mem
  unfold slX slY
  rw [sl_eq (fun d hd => (dims_mem (axes_dims (ten_axes h.ten)) d hd).1) hj.2.1 h.val]
theorem SlOK.at_ (h : SlOK k p n t x v) (m : Nat) : slAt t.d (slJ t x) v m < (prodI t.d).toNat ∧ ((slAt t.d (slJ t x) v m : Nat) : Int) = v * strOf t.l t.d x + dotL (stepsL (t.l.eraseIdx (slJ t x)) t.l t.d) (idxL (t.d.eraseIdx (slJ t x)) m) := by
  have hj := sl_j h.ten h.mem; have ha := ten_axes h.ten; have hd : ∀ d ∈ t.d, 1 ≤ d := fun d hd => (dims_mem (axes_dims ha) d hd).1; have hin := sl_in hd hj.2.1 h.val m; have hs := sl_dot (ls := t.l) (ds := t.d) (is := idxL (t.d.eraseIdx (slJ t x)) m) (j := slJ t x) v (axes_nodup ha) ha.2.1 hj.1 (by rw [idxL_len, List.length_eraseIdx_of_lt hj.2.1]; have := hj.2.1; have := ha.2.1; omega); rw [hj.2.2] at hs
  unfold slAt
  omega
theorem SlOK.dims (h : SlOK k p n t x v) : dimsIn (t.d.eraseIdx (slJ t x)) ∧ 1 ≤ prodI (t.d.eraseIdx (slJ t x)) ∧ prodI (t.d.eraseIdx (slJ t x)) ≤ 4096 := by
  have hj := sl_j h.ten h.mem; have ha := ten_axes h.ten; have hm := erase_mem (j := slJ t x) (dims_mem (axes_dims ha)); have hp1 := prodI_one fun d hd => (hm d hd).1; have hpe := prod_erase hj.2.1; have hd := axes_dims ha (slJ t x) hj.2.1; have hp := ten_prod h.ten; have h1 : prodI (t.d.eraseIdx (slJ t x)) * 1 ≤ prodI (t.d.eraseIdx (slJ t x)) * t.d.getD (slJ t x) 0 := Int.mul_le_mul_of_nonneg_left hd.1 (by omega); exact ⟨fun j hj => hm _ (mem_getD hj), hp1, by omega⟩
theorem SlOK.el (h : SlOK k p n t x v) (m : Nat) : InR k p n (elt t.x (widthI k n) (slAt t.d (slJ t x) v m)) := by
  have := (h.at_ m).1; exact elt_inR h.ten (by omega) (by omega)
theorem SlOK.all (h : SlOK k p n t x v) : ∀ m : Nat, ((slY (widthI k n) t (slJ t x) v m).length : Int) = m * widthI k n ∧ ∀ a ∈ slY (widthI k n) t (slJ t x) v m, 0 ≤ a ∧ a ≤ topI k p n
  | 0 => by simp [slY]
  | m + 1 => by
    have ih := SlOK.all h m; have he := h.el m; have hw := width_range h.ten.1; rw [slY_step]; refine ⟨?_, fun a ha => ?_⟩
    · rw [List.length_append, he.1, Int.natCast_add, ih.1, show ((m + 1 : Nat) : Int) = (m : Int) + 1 from rfl, Int.add_mul, Int.one_mul]; omega
    · rcases List.mem_append.1 ha with ha | ha
      · exact ih.2 a ha
      · exact he.2 a ha
theorem SlOK.axes (h : SlOK k p n t x v) : axesL (t.l.eraseIdx (slJ t x)) (t.d.eraseIdx (slJ t x)) := by
  have hj := sl_j h.ten h.mem; have ha := ten_axes h.ten; have hl := List.length_eraseIdx_of_lt hj.1; have hl2 := List.length_eraseIdx_of_lt hj.2.1; have hn : (t.l.eraseIdx (slJ t x)).Nodup := (axes_nodup ha).sublist (List.eraseIdx_sublist _ _); refine ⟨by rw [hl]; have := ha.1; omega, by rw [hl, hl2, ha.2.1], fun i hi => ⟨?_, h.dims.1 i (by rw [hl] at hi; rw [hl2]; have := ha.2.1; omega), nodup_not_take hn hi⟩⟩; obtain ⟨q, hq, e⟩ := getD_of_mem (List.mem_of_mem_eraseIdx (mem_getD hi)); rw [← e]; exact (ha.2.2 q hq).1
theorem SlOK.out (h : SlOK k p n t x v) : tensorL k p n (slT k n t x v).l (slT k n t x v).d (slT k n t x v).x := by
  have hd := h.dims; have ha := h.axes; have hx := h.all (prodI (t.d.eraseIdx (slJ t x))).toNat; refine ⟨h.ten.1, sizeI_ge.2 ⟨ha, hd.2.2⟩, ?_, fun a hm => ?_⟩
  · show ((slX (widthI k n) t (slJ t x) v (prodI t.d).toNat).length : Int) = sizeI (t.l.eraseIdx (slJ t x)) (t.d.eraseIdx (slJ t x)) * widthI k n
    rw [h.eq, sizeI_yes ha hd.2.2, hx.1, show (((prodI (t.d.eraseIdx (slJ t x))).toNat : Nat) : Int) = prodI (t.d.eraseIdx (slJ t x)) by omega]
  · have hm' : a ∈ slX (widthI k n) t (slJ t x) v (prodI t.d).toNat := hm; rw [h.eq] at hm'; exact hx.2 a hm'
end
end Go.Proofs.Ythlmjnihihbckaa
namespace Go.Proofs.Ythlmjnihihbckaa
set_option maxRecDepth 100000
open Go.RowKit
section
variable (m : Int) (ss : List Stp) (C : List Int) (W : Int)
def done (S : List Int) : Prop := ∀ i, i < S.length → 0 ≤ S.getD i 0
end
section
variable {m : Int} {ss : List Stp} {C : List Int} {W : Int} {S : List Int} {T : Int}
end
end Go.Proofs.Ythlmjnihihbckaa
namespace Go.Proofs.Ythlmjnihihbckaa
set_option maxRecDepth 100000
open Go.RowKit
def plainAt (m k : Nat) : Stp := if k = 0 then ⟨0, 1⟩ else ⟨(k : Int) + 1, (m : Int) + k - 1⟩
def plainTo (m j : Nat) : List Stp := (List.range j).map (plainAt m)
def plainL (m : Nat) : List Stp := plainTo m (m - 1)
def totP (k p n : Int) (ts : List Ten) (op : List Int) : Prop := netL k p n ts op ∧ conP k p n ts [] (plainL ts.length)
open Classical in
noncomputable def totB (k p n : Int) (ts : List Ten) (op : List Int) : Bool := decide (totP k p n ts op)
noncomputable def totX (k p n : Int) (ts : List Ten) (op : List Int) : List Int := ifB (totB k p n ts op) (conT k p n ts [] (plainL ts.length)).x []
section
variable {k p n : Int} {ts : List Ten} {op : List Int}
theorem totB_true : totB k p n ts op = true ↔ totP k p n ts op := by simp [totB]
theorem totX_yes (h : totP k p n ts op) : totX k p n ts op = (conT k p n ts [] (plainL ts.length)).x := by rw [totX, totB_true.2 h]; rfl
theorem totP.inR (h : totP k p n ts op) : InR k p n (totX k p n ts op) := by
  obtain ⟨ht, hl⟩ := h.2.ten; rw [totX_yes h]; have hax := ten_axes ht; have hd : (conT k p n ts [] (plainL ts.length)).d = [] := List.eq_nil_of_length_eq_zero (by rw [← hax.2.1, hl]; rfl); have hx := ht.2.2.1; rw [hl, hd] at hx; have hs : sizeI [] [] = 1 := by
    have : axesL [] [] := ⟨by decide, rfl, fun j hj => by simp at hj⟩
    rw [sizeI_yes this (by decide)]; rfl
  rw [hs, Int.one_mul] at hx; exact ⟨by omega, ht.2.2.2⟩
end
section
variable {k p n x : Int} {ts : List Ten} {op : List Int}
end
end Go.Proofs.Ythlmjnihihbckaa
namespace Go.Proofs.Ythlmjnihihbckaa
set_option maxRecDepth 100000
open Go.RowKit
def onesT (k p n : Int) (t : Ten) : Ten := ⟨t.l, t.d, (List.replicate (prodI t.d).toNat (oneL k p n)).flatten⟩
def envTs (k p n : Int) (ts : List Ten) (i : Int) : List Ten := ts.set i.toNat (onesT k p n (ts.getD i.toNat noTen))
def envOp (ts : List Ten) (op : List Int) (i : Int) : List Int := joinI op (ts.getD i.toNat noTen).l
def envP (k p n : Int) (ts : List Ten) (op : List Int) (i : Int) : Prop := netL k p n ts op ∧ (0 ≤ i ∧ i < ts.length) ∧ conP k p n (envTs k p n ts i) (envOp ts op i) (plainL ts.length)
open Classical in
noncomputable def envB (k p n : Int) (ts : List Ten) (op : List Int) (i : Int) : Bool := decide (envP k p n ts op i)
noncomputable def envR (k p n : Int) (ts : List Ten) (op : List Int) (i : Int) : Ten := ifB (envB k p n ts op i) (conT k p n (envTs k p n ts i) (envOp ts op i) (plainL ts.length)) noTen
section
variable {k p n i : Int} {ts : List Ten} {op : List Int}
theorem envB_true : envB k p n ts op i = true ↔ envP k p n ts op i := by simp [envB]
end
theorem dimOf_set {ts : List Ten} {j : Nat} {t u : Ten} (ht : ts[j]? = some t) (hl : u.l = t.l) (hd : u.d = t.d) (x : Int) : dimOf (ts.set j u) x = dimOf ts x := by
  induction ts generalizing j with
  | nil => simp at ht
  | cons y ts ih =>
    cases j with
    | zero =>
      have e : y = t := by simpa using ht
      subst e; simp only [List.set_cons_zero, dimOf, hl, hd]
    | succ j =>
      have := ih (j := j) (by simpa using ht); simp only [List.set_cons_succ, dimOf, this]
theorem idxAt_map {ls ds op : List Int} {f : Int → Int} (hd : ds = ls.map f) (hs : ∀ x ∈ op, x ∈ ls) : idxAt ls ds op = op.map f := List.map_congr_left fun x hx => by
  have hg := findI_get (hs x hx); rw [hd, map_getD hg.1, hg.2]
theorem conP.dims {k p n : Int} {ts : List Ten} {op : List Int} {ss : List Stp} (h : conP k p n ts op ss) : (conT k p n ts op ss).d = op.map (dimOf ts) := by
  unfold conT
  by_cases hn : ts.length = 0
  · rw [if_pos hn, h.empty hn]; rfl
  · rw [if_neg hn]; have hf := (h.last hn).1; have r := run_ok h.1 ss.length (Nat.le_refl _) h.2; have hg := r.get (j := ts.length + ss.length - 1) (by omega); have hs := sum_ten hf.2.1 op; have e : (sumR k p n (lastT k p n ts op ss) op).d = (sumR k p n (lastT k p n ts op ss) op).l.map (dimOf ts) := by
      rw [hs.2.2, hs.2.1]; exact keep_map (t := lastT k p n ts op ss) (u := oneT k p n) hg.2.2 rfl op
    exact idxAt_map e fun x hx => hf.perm.perm.mem_iff.1 hx
def crP (k p n : Int) (ts : List Ten) (op : List Int) (i : Int) (u : Ten) : Prop := replP k p n ts op i u ∧ envP k p n ts op i ∧ pairP k p n u (envR k p n ts op i) op
section
variable {k p n i : Int} {ts : List Ten} {op : List Int} {u : Ten}
theorem envP.ten (h : envP k p n ts op i) : tensorL k p n (envR k p n ts op i).l (envR k p n ts op i).d (envR k p n ts op i).x ∧ (envR k p n ts op i).l = envOp ts op i ∧ (envR k p n ts op i).d = (envR k p n ts op i).l.map (dimOf ts) := by
  have e : envR k p n ts op i = conT k p n (envTs k p n ts i) (envOp ts op i) (plainL ts.length) := by rw [envR, envB_true.2 h]; rfl
  have ht := h.2.2.ten; have hd := h.2.2.dims; rw [e]; have hi : i.toNat < ts.length := by have := h.2.1; omega
  have hj : ts[i.toNat]? = some (ts.getD i.toNat noTen) := by simp [List.getD, hi]
  refine ⟨ht.1, ht.2, ?_⟩; rw [hd, ht.2]; exact List.map_congr_left fun x _ => dimOf_set (u := onesT k p n (ts.getD i.toNat noTen)) hj rfl rfl x
theorem crP.perm (h : crP k p n ts op i u) : PermOK k p n (pairR k p n u (envR k p n ts op i) op) op := by
  obtain ⟨h1, h2, _⟩ := pair_ten h.2.2; have he := h.2.1.ten; have hn := (net_open h.1.1).1; have hk : ∀ x, x ∈ (pairR k p n u (envR k p n ts op i) op).l ↔ x ∈ op := fun x => by
    rw [h2, mem_keep]; exact ⟨fun h => h.2, fun h => ⟨.inr (by rw [he.2.1]; exact mem_joinI.2 (.inl h)), h⟩⟩
  exact ⟨h1.1, h1, perm_of hn (fun x hx => (hk x).2 hx) (pigeon (axes_nodup (ten_axes h1)) fun x hx => (hk x).1 hx)⟩
end
end Go.Proofs.Ythlmjnihihbckaa
namespace Go.Proofs.Ythlmjnihihbckaa
set_option maxRecDepth 100000
open Go.RowKit

section
variable {P : Program} {n : Nat} {w0 : World} {K : Env} {HS : List PH} {d : Option Tmp} {ty : TypeId} {ps : String} {af : Array Edge} {g : Option (Nat × Bool)}
end
theorem NetO.none : NetO [] [] (.slice none 0 0) (.slice none 0 0) emp :=
  ⟨[], emp, emp, [], ⟨rfl, .inl ⟨rfl, rfl, rfl⟩⟩, IntsO.nil, OwnL.nil, ⟨⟨fun x hx => PDj.emp _, fun x hx => PDj.emp _, trivial⟩, fun x hx => by simp at hx; subst hx; exact PLe.emp _, fun k o e => by cases e⟩⟩
end Go.Proofs.Ythlmjnihihbckaa
namespace Go.Proofs.Ythlmjnihihbckaa
set_option maxRecDepth 100000
open Go.RowKit
theorem OwnH.at {ts : List Ten} {cs : List Value} {h : PH} (o : OwnH (flat ts) cs h) (i : Nat) (hi : i < ts.length) : ∃ t a b c, ts[i]? = some t ∧ (cs.drop (i * 3)).take 3 = [a, b, c] ∧ IntsR t.l a h ∧ IntsR t.d b h ∧ IntsR t.x c h := by
  obtain ⟨l, ol, m⟩ := o; have ht : ts[i]? = some ts[i] := List.getElem?_eq_getElem hi; obtain ⟨f1, f2, f3⟩ := tens_get ht; obtain ⟨a, h1, e1, g1, r1⟩ := ol.own _ _ f1; obtain ⟨b, h2, e2, g2, r2⟩ := ol.own _ _ f2; obtain ⟨c, h3, e3, g3, r3⟩ := ol.own _ _ f3; exact ⟨_, a, b, c, ht, three_at e1 e2 e3, r1.toR.mono (m.le _ (List.mem_of_getElem? g1)), r2.toR.mono (m.le _ (List.mem_of_getElem? g2)), r3.toR.mono (m.le _ (List.mem_of_getElem? g3))⟩
end Go.Proofs.Ythlmjnihihbckaa
namespace Go.Proofs.Ythlmjnihihbckaa
set_option maxRecDepth 100000
open Go.RowKit
theorem TensL.at {ts : List Ten} {cs : List Value} {h H : PH} (r : TensL ts cs h) (l : PLe h H) (j : Nat) (hj : j < ts.length) : ∃ t a b c, ts[j]? = some t ∧ (cs.drop (j * 3)).take 3 = [a, b, c] ∧ IntsR t.l a H ∧ IntsR t.d b H ∧ IntsR t.x c H := by
  have ht : ts[j]? = some ts[j] := List.getElem?_eq_getElem hj; obtain ⟨a, b, c, e, r1, r2, r3⟩ := r.2 j _ ht; exact ⟨_, a, b, c, ht, e, r1.mono l, r2.mono l, r3.mono l⟩
end Go.Proofs.Ythlmjnihihbckaa
namespace Go.Proofs.Ythlmjnihihbckaa
set_option maxRecDepth 100000
open Go.RowKit
theorem TriO.x {t : Ten} {a b c : Value} {h : PH} (r : TriO t a b c h) : ∃ g, PLe g h ∧ IntsO t.x c g := by
  obtain ⟨h1, h2, h3, r1, r2, r3, m⟩ := r; exact ⟨h3, m.le _ (by simp), r3⟩
end Go.Proofs.Ythlmjnihihbckaa
namespace Go.Proofs.Ythlmjnihihbckaa
set_option maxRecDepth 100000
open Go.RowKit
theorem r3 : ringL 3 1000000 0 := .inr (.inr (.inl ⟨.inl rfl, by omega, rfl⟩))
theorem t3 : topI 3 1000000 0 = 1000000 := rfl
end Go.Proofs.Ythlmjnihihbckaa
namespace Go.Proofs.Ythlmjnihihbckaa
set_option maxRecDepth 100000
open Go.RowKit
structure RLaw (k p n : Int) : Prop where
  addC : ∀ a b, InR k p n a → InR k p n b → addL k p a b = addL k p b a
  addA : ∀ a b c, InR k p n a → InR k p n b → InR k p n c → addL k p (addL k p a b) c = addL k p a (addL k p b c)
  add0 : ∀ a, InR k p n a → addL k p (zeroL k p n) a = a
  mulC : ∀ a b, InR k p n a → InR k p n b → mulL k p n a b = mulL k p n b a
  mulA : ∀ a b c, InR k p n a → InR k p n b → InR k p n c → mulL k p n (mulL k p n a b) c = mulL k p n a (mulL k p n b c)
  mul1 : ∀ a, InR k p n a → mulL k p n (oneL k p n) a = a
  mul0 : ∀ a, InR k p n a → mulL k p n (zeroL k p n) a = zeroL k p n
  dist : ∀ a b c, InR k p n a → InR k p n b → InR k p n c → mulL k p n (addL k p a b) c = addL k p (mulL k p n a c) (mulL k p n b c)
abbrev El (k p n : Int) := {xs : List Int // InR k p n xs}
section
variable {k p n : Int} (hr : ringL k p n)
open Classical in
noncomputable def toA (xs : List Int) : El k p n := if h : InR k p n xs then ⟨xs, h⟩ else ⟨zeroL k p n, zeroL_in hr⟩
end
end Go.Proofs.Ythlmjnihihbckaa
namespace Go.Proofs.Ythlmjnihihbckaa
set_option maxRecDepth 100000
open Go.RowKit
section
variable {k p n : Int} (hr : ringL k p n) (hR : RLaw k p n)
/-- What a tensor holds at an assignment. -/
noncomputable def val (t : Ten) (a : Int → Int) : El k p n := toA hr (elt t.x (widthI k n) (offL t.d (t.l.map a)))
variable {t u : Ten} {f : Int → Int} {K : List Int}
end
end Go.Proofs.Ythlmjnihihbckaa
namespace Go.Proofs.Ythlmjnihihbckaa
set_option maxRecDepth 100000
open Go.RowKit
theorem step_zero {k p n : Int} {x y out : List Int} {i j : Nat} (hk : k = 7 ∧ (widthI k n).toNat ≤ 6 ∨ k = 8) (hp : 1 ≤ p) (ho : PolyIn k p n out) (hy : PolyIn k p n y) (hi : x.getD i 0 = 0) (hij : 4 ≤ i + j → k = 8 → i + j - 4 < out.length) : mulStep k p x y out i j = out := by
  have h0 : ∀ m, (out.getD m 0).tmod p = out.getD m 0 := fun m => by
    have := ho.at hp m; exact Int.tmod_eq_of_lt this.1 (by omega)
  unfold mulStep
  split
  · rename_i h
    rw [hi, Int.zero_mul, Int.add_zero, h0, set_same h]
  · split
    · rename_i h h8
      have hw : out.length = 4 := by rw [ho.1, widthI, if_neg (by omega), if_pos h8]; rfl
      have hz := ho.at hp (i + j - 4); have hyj := hy.at hp j; have e : (out.getD (i + j - 4) 0 + (p - x.getD i 0) * y.getD j 0).tmod p = out.getD (i + j - 4) 0 := by
        rw [hi, Int.sub_zero]; have hm : 0 ≤ p * y.getD j 0 := Int.mul_nonneg (by omega) hyj.1; rw [Int.tmod_eq_emod_of_nonneg (by omega), Int.add_mul_emod_self_left]; exact Int.emod_eq_of_lt hz.1 (by omega)
      rw [e]; exact set_same (hij (by omega) h8)
    · rfl
theorem row_zero {k p n : Int} {x y out : List Int} {i : Nat} (hk : k = 7 ∧ (widthI k n).toNat ≤ 6 ∨ k = 8) (hp : 1 ≤ p) (ho : PolyIn k p n out) (hy : PolyIn k p n y) (hi : x.getD i 0 = 0) (hil : i < out.length) (hyl : y.length = out.length) :
    ∀ m, m ≤ y.length → mulRow k p x y i out m = out
  | 0, _ => rfl
  | m + 1, hm => by
    rw [mulRow_step, row_zero hk hp ho hy hi hil hyl m (by omega)]; refine step_zero hk hp ho hy hi (fun h4 h8 => ?_); have hw : out.length = 4 := by rw [ho.1, widthI, if_neg (by omega), if_pos h8]; rfl
    omega
theorem row_copy {k p n : Int} {x y : List Int} (hk : k = 7 ∧ (widthI k n).toNat ≤ 6 ∨ k = 8) (hp : 2 ≤ p) (hy : PolyIn k p n y) (h1 : x.getD 0 0 = 1) :
    ∀ m, m ≤ y.length → mulRow k p x y 0 (List.replicate y.length 0) m = y.take m ++ List.replicate (y.length - m) 0
  | 0, _ => by simp [mulRow]
  | m + 1, hm => by
    rw [mulRow_step, row_copy hk hp hy h1 m (by omega)]; have hlt : (y.take m).length = m := by simp; omega
    have hol : (y.take m ++ List.replicate (y.length - m) (0 : Int)).length = y.length := by simp; omega
    have hz : (y.take m ++ List.replicate (y.length - m) (0 : Int)).getD m 0 = 0 := by
      simp only [List.getD]; rw [List.getElem?_append_right (by omega), hlt, Nat.sub_self]
      simp [show 0 < y.length - m by omega]
    have hym := hy.at (by omega : 1 ≤ p) m
    unfold mulStep
    rw [Nat.zero_add, if_pos (by rw [hol]; omega), hz, h1, Int.one_mul, Int.zero_add, Int.tmod_eq_of_lt hym.1 (by omega)]; obtain ⟨r, hr⟩ : ∃ r, y.length - m = r + 1 := ⟨y.length - m - 1, by omega⟩
    rw [List.set_append_right _ _ (by omega), hlt, Nat.sub_self, hr, List.replicate_succ, List.set_cons_zero, show y.length - (m + 1) = r by omega, List.take_succ_eq_append_getElem (by omega), List.append_assoc]
    congr 1
    simp [List.getD, show m < y.length by omega]
theorem one_to {k p n : Int} {x y : List Int} (hk : k = 7 ∧ (widthI k n).toNat ≤ 6 ∨ k = 8) (hp : 2 ≤ p) (hy : PolyIn k p n y) (h1 : x.getD 0 0 = 1) (h0 : ∀ j, 0 < j → x.getD j 0 = 0) (hl : x.length = y.length) :
    ∀ m, m + 1 ≤ x.length → mulTo k p x y (List.replicate y.length 0) (m + 1) = y
  | 0, h => by
    rw [mulTo_step]
    show mulRow k p x y 0 (List.replicate y.length 0) y.length = y
    rw [row_copy hk hp hy h1 y.length (Nat.le_refl _), Nat.sub_self, List.take_length]
    simp
  | m + 1, h => by
    rw [mulTo_step, one_to hk hp hy h1 h0 hl m (by omega)]; exact row_zero hk (by omega) hy hy (h0 _ (by omega)) (by omega) rfl y.length (Nat.le_refl _)
theorem one_mul {k p n : Int} (hr : ringL k p n) {x : List Int} (hx : InR k p n x) : mulL k p n (oneL k p n) x = x := by
  have hlen := hx.len hr; have hx0 := hx.at hr 0 (by omega); have hwd : 1 ≤ (widthI k n).toNat := by have := hx.1; omega
  by_cases hk : k = 7 ∨ k = 8
  · have htp := top_poly hr (.inr hk); have ho := one_poly (p := p) (n := n) (k := k) (by omega) hwd; have hk' : k = 7 ∧ (widthI k n).toNat ≤ 6 ∨ k = 8 := by rcases hk with h | h; exact .inl ⟨h, by have := hx.1; omega⟩; exact .inr h
    have hol := oneL_len k p n; obtain ⟨q, hq⟩ : ∃ q, (oneL k p n).length = q + 1 := ⟨(oneL k p n).length - 1, by omega⟩
    have := one_to hk' htp.2.1 (hx.poly hr (.inr hk)) ho.1 ho.2 (by rw [hol, hx.1]) q (by omega)
    unfold mulL
    rw [if_neg (by omega), if_neg (by omega), if_neg (by omega), if_neg (by omega), if_neg (by omega), hq, ← hx.1]; exact this
  · have hm := mul_one hr hx; have e : mulL k p n (oneL k p n) x = mulL k p n x (oneL k p n) := by
      unfold mulL
      split
      · rw [Int.min_comm]
      · split
        · rw [Int.mul_comm]
        · split
          · rw [Int.mul_comm]
          · split
            · rw [Int.add_comm]
            · split
              · rw [Nat.and_comm]
              · exfalso
                unfold ringL at hr
                omega
    rw [e, hm]
end Go.Proofs.Ythlmjnihihbckaa
namespace Go.Proofs.Ythlmjnihihbckaa
set_option maxRecDepth 100000
open Go.RowKit
def closedL (ts : List Ten) (op : List Int) : List Int := (labelsL ts).filter fun x => decide (x ∉ op)
theorem closed_mem {ts : List Ten} {op : List Int} {x : Int} (h : x ∈ closedL ts op) : (0 ≤ x ∧ x ≤ 99) ∧ 1 ≤ dimOf ts x := by
  have h1 := (List.mem_filter.1 h).1; have := mem_labels.1 h1
  omega
theorem ct_s_l21Closed (k p n : Int) (ts : List Ten) (op : List Int) (vt vo : Value) (w : World) (r : TensR ts vt (hp w)) (r' : IntsR op vo (hp w)) (hok : ∀ t ∈ ts, AxOK t) :
    Calls Try.prog 120 [netV k p n vt vo].toArray w (Ret w emp (IntsO (closedL ts op))) := by
  have hll : (labelsL ts).length ≤ 100 := labels_len ts 100; refine calls_in Try.func120 rfl Try.ntmps120 rfl (Sat.start w) ?_; have hle0 := r.le; obtain ⟨cs_r, rr_r, hc_r⟩ := r.at; have hle1 := r'.le; refine wp_sc (wp_sq ?_); refine sq_x rfl (x_box rfl rfl) rfl ?_; rintro _ _ ⟨b1, rfl, rfl⟩; refine sq_v rfl (v_assign rfl) rfl (sq_end (qs_n (wp_sc (wp_sq ?_)))); refine sq_x rfl (x_build0 Try.underlying25 ty_3) rfl ?_; intro v6 h6 (r6 : IntsO [] v6 h6); refine sq_v rfl (v_assign rfl) rfl (sq_end (qs_n (wp_sc (wp_sc (wp_sq (sq_v rfl (v_fieldAddr fd_39_1 ty_37 (by decide) rfl) rfl (sq_v rfl (v_loadB 1 ty_37 rfl rfl rfl) rfl ?_))))))); refine sq_x rfl (x_call rfl en_54 (fun w s => ct_s_l12Labels _ _ w (r.mono (s.get 2 rfl)) (by first | assumption | omega))) rfl ?_; rintro v9 h9 r9; refine sq_v rfl (v_len Try.underlying25 rfl r9.toR.sl) rfl (sq_v rfl (v_move rfl) rfl (sq_end (qs_n (wp_bl ?_)))); refine wp_lp (σ := Nat × Value × PH) (fun z_ => [(1, .pointer (some ⟨b1, 0, none⟩)), (2, .slice none 0 0), (3, z_.2.1), (9, v9), (10, num (labelsL ts).length), (11, num z_.1)]) (fun z_ => [z_.2.2, h9, box b1 [num k, num p, num n, vt, vo] 39, hp w]) (fun z_ => z_.1 ≤ (labelsL ts).length ∧ IntsO (((labelsL ts).take z_.1).filter fun x => decide (x ∉ op)) z_.2.1 z_.2.2) (fun z_ => (labelsL ts).length - z_.1) (0, v6, h6) (⟨by (try dsimp only); omega, r6⟩) ⟨rfl, rfl, (by first | rfl | exact ksub rfl (by first | omega | (simp; done) | (simp; omega))), rfl, rfl, (by first | rfl | exact ksub rfl (by first | omega | (simp; done) | (simp; omega))), trivial⟩ (fun _ s => s.pick [1, 0, 2, 3] (by decide) rfl) ?_; rintro ⟨i, lv, lh⟩ ⟨hi, q⟩; dsimp only at hi q ⊢; have hle_q := q.toR.le; have hfl := filter_take_len (labelsL ts) (fun x => decide (x ∉ op)) i; have hmem := findI_ge (xs := op) (n := (labelsL ts).getD i 0); refine wp_sc (wp_sq (sq_v rfl (v_lss rfl rfl) rfl (sq_end (qs_n (wp_sc ?_))))); refine wp_cd rfl (fun c12 => ?_) (fun c12 => ?_)
  · refine wp_sk (qs_n (wp_sc (wp_bl (wp_sc (wp_sq ?_))))); refine sq_v rfl (v_idxI Try.underlying25 ty_3 rfl rfl r9.toR (by first | omega | (simp; omega) | (simp only [List.length_append, List.length_cons, List.length_nil]; omega) | (rw [List.length_set]; omega)) (by first | omega | (simp; omega) | (simp only [List.length_append, List.length_cons, List.length_nil]; omega) | (rw [List.length_set]; omega))) rfl ?_; refine sq_v rfl (v_loadI (k := i) 1 ty_3 rfl rfl r9.toR (by first | omega | (simp; omega) | (simp only [List.length_append, List.length_cons, List.length_nil]; omega) | (rw [List.length_set]; omega))) rfl ?_; refine sq_v rfl (v_assign rfl) rfl (sq_end (qs_n (wp_sc (wp_sq (sq_v rfl (v_fieldAddr fd_39_2 ty_25 (by decide) rfl) rfl (sq_v rfl (v_loadB 2 ty_25 rfl rfl rfl) rfl (sq_v rfl (v_move rfl) rfl (sq_u rfl (x_callv rfl en_77 (fun w s => ct_s_l05Find _ _ _ w (r'.mono (s.get 3 rfl)))) rfl (sq_v rfl (v_lss rfl rfl) rfl (sq_end (qs_n ?_))))))))))); refine wp_cd rfl (fun c19 => ?_) (fun c19 => ?_)
    · refine wp_sq (sq_v rfl (v_move rfl) rfl (sq_v rfl (v_move rfl) rfl ?_)); refine sq_x rfl (x_buildS [num ((labelsL ts).getD i 0)] Try.underlying25 ty_3 (by decide) rfl rfl rfl (by decide) (by decide) (by intro v hv; simp at hv; rcases hv with rfl <;> rfl)) rfl ?_; intro v22 h22 (r22 : IntsO [(labelsL ts).getD i 0] v22 h22); refine sq_m 1 rfl rfl (m_appI 1 0 Try.underlying25 ty_3 rfl rfl rfl rfl q rfl r22.toR (by first | omega | (simp; omega) | (simp only [List.length_append, List.length_cons, List.length_nil]; omega) | (rw [List.length_set]; omega))) rfl ?_; intro v23 h_r23 r23; refine sq_v rfl (v_assign rfl) rfl (sq_end (qs_bn (qs_n (wp_sq ?_)))); refine sq_v rfl (v_add rfl rfl ((by unfold I64; omega))) rfl ?_; refine sq_v rfl (v_move rfl) rfl (sq_end ?_); exact qs_bk (i + 1, v23, h_r23) ⟨by (try dsimp only); omega, by (try dsimp only); rw [filter_yes (by omega) (by simpa using fun h => by have := hmem.2 h; omega)]; exact r23⟩ (by simp only; omega) ⟨rfl, rfl, (by first | rfl | exact ksub rfl (by first | omega | (simp; done) | (simp; omega))), rfl, rfl, (by first | rfl | exact ksub rfl (by first | omega | (simp; done) | (simp; omega))), trivial⟩ (fun _ s => s.pick [1, 2, 3, 4] (by decide) rfl)
    · refine wp_sk (qs_bn (qs_n (wp_sq ?_))); refine sq_v rfl (v_add rfl rfl ((by unfold I64; omega))) rfl ?_; refine sq_v rfl (v_move rfl) rfl (sq_end ?_); exact qs_bk (i + 1, lv, lh) ⟨by (try dsimp only); omega, by (try dsimp only); rw [filter_no (by omega) (by simpa using hmem.1 (by omega))]; exact q⟩ (by simp only; omega) ⟨rfl, rfl, (by first | rfl | exact ksub rfl (by first | omega | (simp; done) | (simp; omega))), rfl, rfl, (by first | rfl | exact ksub rfl (by first | omega | (simp; done) | (simp; omega))), trivial⟩ (fun _ s => s)
  · refine wp_ex (qs_x (qs_x (qs_bx (qs_n (wp_sc (wp_sq (sq_v rfl (v_move rfl) rfl (sq_v rfl (v_assign rfl) rfl (sq_end (qs_n (wp_rt ?_))))))))))); exact qs_ret1 rfl rfl (fin_t 0 (i := 3) rfl rfl rfl (by rw [List.take_of_length_le (by omega)] at q; exact q))
theorem ct_i_ClosedLabels (k p n : Int) (ts : List Ten) (op : List Int) (vt vo : Value) (w : World) (r : TensR ts vt (hp w)) (r' : IntsR op vo (hp w)) (hs : op.length ≤ 1048576) (hnet : netL k p n ts op) :
    Calls Try.prog 122 [netV k p n vt vo].toArray w (Ret w emp (IntsO (closedL ts op))) := by
  have hll : (labelsL ts).length ≤ 100 := labels_len ts 100; have e9 : labelsOf k p n ts op = labelsL ts := if_pos hnet; refine calls_in Try.func122 rfl Try.ntmps122 rfl (Sat.start w) ?_; have hle0 := r.le; obtain ⟨cs_r, rr_r, hc_r⟩ := r.at; have hle1 := r'.le; refine wp_sc (wp_sq ?_); refine sq_x rfl (x_box rfl rfl) rfl ?_; rintro _ _ ⟨b1, rfl, rfl⟩; refine sq_v rfl (v_assign rfl) rfl (sq_end (qs_n (wp_sc (wp_sq (sq_v rfl (v_assign rfl) rfl (sq_end (qs_n (wp_sc (wp_sc (wp_sq (sq_v rfl (v_loadNB 0 ty_39 rfl rfl rfl rfl) rfl ?_))))))))))); refine sq_x rfl (x_call rfl en_63 (fun w s => ct_i_LabelsOf _ _ _ _ _ _ _ w (r.mono (s.get 1 rfl)) (r'.mono (s.get 1 rfl)) (by first | assumption | omega))) rfl ?_; rintro v7 h7 r7; rw [e9] at r7; refine sq_v rfl (v_len Try.underlying25 rfl r7.toR.sl) rfl (sq_v rfl (v_move rfl) rfl (sq_end (qs_n (wp_bl ?_)))); refine wp_lp (σ := Nat × Value × PH) (fun z_ => [(1, .pointer (some ⟨b1, 0, none⟩)), (2, .slice none 0 0), (3, z_.2.1), (7, v7), (8, num (labelsL ts).length), (9, num z_.1)]) (fun z_ => [z_.2.2, h7, box b1 [num k, num p, num n, vt, vo] 39, hp w]) (fun z_ => z_.1 ≤ (labelsL ts).length ∧ IntsO (((labelsL ts).take z_.1).filter fun x => decide (x ∉ op)) z_.2.1 z_.2.2) (fun z_ => (labelsL ts).length - z_.1) (0, .slice none 0 0, emp) (⟨by (try dsimp only); omega, IntsO.nil⟩) ⟨rfl, rfl, (by first | rfl | exact ksub rfl (by first | omega | (simp; done) | (simp; omega))), rfl, rfl, (by first | rfl | exact ksub rfl (by first | omega | (simp; done) | (simp; omega))), trivial⟩ (fun _ s => (emp_sat s)) ?_; rintro ⟨i, lv, lh⟩ ⟨hi, q⟩; dsimp only at hi q ⊢; have hle_q := q.toR.le; have hfl := filter_take_len (labelsL ts) (fun x => decide (x ∉ op)) i; refine wp_sc (wp_sq (sq_v rfl (v_lss rfl rfl) rfl (sq_end (qs_n (wp_sc ?_))))); refine wp_cd rfl (fun c10 => ?_) (fun c10 => ?_)
  · refine wp_sk (qs_n (wp_sc (wp_bl (wp_sc (wp_sq ?_))))); refine sq_v rfl (v_idxI Try.underlying25 ty_3 rfl rfl r7.toR (by first | omega | (simp; omega) | (simp only [List.length_append, List.length_cons, List.length_nil]; omega) | (rw [List.length_set]; omega)) (by first | omega | (simp; omega) | (simp only [List.length_append, List.length_cons, List.length_nil]; omega) | (rw [List.length_set]; omega))) rfl ?_; refine sq_v rfl (v_loadI (k := i) 1 ty_3 rfl rfl r7.toR (by first | omega | (simp; omega) | (simp only [List.length_append, List.length_cons, List.length_nil]; omega) | (rw [List.length_set]; omega))) rfl ?_; refine sq_v rfl (v_assign rfl) rfl (sq_end (qs_n (wp_sc (wp_sq (sq_v rfl (v_fieldAddr fd_39_2 ty_25 (by decide) rfl) rfl (sq_v rfl (v_loadB 2 ty_25 rfl rfl rfl) rfl (sq_v rfl (v_move rfl) rfl (sq_u rfl (x_callv rfl en_67 (fun w s => ct_i_hasInt _ _ _ w (r'.mono (s.get 3 rfl)))) rfl (sq_v rfl (v_not rfl) rfl (sq_end (qs_n ?_))))))))))); refine wp_cnd rfl (fun c17 => ?_) (fun c17 => ?_)
    · refine wp_sq (sq_v rfl (v_move rfl) rfl (sq_v rfl (v_move rfl) rfl ?_)); refine sq_x rfl (x_buildS [num ((labelsL ts).getD i 0)] Try.underlying25 ty_3 (by decide) rfl rfl rfl (by decide) (by decide) (by intro v hv; simp at hv; rcases hv with rfl <;> rfl)) rfl ?_; intro v20 h20 (r20 : IntsO [(labelsL ts).getD i 0] v20 h20); refine sq_m 1 rfl rfl (m_appI 1 0 Try.underlying25 ty_3 rfl rfl rfl rfl q rfl r20.toR (by first | omega | (simp; omega) | (simp only [List.length_append, List.length_cons, List.length_nil]; omega) | (rw [List.length_set]; omega))) rfl ?_; intro v21 h_r21 r21; refine sq_v rfl (v_assign rfl) rfl (sq_end (qs_bn (qs_n (wp_sq ?_)))); refine sq_v rfl (v_add rfl rfl ((by unfold I64; omega))) rfl ?_; refine sq_v rfl (v_move rfl) rfl (sq_end ?_); exact qs_bk (i + 1, v21, h_r21) ⟨by (try dsimp only); omega, by (try dsimp only); rw [filter_yes (by omega) (by simpa using c17)]; exact r21⟩ (by simp only; omega) ⟨rfl, rfl, (by first | rfl | exact ksub rfl (by first | omega | (simp; done) | (simp; omega))), rfl, rfl, (by first | rfl | exact ksub rfl (by first | omega | (simp; done) | (simp; omega))), trivial⟩ (fun _ s => s.pick [1, 2, 3, 4] (by decide) rfl)
    · refine wp_sk (qs_bn (qs_n (wp_sq ?_))); refine sq_v rfl (v_add rfl rfl ((by unfold I64; omega))) rfl ?_; refine sq_v rfl (v_move rfl) rfl (sq_end ?_); exact qs_bk (i + 1, lv, lh) ⟨by (try dsimp only); omega, by (try dsimp only); rw [filter_no (by omega) (by simpa using c17)]; exact q⟩ (by simp only; omega) ⟨rfl, rfl, (by first | rfl | exact ksub rfl (by first | omega | (simp; done) | (simp; omega))), rfl, rfl, (by first | rfl | exact ksub rfl (by first | omega | (simp; done) | (simp; omega))), trivial⟩ (fun _ s => s)
  · refine wp_ex (qs_x (qs_x (qs_bx (qs_n (wp_sc (wp_sq (sq_v rfl (v_move rfl) rfl (sq_v rfl (v_assign rfl) rfl (sq_end (qs_n (wp_rt ?_))))))))))); exact qs_ret1 rfl rfl (fin_t 0 (i := 3) rfl rfl rfl (by rw [List.take_of_length_le (by omega)] at q; exact q))
end Go.Proofs.Ythlmjnihihbckaa
namespace Go.Proofs.Ythlmjnihihbckaa
set_option maxRecDepth 100000
open Go.RowKit
theorem SpR.mono {f : Int → Int} {s : Sh} {va vg : Value} {b : Nat} {h h' : PH} (r : SpR f s va vg b h) (l : PLe h h') : SpR f s va vg b h' := ⟨r.ok, cellP.mono l r.c0, cellP.mono l r.c1, r.all.mono l, r.gone.mono l⟩
end Go.Proofs.Ythlmjnihihbckaa
namespace Go.Proofs.Ythlmjnihihbckaa
set_option maxRecDepth 100000
open Go.RowKit
/-- What can be read of a state in its own part. -/
theorem SpO.own {f : Int → Int} {s : Sh} {bb : Nat} {h q : PH} (r : SpO f s bb h q) : ∃ va vg cs, cellP h bb 0 = some va ∧ cellP h bb 1 = some vg ∧ RowR cs s.all.length 3 va h ∧ BoolsR s.gone vg h := by
  obtain ⟨hok, va, vg, ha, hg, hs, cs, ra, rg, rt, md⟩ := r; have hb := md.le (box bb [va, vg] 79) (by simp); exact ⟨va, vg, cs, cellP.mono hb (by rw [cellP_box]; rfl), cellP.mono hb (by rw [cellP_box]; rfl), ra.toR.mono (md.le ha (by simp)), rg.toR.mono (md.le hg (by simp))⟩
def StartR (k p n : Int) (ts : List Ten) (op : List Int) (ss : List Stp) (q : PH) (u : Value) (h : PH) : Prop :=
  ∃ pv b, u = .tuple [pv, .bool b].toArray ∧ (b = true ↔ compP k p n ts op ss) ∧ (b = true → ∃ bb, pv = ptrV bb ∧ SpO (dimOf ts) (shTo op (sh0 ts) ss) bb h q)
theorem StartR.no {k p n : Int} {ts : List Ten} {op : List Int} {ss : List Stp} {q h : PH} {pv : Value} (hn : ¬ compP k p n ts op ss) : StartR k p n ts op ss q (.tuple [pv, .bool false].toArray) h :=
  ⟨pv, false, rfl, ⟨fun e => (by cases e), fun e => absurd e hn⟩, fun e => (by cases e)⟩
end Go.Proofs.Ythlmjnihihbckaa
namespace Go.Proofs.Ythlmjnihihbckaa
set_option maxRecDepth 100000
open Go.RowKit
def bestAt (g : Nat × Nat → Int) (l : List (Nat × Nat)) (i : Nat) (p : Nat × Nat) : Prop := p ∈ l ∧ (i = 0 → l[0]? = some p) ∧ (0 < i → bestP g (l.take i) = some p)
theorem bestAt.yes {g : Nat × Nat → Int} {l : List (Nat × Nat)} {i : Nat} {p x : Nat × Nat} (h : bestAt g l i p) (hx : l[i]? = some x) (hlt : g x < g p) : bestAt g l (i + 1) x := by
  obtain ⟨hi, e⟩ := List.getElem?_eq_some_iff.1 hx; refine ⟨List.mem_of_getElem? hx, fun e => by omega, fun _ => ?_⟩; rw [List.take_succ_eq_append_getElem hi, e, bestP_snoc]
  rcases Nat.eq_zero_or_pos i with h0 | h0
  · subst h0; simp [bestP]
  · rw [h.2.2 h0]; simp [hlt]
theorem bestAt.no {g : Nat × Nat → Int} {l : List (Nat × Nat)} {i : Nat} {p x : Nat × Nat} (h : bestAt g l i p) (hx : l[i]? = some x) (hlt : ¬ g x < g p) : bestAt g l (i + 1) p := by
  obtain ⟨hi, e⟩ := List.getElem?_eq_some_iff.1 hx; refine ⟨h.1, fun e => by omega, fun _ => ?_⟩; rw [List.take_succ_eq_append_getElem hi, e, bestP_snoc]
  rcases Nat.eq_zero_or_pos i with h0 | h0
  · subst h0; have := h.2.1 rfl; rw [hx] at this
    cases this
    simp [bestP]
  · rw [h.2.2 h0]; simp [hlt]
def CompR (k p n : Int) (ts : List Ten) (op : List Int) (ss : List Stp) (u : Value) (h : PH) : Prop :=
  ∃ v, u = .tuple [v, .bool (compB k p n ts op ss)].toArray ∧ StepsO (compS k p n ts op ss) v h
theorem CompR.no {k p n : Int} {ts : List Ten} {op : List Int} {ss : List Stp} (h : ¬ compP k p n ts op ss) : CompR k p n ts op ss (.tuple [.slice none 0 0, .bool false].toArray) emp :=
  ⟨_, by rw [show compB k p n ts op ss = false by simp [compB, h]], by rw [compS, if_neg h]; exact StepsO.nil⟩
end Go.Proofs.Ythlmjnihihbckaa
namespace Go.Proofs.Ythlmjnihihbckaa
set_option maxRecDepth 100000
open Go.RowKit
def bI (g : Nat × Nat → Int) (o : Option (Nat × Nat)) (bi bj bg : Int) : Prop := (o = none → bi = -1) ∧ ∀ x, o = some x → bi = x.1 ∧ bj = x.2 ∧ bg = g x
theorem bI.yes {g : Nat × Nat → Int} {l : List (Nat × Nat)} {bi bj bg : Int} {x : Nat × Nat} (h : bI g (bestP g l) bi bj bg) (c : bi < 0 ∨ g x < bg) : bI g (bestP g (l ++ [x])) x.1 x.2 (g x) := by
  rw [bestP_snoc]
  cases hb : bestP g l with
  | none => exact ⟨fun e => by simp at e, fun y e => by simp at e; subst e; exact ⟨rfl, rfl, rfl⟩⟩
  | some y =>
    have hy := h.2 y hb; have : g x < g y := by omega
    simp only [this, if_true]; exact ⟨fun e => by simp at e, fun y e => by simp at e; subst e; exact ⟨rfl, rfl, rfl⟩⟩
theorem bI.no {g : Nat × Nat → Int} {l : List (Nat × Nat)} {bi bj bg : Int} {x : Nat × Nat} (h : bI g (bestP g l) bi bj bg) (c1 : ¬ bi < 0) (c2 : ¬ g x < bg) : bI g (bestP g (l ++ [x])) bi bj bg := by
  rw [bestP_snoc]
  cases hb : bestP g l with
  | none => have := h.1 hb; omega
  | some y =>
    have hy := h.2 y hb; have : ¬ g x < g y := by omega
    simp only [this, if_false]; exact ⟨fun e => by simp at e, fun z e => by simp at e; subst e; exact hy⟩
end Go.Proofs.Ythlmjnihihbckaa
namespace Go.Proofs.Ythlmjnihihbckaa
set_option maxRecDepth 100000
open Go.RowKit
def meetP (t u : Ten) : Prop := ∃ x ∈ t.l, x ∈ u.l
def mrgX (a b x : Int) : Int := if x = max a b then min a b else x
def mrgI (P : List Int) (a b : Int) (m : Nat) : List Int := (P.take m).map (mrgX a b) ++ P.drop m
theorem mrgI_zero (P : List Int) (a b : Int) : mrgI P a b 0 = P := by simp [mrgI]
theorem mrgI_len (P : List Int) (a b : Int) (m : Nat) : (mrgI P a b m).length = P.length := by simp [mrgI]; omega
theorem mrgI_step {P : List Int} {a b : Int} {m : Nat} (h : m < P.length) : mrgI P a b (m + 1) = (mrgI P a b m).set m (mrgX a b (P.getD m 0)) := by
  have hl : ((P.take m).map (mrgX a b)).length = m := by simp; omega
  unfold mrgI
  rw [List.set_append_right _ _ (by omega), hl, Nat.sub_self, List.drop_eq_getElem_cons h, List.set_cons_zero, List.take_succ_eq_append_getElem h, List.map_append, List.append_assoc]
  congr 1
  simp [List.getD, h]
open Classical in
noncomputable def ptI (ts : List Ten) (P : List Int) (i : Nat) : Nat → List Int
  | 0 => P
  | m + 1 => if meetP (ts.getD i noTen) (ts.getD m noTen) then mrgI (ptI ts P i m) ((ptI ts P i m).getD i 0) ((ptI ts P i m).getD m 0) P.length else ptI ts P i m
theorem ptI_len {ts : List Ten} {P : List Int} {i : Nat} : ∀ m, (ptI ts P i m).length = P.length
  | 0 => rfl
  | m + 1 => by
    rw [ptI]
    split
    · rw [mrgI_len]; exact ptI_len m
    · exact ptI_len m
def inP (m : Nat) (P : List Int) : Prop := ∀ j, j < P.length → 0 ≤ P.getD j 0 ∧ P.getD j 0 < m
theorem inP.mrg {m : Nat} {P : List Int} {a b : Int} (h : inP m P) (ha : 0 ≤ a ∧ a < m) (hb : 0 ≤ b ∧ b < m) : ∀ q, q ≤ P.length → inP m (mrgI P a b q)
  | 0, _ => by rw [mrgI_zero]; exact h
  | q + 1, hq => by
    have ih := inP.mrg h ha hb q (by omega); intro j hj; rw [mrgI_len] at hj; rw [mrgI_step (by omega)]
    by_cases e : q = j
    · subst e; simp only [List.getD]; rw [List.getElem?_set_self (by rw [mrgI_len]; omega)]
      show 0 ≤ mrgX a b (P.getD q 0) ∧ mrgX a b (P.getD q 0) < m
      have := h q (by omega)
      unfold mrgX
      split <;> omega
    · have := ih j (by rw [mrgI_len]; exact hj); simp only [List.getD] at this ⊢; rw [List.getElem?_set_ne e]; exact this
theorem inP.pt {ts : List Ten} {n : Nat} {P : List Int} {i : Nat} (h : inP n P) (hi : i < P.length) : ∀ m, m ≤ P.length → inP n (ptI ts P i m)
  | 0, _ => h
  | m + 1, hm => by
    have ih := h.pt (ts := ts) hi m (by omega); have hl := ptI_len (ts := ts) (P := P) (i := i) m; rw [ptI]
    split
    · exact ih.mrg (ih i (by omega)) (ih m (by omega)) _ (by omega)
    · exact ih
/-- What each part is. -/
structure PartL (ts : List Ten) (l : List Int) : Prop where
  ne : l ≠ []
  nd : l.Nodup
  inr : ∀ x ∈ l, 0 ≤ x ∧ x < ts.length
theorem PartL.len {ts : List Ten} {l : List Int} (h : PartL ts l) : l.length ≤ ts.length := by
  have h2 := pigeon (m := (List.range ts.length).map Int.ofNat) h.nd fun x hx => by
    have := h.inr x hx; exact List.mem_map.2 ⟨x.toNat, List.mem_range.2 (by omega), by show ((x.toNat : Nat) : Int) = x; omega⟩
  simpa using h2
section
variable {k p n : Int} {ts : List Ten} {op : List Int}
end
end Go.Proofs.Ythlmjnihihbckaa
namespace Go.Proofs.Ythlmjnihihbckaa
set_option maxRecDepth 100000
open Go.RowKit
section
variable {P : Program} {n : Nat} {w0 : World} {K : Env} {HS : List PH} {d : Option Tmp} {ty : TypeId} {ps : String} {af : Array Edge} {g : Option (Nat × Bool)}
theorem x_build1 {t e' : TypeId} {parts : Array (Nat × Operand)} {z : Value} {bytes m : Nat} {agg : Bool} {v : Value} (hs : SlL v m) (ht : P.underlying t = some (.slice e')) (he : TyF P e' z 1 bytes agg) (hev : evP K parts.toList = some [(0, v)]) :
    StepX P n w0 K HS ⟨d, .buildSlice t 1 parts, ty, ps, af, g⟩ emp (RowO e' [v] 1 1) := by
  obtain ⟨a, c, rfl⟩ := hs; exact x_buildS [.slice a m c] ht he (by decide) hev rfl rfl (by decide) (by decide) (by intro v hv; simp at hv; subst hv; rfl)
end
theorem Made.one (h : PH) : Made h [h] := ⟨⟨fun x hx => (List.not_mem_nil hx).elim, trivial⟩, fun x hx => by rw [List.mem_singleton.1 hx]; exact PLe.refl _, fun k o e => ⟨h, List.mem_singleton.2 rfl, e⟩⟩
theorem OwnL.uno {xs : List Int} {v : Value} {h : PH} (r : IntsO xs v h) : OwnL [xs] [v] [h] := by
  refine ⟨rfl, rfl, fun i ys e => ?_⟩
  match i, e with
  | 0, e => cases e; exact ⟨v, h, rfl, rfl, r⟩
  | i + 1, e => simp at e
theorem OwnH.add {xss : List (List Int)} {xs : List Int} {vs : List Value} {v : Value} {h h' : PH} (o : OwnH xss vs h) (r : IntsO xs v h') (hd : PDj h h') : OwnH (xss ++ [xs]) (vs ++ [v]) (PUn h h') := by
  obtain ⟨l, ol, m⟩ := o; exact ⟨l ++ [h'], ol.append (OwnL.uno r), m.un (Made.one h') hd⟩
theorem LLO.of {bs : List (List Int)} {cs : List Value} {v : Value} {h ha hl : PH} (rr : RowO 25 cs bs.length 1 v ha) (o : OwnH bs cs hl) (md : Made h [ha, hl]) : LLO bs v h := by
  obtain ⟨l, ol, ml⟩ := o; refine ⟨cs, ha, l, rr, ol, ⟨⟨fun x hx => ?_, ml.sep⟩, fun x hx => ?_, fun k o e => ?_⟩⟩
  · exact ((md.sep.1 hl (by simp)).symm.mono (ml.le x hx)).symm
  · rcases List.mem_cons.1 hx with rfl | hx
    · exact md.le _ (by simp)
    · exact (ml.le x hx).trans (md.le hl (by simp))
  · obtain ⟨x, hx, hxe⟩ := md.dom k o e
    rcases List.mem_cons.1 hx with rfl | hx
    · exact ⟨x, by simp, hxe⟩
    · rw [List.mem_singleton.1 hx] at hxe; obtain ⟨y, hy, hye⟩ := ml.dom k o hxe; exact ⟨y, by simp [hy], hye⟩
end Go.Proofs.Ythlmjnihihbckaa
namespace Go.Proofs.Ythlmjnihihbckaa
set_option maxRecDepth 100000
open Go.RowKit
theorem TensL.drop {us : List Ten} {cs : List Value} {h : PH} (hT : TensL us cs h) (m : Nat) (hm : m ≤ us.length) : TensL (us.drop m) (cs.drop (m * 3)) h := by
  refine ⟨by rw [List.length_drop, List.length_drop, hT.1]; omega, fun i t e => ?_⟩; rw [List.getElem?_drop] at e; have := hT.2 (m + i) t e; rw [List.drop_drop, show m * 3 + i * 3 = (m + i) * 3 by omega]; exact this
end Go.Proofs.Ythlmjnihihbckaa
namespace Go.Proofs.Ythlmjnihihbckaa
set_option maxRecDepth 100000
open Go.RowKit
theorem ct_i_withoutInt (ls : List Int) (x : Int) (v : Value) (w : World) (r : IntsR ls v (hp w)) (hs : ls.length ≤ 1048576) :
    Calls Try.prog 125 [v, num x].toArray w (Ret w emp (IntsO (ls.filter fun y => decide (y ≠ x)))) := by
  refine calls_in Try.func125 rfl Try.ntmps125 rfl (Sat.start w) ?_; have hle0 := r.le; refine wp_sc (wp_sq (sq_v rfl (v_assign rfl) rfl (sq_end (qs_n (wp_sc (wp_sq (sq_v rfl (v_assign rfl) rfl (sq_end (qs_n (wp_sc (wp_sc (wp_sq (sq_v rfl (v_move rfl) rfl (sq_v rfl (v_len Try.underlying25 rfl r.sl) rfl (sq_v rfl (v_move rfl) rfl (sq_end (qs_n (wp_bl ?_)))))))))))))))))); refine wp_lp (σ := Nat × Value × PH) (fun z_ => [(1, num x), (4, .slice none 0 0), (5, z_.2.1), (8, v), (9, num ls.length), (10, num z_.1)]) (fun z_ => [z_.2.2, hp w]) (fun z_ => z_.1 ≤ ls.length ∧ IntsO ((ls.take z_.1).filter fun y => decide (y ≠ x)) z_.2.1 z_.2.2) (fun z_ => ls.length - z_.1) (0, .slice none 0 0, emp) (⟨by (try dsimp only); omega, IntsO.nil⟩) ⟨rfl, rfl, (by first | rfl | exact ksub rfl (by first | omega | (simp; done) | (simp; omega))), rfl, rfl, (by first | rfl | exact ksub rfl (by first | omega | (simp; done) | (simp; omega))), trivial⟩ (fun _ s => (emp_sat s)) ?_; rintro ⟨i, lv, lh⟩ ⟨hi, q⟩; dsimp only at hi q ⊢; have hle_q := q.toR.le; have hfl := filter_take_len ls (fun y => decide (y ≠ x)) i; refine wp_sc (wp_sq (sq_v rfl (v_lss rfl rfl) rfl (sq_end (qs_n (wp_sc ?_))))); refine wp_cd rfl (fun c11 => ?_) (fun c11 => ?_)
  · refine wp_sk (qs_n (wp_sc (wp_bl (wp_sc (wp_sq ?_))))); refine sq_v rfl (v_idxI Try.underlying25 ty_3 rfl rfl r (by first | omega | (simp; omega) | (simp only [List.length_append, List.length_cons, List.length_nil]; omega) | (rw [List.length_set]; omega)) (by first | omega | (simp; omega) | (simp only [List.length_append, List.length_cons, List.length_nil]; omega) | (rw [List.length_set]; omega))) rfl ?_; refine sq_v rfl (v_loadI (k := i) 1 ty_3 rfl rfl r (by first | omega | (simp; omega) | (simp only [List.length_append, List.length_cons, List.length_nil]; omega) | (rw [List.length_set]; omega))) rfl ?_; refine sq_v rfl (v_assign rfl) rfl (sq_end (qs_n (wp_sc (wp_sq (sq_v rfl (v_move rfl) rfl (sq_v rfl (v_move rfl) rfl (sq_v rfl (v_neq rfl rfl) rfl (sq_end (qs_n ?_))))))))); refine wp_cd rfl (fun c16 => ?_) (fun c16 => ?_)
    · refine wp_sq (sq_v rfl (v_move rfl) rfl (sq_v rfl (v_move rfl) rfl ?_)); refine sq_x rfl (x_buildS [num (ls.getD i 0)] Try.underlying25 ty_3 (by decide) rfl rfl rfl (by decide) (by decide) (by intro v hv; simp at hv; rcases hv with rfl <;> rfl)) rfl ?_; intro v19 h19 (r19 : IntsO [ls.getD i 0] v19 h19); refine sq_m 1 rfl rfl (m_appI 1 0 Try.underlying25 ty_3 rfl rfl rfl rfl q rfl r19.toR (by first | omega | (simp; omega) | (simp only [List.length_append, List.length_cons, List.length_nil]; omega) | (rw [List.length_set]; omega))) rfl ?_; intro v20 h_r20 r20; refine sq_v rfl (v_assign rfl) rfl (sq_end (qs_bn (qs_n (wp_sq ?_)))); refine sq_v rfl (v_add rfl rfl ((by unfold I64; omega))) rfl ?_; refine sq_v rfl (v_move rfl) rfl (sq_end ?_); exact qs_bk (i + 1, v20, h_r20) ⟨by (try dsimp only); omega, by (try dsimp only); rw [filter_yes (by omega) (decide_eq_true (by omega))]; exact r20⟩ (by simp only; omega) ⟨rfl, rfl, (by first | rfl | exact ksub rfl (by first | omega | (simp; done) | (simp; omega))), rfl, rfl, (by first | rfl | exact ksub rfl (by first | omega | (simp; done) | (simp; omega))), trivial⟩ (fun _ s => s.pick [1, 2] (by decide) rfl)
    · refine wp_sk (qs_bn (qs_n (wp_sq ?_))); refine sq_v rfl (v_add rfl rfl ((by unfold I64; omega))) rfl ?_; refine sq_v rfl (v_move rfl) rfl (sq_end ?_); exact qs_bk (i + 1, lv, lh) ⟨by (try dsimp only); omega, by (try dsimp only); rw [filter_no (by omega) (decide_eq_false (by omega))]; exact q⟩ (by simp only; omega) ⟨rfl, rfl, (by first | rfl | exact ksub rfl (by first | omega | (simp; done) | (simp; omega))), rfl, rfl, (by first | rfl | exact ksub rfl (by first | omega | (simp; done) | (simp; omega))), trivial⟩ (fun _ s => s)
  · refine wp_ex (qs_x (qs_x (qs_bx (qs_n (wp_sc (wp_sq (sq_v rfl (v_move rfl) rfl (sq_v rfl (v_assign rfl) rfl (sq_end (qs_n (wp_rt ?_))))))))))); exact qs_ret1 rfl rfl (fin_t 0 (i := 1) rfl rfl rfl (by rw [List.take_of_length_le (by omega)] at q; exact q))
end Go.Proofs.Ythlmjnihihbckaa
namespace Go.Proofs.Ythlmjnihihbckaa
set_option maxRecDepth 100000
open Go.RowKit
def eliP (k p n : Int) (ts : List Ten) (op ls : List Int) : Prop := netL k p n ts op ∧ setL (closedL ts op) ls
open Classical in
noncomputable def eliB (k p n : Int) (ts : List Ten) (op ls : List Int) : Bool := decide (eliP k p n ts op ls)
section
variable {k p n : Int} {ts : List Ten} {op ls : List Int}
theorem eliB_true : eliB k p n ts op ls = true ↔ eliP k p n ts op ls := by simp [eliB]
theorem eliB_false : eliB k p n ts op ls = false ↔ ¬ eliP k p n ts op ls := by simp [eliB]
theorem eli_facts (h : eliP k p n ts op ls) : ls.Nodup ∧ (∀ x ∈ ls, ∃ t ∈ ts, x ∈ t.l) ∧ (∀ x ∈ op, x ∉ ls) ∧ ls.length ≤ 100 := by
  have hm : ∀ x ∈ ls, x ∈ closedL ts op := fun x hx => by
    obtain ⟨i, hi, e⟩ := getD_of_mem hx; rw [← e]; exact (h.2.2 i hi).1
  have hn : ls.Nodup := by
    rw [List.Nodup, List.pairwise_iff_getElem]; intro i j hi hj hij e; refine (h.2.2 j hj).2 ?_; simp only [List.getD, List.getElem?_eq_getElem hj, Option.getD_some]; rw [← e]; exact List.mem_iff_getElem.2 ⟨i, by simp; omega, by simp⟩
  refine ⟨hn, fun x hx => dimOf_mem (by have := (closed_mem (hm x hx)).2; omega), fun x hx hl => ?_, few_labels hn fun x hx => (closed_mem (hm x hx)).1⟩; have := (List.mem_filter.1 (hm x hl)).2; simp only [decide_eq_true_eq] at this; exact this hx
end
/-- A slice of rows of which nothing is wanted by itself. -/
structure Row0 : Prop where
theorem Row0.at (_ : Row0) : ∃ _ _ : Unit, True := ⟨(), (), trivial⟩
theorem ct_s_EliminationOk (k p n : Int) (ts : List Ten) (op ls : List Int) (vt vo v : Value) (w : World) (r : TensR ts vt (hp w)) (r' : IntsR op vo (hp w)) (rl : IntsR ls v (hp w)) (hs : op.length ≤ 1048576) :
    Calls Try.prog 72 [netV k p n vt vo, v].toArray w (RetV w (.bool (eliB k p n ts op ls))) := by
  refine calls_in Try.func72 rfl Try.ntmps72 rfl (Sat.start w) ?_; have hle0 := r.le; obtain ⟨cs_r, rr_r, hc_r⟩ := r.at; have hle1 := r'.le; have hle2 := rl.le; refine wp_sc (wp_sq ?_); refine sq_x rfl (x_box rfl rfl) rfl ?_; rintro _ _ ⟨b2, rfl, rfl⟩; refine sq_v rfl (v_assign rfl) rfl (sq_end (qs_n (wp_sc (wp_sq (sq_v rfl (v_loadNB 0 ty_39 rfl rfl rfl rfl) rfl (sq_u rfl (x_callv rfl en_87 (fun w s => ct_s_NetworkOk _ _ _ _ _ _ _ w (r.mono (s.get 1 rfl)) (r'.mono (s.get 1 rfl)) (by first | assumption | omega))) rfl ?_)))))); refine sq_bb 6 rfl (fun c6 => ?_) (fun c6 => ?_)
  · refine sq_v rfl (v_move rfl) rfl ?_; have hnet := netB_true.1 c6; have hax := net_axes hnet; have haok : ∀ t ∈ ts, AxOK t := (fun t ht => axes_ok (hax t ht))
    refine sq_v rfl (v_loadNB 0 ty_39 rfl rfl rfl rfl) rfl ?_; refine sq_x rfl (x_call rfl en_120 (fun w s => ct_s_l21Closed _ _ _ _ _ _ _ w (r.mono (s.get 1 rfl)) (r'.mono (s.get 1 rfl)) (by first | assumption | omega))) rfl ?_; rintro v9 h9 r9; refine sq_v rfl (v_move rfl) rfl (sq_u rfl (x_callv rfl en_119 (fun w s => ct_s_l06Set _ _ _ _ w (r9.toR.mono (s.get 0 rfl)) (rl.mono (s.get 2 rfl)))) rfl (sq_v rfl (v_pickt rfl rfl) rfl (sq_v rfl (v_assign rfl) rfl (sq_end (qs_n (wp_rt ?_)))))); exact qs_ret1 rfl rfl (fin_q (i := 2) rfl (by congr 1; rw [Bool.eq_iff_iff, eliB_true, setB_true]; exact ⟨fun h => ⟨hnet, h⟩, fun h => h.2⟩))
  · refine sq_v rfl (v_move rfl) rfl (sq_s rfl rfl (sq_s rfl rfl (sq_s rfl rfl (sq_s rfl rfl (sq_v rfl (v_pickf rfl rfl) rfl (sq_v rfl (v_assign rfl) rfl (sq_end (qs_n (wp_rt ?_))))))))); exact qs_ret1 rfl rfl (fin_q (i := 1) rfl (by congr 1; exact (eliB_false.2 (fun h => netB_false.1 c6 h.1)).symm))
theorem ct_i_EliminationOk (k p n : Int) (ts : List Ten) (op ls : List Int) (vt vo v : Value) (w : World) (r : TensR ts vt (hp w)) (r' : IntsR op vo (hp w)) (rl : IntsR ls v (hp w)) (hs : op.length ≤ 1048576) :
    Calls Try.prog 78 [netV k p n vt vo, v].toArray w (RetV w (.bool (eliB k p n ts op ls))) := by
  refine calls_in Try.func78 rfl Try.ntmps78 rfl (Sat.start w) ?_; have hle0 := r.le; obtain ⟨cs_r, rr_r, hc_r⟩ := r.at; have hle1 := r'.le; have hle2 := rl.le; refine wp_sc (wp_sq ?_); refine sq_x rfl (x_box rfl rfl) rfl ?_; rintro _ _ ⟨b2, rfl, rfl⟩; refine sq_v rfl (v_assign rfl) rfl (sq_end (qs_n (wp_sc (wp_sq (sq_v rfl (v_loadNB 0 ty_39 rfl rfl rfl rfl) rfl (sq_u rfl (x_callv rfl en_91 (fun w s => ct_i_NetworkOk _ _ _ _ _ _ _ w (r.mono (s.get 1 rfl)) (r'.mono (s.get 1 rfl)) (by first | assumption | omega))) rfl ?_)))))); refine sq_bb 6 rfl (fun c6 => ?_) (fun c6 => ?_)
  · refine sq_v rfl (v_move rfl) rfl ?_; have hnet := netB_true.1 c6; have hax := net_axes hnet; have haok : ∀ t ∈ ts, AxOK t := (fun t ht => axes_ok (hax t ht))
    refine sq_v rfl (v_loadNB 0 ty_39 rfl rfl rfl rfl) rfl ?_; refine sq_x rfl (x_call rfl en_122 (fun w s => ct_i_ClosedLabels _ _ _ _ _ _ _ w (r.mono (s.get 1 rfl)) (r'.mono (s.get 1 rfl)) (by first | assumption | omega) (by first | assumption | omega))) rfl ?_; rintro v9 h9 r9; refine sq_v rfl (v_move rfl) rfl (sq_u rfl (x_callv rfl en_121 (fun w s => ct_i_sameLabels _ _ _ _ w (r9.toR.mono (s.get 0 rfl)) (rl.mono (s.get 2 rfl)))) rfl (sq_v rfl (v_pickt rfl rfl) rfl (sq_v rfl (v_assign rfl) rfl (sq_end (qs_n (wp_rt ?_)))))); exact qs_ret1 rfl rfl (fin_q (i := 2) rfl (by congr 1; rw [Bool.eq_iff_iff, eliB_true, setB_true]; exact ⟨fun h => ⟨hnet, h⟩, fun h => h.2⟩))
  · refine sq_v rfl (v_move rfl) rfl (sq_s rfl rfl (sq_s rfl rfl (sq_s rfl rfl (sq_s rfl rfl (sq_v rfl (v_pickf rfl rfl) rfl (sq_v rfl (v_assign rfl) rfl (sq_end (qs_n (wp_rt ?_))))))))); exact qs_ret1 rfl rfl (fin_q (i := 1) rfl (by congr 1; exact (eliB_false.2 (fun h => netB_false.1 c6 h.1)).symm))
theorem ct_s_l21Without (ls : List Int) (x : Int) (v : Value) (w : World) (r : IntsR ls v (hp w)) (hs : ls.length ≤ 1048576) :
    Calls Try.prog 76 [v, num x].toArray w (Ret w emp (IntsO (ls.filter fun y => decide (y ≠ x)))) := by
  refine calls_in Try.func76 rfl Try.ntmps76 rfl (Sat.start w) ?_; have hle0 := r.le; refine wp_sc (wp_sq (sq_v rfl (v_assign rfl) rfl (sq_end (qs_n (wp_sc (wp_sq ?_)))))); refine sq_x rfl (x_build0 Try.underlying25 ty_3) rfl ?_; intro v8 h8 (r8 : IntsO [] v8 h8); refine sq_v rfl (v_assign rfl) rfl (sq_end (qs_n (wp_sc (wp_sc (wp_sq (sq_v rfl (v_move rfl) rfl (sq_v rfl (v_len Try.underlying25 rfl r.sl) rfl (sq_v rfl (v_move rfl) rfl (sq_end (qs_n (wp_bl ?_))))))))))); refine wp_lp (σ := Nat × Value × PH) (fun z_ => [(1, num x), (4, .slice none 0 0), (5, z_.2.1), (9, v), (10, num ls.length), (11, num z_.1)]) (fun z_ => [z_.2.2, hp w]) (fun z_ => z_.1 ≤ ls.length ∧ IntsO ((ls.take z_.1).filter fun y => decide (y ≠ x)) z_.2.1 z_.2.2) (fun z_ => ls.length - z_.1) (0, v8, h8) (⟨by (try dsimp only); omega, r8⟩) ⟨rfl, rfl, (by first | rfl | exact ksub rfl (by first | omega | (simp; done) | (simp; omega))), rfl, rfl, (by first | rfl | exact ksub rfl (by first | omega | (simp; done) | (simp; omega))), trivial⟩ (fun _ s => s) ?_; rintro ⟨i, lv, lh⟩ ⟨hi, q⟩; dsimp only at hi q ⊢; have hle_q := q.toR.le; have hfl := filter_take_len ls (fun y => decide (y ≠ x)) i; refine wp_sc (wp_sq (sq_v rfl (v_lss rfl rfl) rfl (sq_end (qs_n (wp_sc ?_))))); refine wp_cd rfl (fun c12 => ?_) (fun c12 => ?_)
  · refine wp_sk (qs_n (wp_sc (wp_bl (wp_sc (wp_sq ?_))))); refine sq_v rfl (v_idxI Try.underlying25 ty_3 rfl rfl r (by first | omega | (simp; omega) | (simp only [List.length_append, List.length_cons, List.length_nil]; omega) | (rw [List.length_set]; omega)) (by first | omega | (simp; omega) | (simp only [List.length_append, List.length_cons, List.length_nil]; omega) | (rw [List.length_set]; omega))) rfl ?_; refine sq_v rfl (v_loadI (k := i) 1 ty_3 rfl rfl r (by first | omega | (simp; omega) | (simp only [List.length_append, List.length_cons, List.length_nil]; omega) | (rw [List.length_set]; omega))) rfl ?_; refine sq_v rfl (v_assign rfl) rfl (sq_end (qs_n (wp_sc (wp_sq (sq_v rfl (v_move rfl) rfl (sq_v rfl (v_move rfl) rfl (sq_v rfl (v_neq rfl rfl) rfl (sq_end (qs_n ?_))))))))); refine wp_cd rfl (fun c17 => ?_) (fun c17 => ?_)
    · refine wp_sq (sq_v rfl (v_move rfl) rfl (sq_v rfl (v_move rfl) rfl ?_)); refine sq_x rfl (x_buildS [num (ls.getD i 0)] Try.underlying25 ty_3 (by decide) rfl rfl rfl (by decide) (by decide) (by intro v hv; simp at hv; rcases hv with rfl <;> rfl)) rfl ?_; intro v20 h20 (r20 : IntsO [ls.getD i 0] v20 h20); refine sq_m 1 rfl rfl (m_appI 1 0 Try.underlying25 ty_3 rfl rfl rfl rfl q rfl r20.toR (by first | omega | (simp; omega) | (simp only [List.length_append, List.length_cons, List.length_nil]; omega) | (rw [List.length_set]; omega))) rfl ?_; intro v21 h_r21 r21; refine sq_v rfl (v_assign rfl) rfl (sq_end (qs_bn (qs_n (wp_sq ?_)))); refine sq_v rfl (v_add rfl rfl ((by unfold I64; omega))) rfl ?_; refine sq_v rfl (v_move rfl) rfl (sq_end ?_); exact qs_bk (i + 1, v21, h_r21) ⟨by (try dsimp only); omega, by (try dsimp only); rw [filter_yes (by omega) (by simpa using c17)]; exact r21⟩ (by simp only; omega) ⟨rfl, rfl, (by first | rfl | exact ksub rfl (by first | omega | (simp; done) | (simp; omega))), rfl, rfl, (by first | rfl | exact ksub rfl (by first | omega | (simp; done) | (simp; omega))), trivial⟩ (fun _ s => s.pick [1, 2] (by decide) rfl)
    · refine wp_sk (qs_bn (qs_n (wp_sq ?_))); refine sq_v rfl (v_add rfl rfl ((by unfold I64; omega))) rfl ?_; refine sq_v rfl (v_move rfl) rfl (sq_end ?_); exact qs_bk (i + 1, lv, lh) ⟨by (try dsimp only); omega, by (try dsimp only); rw [filter_no (by omega) (by simpa using c17)]; exact q⟩ (by simp only; omega) ⟨rfl, rfl, (by first | rfl | exact ksub rfl (by first | omega | (simp; done) | (simp; omega))), rfl, rfl, (by first | rfl | exact ksub rfl (by first | omega | (simp; done) | (simp; omega))), trivial⟩ (fun _ s => s)
  · refine wp_ex (qs_x (qs_x (qs_bx (qs_n (wp_sc (wp_sq (sq_v rfl (v_move rfl) rfl (sq_v rfl (v_assign rfl) rfl (sq_end (qs_n (wp_rt ?_))))))))))); exact qs_ret1 rfl rfl (fin_t 0 (i := 1) rfl rfl rfl (by rw [List.take_of_length_le (by omega)] at q; exact q))
theorem TensL.append {a b : List Ten} {ca cb : List Value} {h : PH} (ra : TensL a ca h) (rb : TensL b cb h) : TensL (a ++ b) (ca ++ cb) h := by
  refine ⟨by rw [List.length_append, List.length_append, ra.1, rb.1]; omega, fun i t e => ?_⟩
  by_cases hi : i < a.length
  · rw [List.getElem?_append_left hi] at e; have := ra.2 i t e; have e2 : ((ca ++ cb).drop (i * 3)).take 3 = (ca.drop (i * 3)).take 3 := by
      rw [List.drop_append, List.take_append]; have hl : 3 - (ca.drop (i * 3)).length = 0 := by rw [List.length_drop, ra.1]; omega
      rw [hl, List.take_zero, List.append_nil]
    rw [e2]; exact this
  · rw [List.getElem?_append_right (by omega)] at e; have := rb.2 _ t e; have e2 : ((ca ++ cb).drop (i * 3)).take 3 = (cb.drop ((i - a.length) * 3)).take 3 := by
      rw [List.drop_append, List.drop_of_length_le (by rw [ra.1]; omega), List.nil_append, ra.1, show i * 3 - a.length * 3 = (i - a.length) * 3 by omega]
    rw [e2]; exact this
end Go.Proofs.Ythlmjnihihbckaa
namespace Go.Proofs.Ythlmjnihihbckaa
set_option maxRecDepth 100000
open Go.RowKit
def bktL (LL : List (List Int)) (x : Int) : List Int := LL.foldl (fun a l => if x ∈ l then joinI a l else a) []
def rstL (LL : List (List Int)) (x : Int) : List (List Int) := LL.filter fun l => decide (x ∉ l)
def nxtL (LL : List (List Int)) (x : Int) : List (List Int) := rstL LL x ++ [(bktL LL x).filter fun y => decide (y ≠ x)]
theorem bkt_step {LL : List (List Int)} {x : Int} {i : Nat} {l : List Int} (h : LL[i]? = some l) : bktL (LL.take (i + 1)) x = if x ∈ l then joinI (bktL (LL.take i) x) l else bktL (LL.take i) x := by
  unfold bktL
  rw [take_ll h, List.foldl_append]
  rfl
theorem rst_step {LL : List (List Int)} {x : Int} {i : Nat} {l : List Int} (h : LL[i]? = some l) : rstL (LL.take (i + 1)) x = if x ∈ l then rstL (LL.take i) x else rstL (LL.take i) x ++ [l] := by
  unfold rstL
  rw [take_ll h, List.filter_append]
  by_cases c : x ∈ l
  · simp [c]
  · simp [c]
def okL (l : List Int) : Prop := l.Nodup ∧ ∀ y ∈ l, 0 ≤ y ∧ y ≤ 99
theorem okL.few {l : List Int} (h : okL l) : l.length ≤ 100 := few_labels h.1 h.2
theorem okL.nil : okL [] := ⟨List.nodup_nil, fun y h => (List.not_mem_nil h).elim⟩
theorem okL.join {a b : List Int} (ha : okL a) (hb : okL b) : okL (joinI a b) := ⟨joinI_nodup ha.1 hb.1, fun y hy => (mem_joinI.1 hy).elim (ha.2 y) (hb.2 y)⟩
theorem okL.flt {a : List Int} (q : Int → Bool) (ha : okL a) : okL (a.filter q) := ⟨ha.1.filter q, fun y hy => ha.2 y (List.mem_filter.1 hy).1⟩
theorem bkt_ok {x : Int} : ∀ {LL : List (List Int)} {a : List Int}, okL a → (∀ l ∈ LL, okL l) → okL (LL.foldl (fun a l => if x ∈ l then joinI a l else a) a)
  | [], _, ha, _ => ha
  | l :: r, a, ha, h => by
    rw [List.foldl_cons]; refine bkt_ok ?_ fun l hl => h l (List.mem_cons_of_mem _ hl)
    split
    · exact ha.join (h l (by simp))
    · exact ha
theorem bktL_ok {LL : List (List Int)} {x : Int} (h : ∀ l ∈ LL, okL l) : okL (bktL LL x) := bkt_ok okL.nil h
theorem bktL_ok' {LL : List (List Int)} {x : Int} (h : ∀ l ∈ LL, okL l) (i : Nat) : okL (bktL (LL.take i) x) := bkt_ok okL.nil fun l hl => h l (List.mem_of_mem_take hl)
theorem nxtL_ok {LL : List (List Int)} {x : Int} (h : ∀ l ∈ LL, okL l) : ∀ l ∈ nxtL LL x, okL l := fun l hl => by
  rcases List.mem_append.1 hl with hl | hl
  · exact h l (List.mem_filter.1 hl).1
  · rw [List.mem_singleton.1 hl]; exact (bktL_ok h).flt _
theorem nxtL_len {LL : List (List Int)} {x : Int} : (nxtL LL x).length ≤ LL.length + 1 := by
  unfold nxtL rstL
  have := List.length_filter_le (fun l : List Int => decide (x ∉ l)) LL; simp only [List.length_append, List.length_cons, List.length_nil]
  omega
def llsL (ts : List Ten) (ls : List Int) : Nat → List (List Int)
  | 0 => ts.map (·.l)
  | i + 1 => nxtL (llsL ts ls i) (ls.getD i 0)
def bukL (ts : List Ten) (ls : List Int) (i : Nat) : List Int := isort (bktL (llsL ts ls i) (ls.getD i 0)) (bktL (llsL ts ls i) (ls.getD i 0)).length
def bksL (ts : List Ten) (ls : List Int) (i : Nat) : List (List Int) := (List.range i).map (bukL ts ls)
def parD (bag ls : List Int) : Nat → Int
  | 0 => 0
  | d + 1 => if ls.getD (ls.length - 1 - d) 0 ∈ bag then d + 1 else parD bag ls d
def prL (ts : List Ten) (ls : List Int) (i : Nat) : Int := parD (bukL ts ls i) ls (ls.length - 1 - i)
def prsL (ts : List Ten) (ls : List Int) (i : Nat) : List Int := (List.range i).map (prL ts ls)
theorem bks_succ (ts : List Ten) (ls : List Int) (i : Nat) : bksL ts ls (i + 1) = bksL ts ls i ++ [bukL ts ls i] := by simp [bksL, List.range_succ]
theorem prs_succ (ts : List Ten) (ls : List Int) (i : Nat) : prsL ts ls (i + 1) = prsL ts ls i ++ [prL ts ls i] := by simp [prsL, List.range_succ]
theorem bks_len (ts : List Ten) (ls : List Int) (i : Nat) : (bksL ts ls i).length = i := by simp [bksL]
theorem prs_len (ts : List Ten) (ls : List Int) (i : Nat) : (prsL ts ls i).length = i := by simp [prsL]
theorem bks_get {ts : List Ten} {ls : List Int} {n i : Nat} (h : i < n) : (bksL ts ls n)[i]? = some (bukL ts ls i) := by simp [bksL, h]
theorem prs_get {ts : List Ten} {ls : List Int} {n i : Nat} (h : i < n) : (prsL ts ls n)[i]? = some (prL ts ls i) := by simp [prsL, h]
theorem lls_ok {ts : List Ten} {ls : List Int} (h : ∀ t ∈ ts, okL t.l) : ∀ i, ∀ l ∈ llsL ts ls i, okL l
  | 0, l, hl => by obtain ⟨t, ht, rfl⟩ := List.mem_map.1 hl; exact h t ht
  | i + 1, l, hl => nxtL_ok (lls_ok h i) l hl
theorem lls_len {ts : List Ten} {ls : List Int} : ∀ i, (llsL ts ls i).length ≤ ts.length + i
  | 0 => by simp [llsL]
  | i + 1 => by have h1 := lls_len (ts := ts) (ls := ls) i; have h2 := nxtL_len (LL := llsL ts ls i) (x := ls.getD i 0); rw [llsL]; omega
theorem bk_few {ts : List Ten} {ls : List Int} (h : ∀ t ∈ ts, okL t.l) (i : Nat) : (bukL ts ls i).length ≤ 100 := by rw [bukL, isort_len]; exact (bktL_ok (lls_ok h i)).few
theorem net_okL {k p n : Int} {ts : List Ten} {op : List Int} (h : netL k p n ts op) : ∀ t ∈ ts, okL t.l := fun t ht => by
  have := sh0_fine (net_axes h); obtain ⟨j, hj, e⟩ := List.getElem_of_mem ht; have h2 := this.2 j; have e2 : (sh0 ts).lab j = t.l := by simp [sh0, Sh.lab, List.getD, hj, e]
  rw [e2] at h2; exact h2
def dofB (ts : List Ten) (op ls : List Int) : List (List Int) := isort op op.length :: (bksL ts ls ls.length).reverse
def dofP (ts : List Ten) (ls : List Int) : List Int := -1 :: (prsL ts ls ls.length).reverse
theorem rev_drop {α : Type} {X : List α} {c : Nat} {a : α} (hc : c < X.length) (h : X[X.length - 1 - c]? = some a) : (X.drop (X.length - (c + 1))).reverse = (X.drop (X.length - c)).reverse ++ [a] := by
  have hl : X.length - 1 - c < X.length := by omega
  have e : X[X.length - 1 - c] = a := (List.getElem?_eq_some_iff.1 h).2; rw [show X.length - (c + 1) = X.length - 1 - c by omega, List.drop_eq_getElem_cons hl, List.reverse_cons, e, show X.length - 1 - c + 1 = X.length - c by omega]
def DofB (bs : List (List Int)) (ps : List Int) (b : Bool) (u : Value) (h : PH) : Prop := ∃ v1 v2, u = .tuple [decV v1 v2, .bool b].toArray ∧ DecO bs ps v1 v2 h
open Classical in
noncomputable def dofBb (k p n : Int) (ts : List Ten) (op ls : List Int) : List (List Int) := if eliB k p n ts op ls = true then dofB ts op ls else []
open Classical in
noncomputable def dofPp (k p n : Int) (ts : List Ten) (op ls : List Int) : List Int := if eliB k p n ts op ls = true then dofP ts ls else []
theorem LLO.none : LLO [] (.slice none 0 0) emp := ⟨[], emp, [], RowO.nil, OwnL.nil, ⟨⟨fun x hx => (List.not_mem_nil hx).elim, trivial⟩, fun x hx => by rw [List.mem_singleton.1 hx]; exact PLe.refl _, fun k o e => by cases e⟩⟩
theorem DofNo {k p n : Int} {ts : List Ten} {op ls : List Int} (h : eliB k p n ts op ls = false) : DofB (dofBb k p n ts op ls) (dofPp k p n ts op ls) (eliB k p n ts op ls) (.tuple [decV (.slice none 0 0) (.slice none 0 0), .bool false].toArray) emp := by
  unfold dofBb dofPp
  rw [h]; refine ⟨_, _, rfl, emp, emp, LLO.none, IntsO.nil, ⟨⟨fun x hx => PDj.emp _, ⟨fun x hx => (List.not_mem_nil hx).elim, trivial⟩⟩, fun x hx => ?_, fun k o e => by cases e⟩⟩
  rcases List.mem_cons.1 hx with rfl | hx
  · exact PLe.refl _
  · rw [List.mem_singleton.1 hx]; exact PLe.refl _
theorem DofYes {k p n : Int} {ts : List Ten} {op ls : List Int} {v1 v2 : Value} {h : PH} (he : eliB k p n ts op ls = true) (r : DecO (dofB ts op ls) (dofP ts ls) v1 v2 h) : DofB (dofBb k p n ts op ls) (dofPp k p n ts op ls) (eliB k p n ts op ls) (.tuple [decV v1 v2, .bool true].toArray) h := by
  unfold dofBb dofPp
  rw [if_pos he, if_pos he, he]; exact ⟨v1, v2, rfl, r⟩
structure LLF (LL : List (List Int)) (cs : List Value) (h : PH) : Prop where
  len : cs.length = LL.length
  at_ : ∀ (i : Nat) (l : List Int), LL[i]? = some l → ∃ v, cs[i]? = some v ∧ IntsR l v h
theorem LLF.nil (h : PH) : LLF [] [] h := ⟨rfl, fun i l e => by simp at e⟩
theorem LLF.mono {LL : List (List Int)} {cs : List Value} {h h' : PH} (r : LLF LL cs h) (q : PLe h h') : LLF LL cs h' := ⟨r.len, fun i l e => let ⟨v, e1, r1⟩ := r.at_ i l e; ⟨v, e1, r1.mono q⟩⟩
theorem LLF.snoc {LL : List (List Int)} {cs : List Value} {h : PH} {l : List Int} {v : Value} (r : LLF LL cs h) (q : IntsR l v h) : LLF (LL ++ [l]) (cs ++ [v]) h := by
  have hl := r.len; refine ⟨by simp [hl], fun i x e => ?_⟩
  by_cases hi : i < LL.length
  · rw [List.getElem?_append_left hi] at e; obtain ⟨u, e1, r1⟩ := r.at_ i x e; exact ⟨u, by rw [List.getElem?_append_left (by omega)]; exact e1, r1⟩
  · rw [List.getElem?_append_right (by omega)] at e; have h0 : i - LL.length = 0 := by
      rcases Nat.eq_zero_or_pos (i - LL.length) with h | h
      · exact h
      · rw [List.getElem?_eq_none (by simp; omega)] at e; cases e
    rw [h0] at e
    cases e
    exact ⟨v, by rw [List.getElem?_append_right (by omega), hl, h0]; rfl, q⟩
theorem LLF.hc {LL : List (List Int)} {cs : List Value} {h : PH} (r : LLF LL cs h) : ∀ i, i < LL.length → ∃ l a, LL[i]? = some l ∧ (cs.drop (i * 1)).take 1 = [a] ∧ IntsR l a h := fun i hi => by
  have ht : LL[i]? = some LL[i] := List.getElem?_eq_getElem hi; obtain ⟨a, e, q⟩ := r.at_ i _ ht; refine ⟨_, a, ht, ?_, q⟩; have hlt : i < cs.length := by rw [r.len]; exact hi
  rw [List.getElem?_eq_getElem hlt] at e
  cases e
  rw [Nat.mul_one, List.drop_eq_getElem_cons hlt]
  rfl
theorem LLF.toR {LL : List (List Int)} {cs : List Value} {v : Value} {h : PH} (r : LLF LL cs h) (rr : RowR cs LL.length 1 v h) : LLR LL v h := by
  refine ⟨cs, rr, fun i x hx => ?_⟩; obtain ⟨l, a, e1, e2, q⟩ := r.hc i (List.getElem?_eq_some_iff.1 hx).1; rw [hx] at e1
  cases e1
  exact ⟨a, e2, q⟩
theorem OwnL.rev {xss : List (List Int)} {vs : List Value} {hs : List PH} (r : OwnL xss vs hs) : OwnL xss.reverse vs.reverse hs.reverse := by
  have h1 := r.l1; have h2 := r.l2; refine ⟨by simp [h1], by simp [h2], fun i xs e => ?_⟩; have hi : i < xss.length := by have := (List.getElem?_eq_some_iff.1 e).1; simpa using this
  rw [List.getElem?_reverse hi] at e; obtain ⟨v, h, e1, e2, q⟩ := r.own _ xs e; exact ⟨v, h, by rw [List.getElem?_reverse (by omega), h1]; exact e1, by rw [List.getElem?_reverse (by omega), h2]; exact e2, q⟩
theorem sepL_rev {l : List PH} (h : sepL l) : sepL l.reverse := sepL_of fun i j a b hi hj hij => by
  have hil : i < l.length := by have := (List.getElem?_eq_some_iff.1 hi).1; simpa using this
  have hjl : j < l.length := by have := (List.getElem?_eq_some_iff.1 hj).1; simpa using this
  rw [List.getElem?_reverse hil] at hi; rw [List.getElem?_reverse hjl] at hj; exact (sepL_get h hi hj (by omega))
theorem OwnH.rev {xss : List (List Int)} {vs : List Value} {h : PH} (r : OwnH xss vs h) : OwnH xss.reverse vs.reverse h := by
  obtain ⟨l, o, m⟩ := r; exact ⟨l.reverse, o.rev, ⟨sepL_rev m.sep, fun x hx => m.le x (List.mem_reverse.1 hx), fun k o e => by obtain ⟨x, hx, hxe⟩ := m.dom k o e; exact ⟨x, List.mem_reverse.2 hx, hxe⟩⟩⟩
theorem OwnH.cons {xss : List (List Int)} {xs : List Int} {vs : List Value} {v : Value} {h h' : PH} (o : OwnH xss vs h) (r : IntsO xs v h') (hd : PDj h' h) : OwnH (xs :: xss) (v :: vs) (PUn h' h) := by
  obtain ⟨l, ol, m⟩ := o; exact ⟨h' :: l, (OwnL.uno r).append ol, (Made.one h').un m hd⟩
theorem OwnH.llf {xss : List (List Int)} {vs : List Value} {h : PH} (o : OwnH xss vs h) : LLF xss vs h := by
  obtain ⟨l, ol, m⟩ := o; refine ⟨ol.l1, fun i x e => ?_⟩; obtain ⟨v, g, e1, e2, q⟩ := ol.own i x e; exact ⟨v, e1, q.toR.mono (m.le g (List.mem_of_getElem? e2))⟩
end Go.Proofs.Ythlmjnihihbckaa
namespace Go.Proofs.Ythlmjnihihbckaa
set_option maxRecDepth 100000
open Go.RowKit
theorem nd_take {b : List Int} (hb : b.Nodup) {j : Nat} (hj : j < b.length) : b.getD j 0 ∉ b.take j := fun h => by
  rw [List.Nodup, List.pairwise_iff_getElem] at hb; obtain ⟨i, hi, e⟩ := List.getElem_of_mem h; have hi2 : i < j ∧ i < b.length := by rw [List.length_take] at hi; omega
  have := hb i j hi2.2 hj hi2.1; rw [List.getElem_take] at e; exact this (by rw [e]; simp [List.getD, hj])
theorem joinT_yes {a b : List Int} {j : Nat} (hj : j < b.length) (h : b.getD j 0 ∉ joinI a (b.take j)) : joinI a (b.take (j + 1)) = joinI a (b.take j) ++ [b.getD j 0] := by
  have h2 : b.getD j 0 ∉ a := fun h3 => h (mem_joinI.2 (.inl h3))
  unfold joinI
  rw [filter_yes hj (by simpa using h2), List.append_assoc]
theorem joinT_no {a b : List Int} (hb : b.Nodup) {j : Nat} (hj : j < b.length) (h : b.getD j 0 ∈ joinI a (b.take j)) : joinI a (b.take (j + 1)) = joinI a (b.take j) := by
  have h2 : b.getD j 0 ∈ a := (mem_joinI.1 h).elim id fun h3 => absurd h3 (nd_take hb hj)
  unfold joinI
  rw [filter_no hj (by simpa using h2)]
/-- The arguments' part with fresh ones beside it. -/
def UnW (w : World) (H : PH) : Prop := ∃ hl, PDj hl (hp w) ∧ H = PUn hl (hp w)
theorem UnW.start (w : World) : UnW w (hp w) := ⟨emp, PDj.emp _, rfl⟩
theorem UnW.le {w : World} {H : PH} (h : UnW w H) : PLe (hp w) H := by obtain ⟨hl, d, rfl⟩ := h; exact PLe.un_r d
theorem UnW.add {w : World} {H g : PH} (h : UnW w H) (d : PDj g H) : UnW w (PUn g H) := by
  obtain ⟨hl, d1, rfl⟩ := h; refine ⟨PUn g hl, PDj.un (d.symm.mono (PLe.un_r d1)).symm d1, ?_⟩
  funext k
  unfold PUn
  cases g k <;> rfl
theorem ct_s_l21Lists (k p n : Int) (ts : List Ten) (op : List Int) (vt vo : Value) (w : World) (q : PH) (lq : PLe q (hp w)) (rq : TensR ts vt q) (hts : ts.length ≤ 1000) :
    Calls Try.prog 73 [netV k p n vt vo].toArray w (Ret w emp (fun u h' => ∃ cs, RowO 25 cs ts.length 1 u h' ∧ LLF (ts.map (·.l)) cs q)) := by
  obtain ⟨csq, rrq, hcq⟩ := rq.at; refine calls_in Try.func73 rfl Try.ntmps73 rfl (Sat.start w) (wp_sc (wp_sq ?_)); refine sq_x rfl (x_box rfl rfl) rfl ?_; rintro _ _ ⟨b1, rfl, rfl⟩; refine sq_v rfl (v_assign rfl) rfl (sq_end (qs_n (wp_sc (wp_sq ?_)))); refine sq_x rfl (x_build0 Try.underlying55 ty_25) rfl ?_; intro v6 h6 r6; refine sq_v rfl (v_assign rfl) rfl (sq_end (qs_n (wp_sc (wp_sc (wp_sq (sq_v rfl (v_fieldAddr fd_39_1 ty_37 (by decide) rfl) rfl (sq_v rfl (v_loadB 1 ty_37 rfl rfl rfl) rfl (sq_v rfl (v_len Try.underlying37 rfl (rq.mono lq).sl) rfl (sq_v rfl (v_move rfl) rfl (sq_end (qs_n (wp_bl ?_)))))))))))); refine wp_lp (σ := Nat × Value × PH × (List Value)) (fun z_ => [(2, .slice none 0 0), (3, z_.2.1), (8, vt), (9, num ts.length), (10, num z_.1)]) (fun z_ => [z_.2.2.1, box b1 [num k, num p, num n, vt, vo] 39, hp w]) (fun z_ => z_.1 ≤ ts.length ∧ LLF ((ts.take z_.1).map (·.l)) z_.2.2.2 q ∧ RowO (25) z_.2.2.2 z_.1 1 z_.2.1 z_.2.2.1) (fun z_ => ts.length - z_.1) (0, v6, h6, []) (⟨by (try dsimp only); omega, LLF.nil _, r6⟩) ⟨rfl, (by first | rfl | exact ksub rfl (by first | omega | (simp; done) | (simp; omega))), rfl, rfl, (by first | rfl | exact ksub rfl (by first | omega | (simp; done) | (simp; omega))), trivial⟩ (fun _ s => s) ?_; rintro ⟨i, lv, lh, cs⟩ ⟨hi, hf, qr⟩; dsimp only at hi hf qr ⊢; refine wp_sc (wp_sq (sq_v rfl (v_lss rfl rfl) rfl (sq_end (qs_n (wp_sc ?_))))); refine wp_cd rfl (fun c11 => ?_) (fun c11 => ?_)
  · refine wp_sk (qs_n (wp_sc (wp_bl (wp_sc (wp_sq ?_))))); obtain ⟨t12, a12, b12, c12, ht12, hcs12, rl12, rd12, rx12⟩ := hcq (i) (by first | omega | (rw [List.length_set]; omega)); refine sq_v rfl (v_indexAddr Try.underlying37 ty_77 rfl rfl (rrq.mono lq) (by decide) (by omega) (by omega)) rfl ?_; refine sq_v rfl (v_loadNE 2 ty_77 rfl rfl (rrq.mono lq) (by have := (rrq.mono lq).1; omega) rfl hcs12) rfl ?_; refine sq_x rfl (x_alloc ty_77 rfl) rfl ?_; rintro _ _ ⟨b5, rfl, rfl⟩; refine sq_m 0 rfl rfl (m_store 0 ty_77 rfl rfl rfl rfl (by simp [rl12.sl.one, rd12.sl.one, rx12.sl.one]) rfl (Nat.le_of_ble_eq_true rfl)) rfl ?_; rintro _ _ ⟨rfl, rfl⟩; refine sq_end (qs_n (wp_sq (sq_v rfl (v_move rfl) rfl (sq_v rfl (v_fieldAddr fd_77_0 ty_25 (by decide) rfl) rfl (sq_v rfl (v_loadB 0 ty_25 rfl rfl rfl) rfl ?_))))); refine sq_x rfl (x_build1 rl12.sl Try.underlying55 ty_25 rfl) rfl ?_; intro v17 h17 r17; refine sq_m 2 rfl rfl (m_append 2 0 Try.underlying55 ty_25 rfl rfl (by decide) rfl rfl rfl qr rfl r17.toR (by simp [rl12.sl.one]) (by unfold maxLen; omega) (by omega)) rfl ?_; intro v18 h_r18 r18; refine sq_v rfl (v_assign rfl) rfl (sq_end (qs_bn (qs_n (wp_sq ?_)))); refine sq_v rfl (v_add rfl rfl ((by unfold I64; omega))) rfl ?_; refine sq_v rfl (v_move rfl) rfl (sq_end ?_); exact qs_bk (i + 1, v18, h_r18, cs ++ [a12]) ⟨by (try dsimp only); omega, by (try dsimp only); rw [take_ten ht12, List.map_append]; exact hf.snoc rl12, r18⟩ (by simp only; omega) ⟨rfl, (by first | rfl | exact ksub rfl (by first | omega | (simp; done) | (simp; omega))), rfl, rfl, (by first | rfl | exact ksub rfl (by first | omega | (simp; done) | (simp; omega))), trivial⟩ (fun _ s => s.pick [2, 3, 4] (by decide) rfl)
  · refine wp_ex (qs_x (qs_x (qs_bx (qs_n (wp_sc (wp_sq (sq_v rfl (v_move rfl) rfl (sq_v rfl (v_assign rfl) rfl (sq_end (qs_n (wp_rt ?_))))))))))); have e : i = ts.length := by omega
    subst e; rw [List.take_length] at hf; exact qs_ret1 rfl rfl (fin_t 0 (i := 2) rfl rfl rfl ⟨cs, qr, hf⟩)
set_option maxHeartbeats 1000000 in
theorem ct_s_l21Bucket (LL : List (List Int)) (cs : List Value) (v : Value) (x : Int) (w : World) (rr : RowR cs LL.length 1 v (hp w)) (hf : LLF LL cs (hp w)) (hk : ∀ l ∈ LL, okL l) (hL : LL.length ≤ 2000000) (q : PH) (hfq : LLF LL cs q) :
    Calls Try.prog 74 [v, num x].toArray w (Ret w emp (fun u h' => ∃ va vb ha hb cs', u = .tuple [va, vb].toArray ∧ IntsO (bktL LL x) va ha ∧ RowO 25 cs' (rstL LL x).length 1 vb hb ∧ LLF (rstL LL x) cs' q ∧ Made h' [ha, hb])) := by
  refine calls_in Try.func74 rfl Try.ntmps74 rfl (Sat.start w) (wp_sc (wp_sq (sq_v rfl (v_assign rfl) rfl (sq_v rfl (v_assign rfl) rfl (sq_end (qs_n (wp_sc (wp_sq ?_)))))))); refine sq_x rfl (x_build0 Try.underlying25 ty_3) rfl ?_; intro v12 h12 (r12 : IntsO [] v12 h12); refine sq_v rfl (v_assign rfl) rfl (sq_end (qs_n (wp_sc (wp_sq ?_)))); refine sq_x rfl (x_build0 Try.underlying55 ty_25) rfl ?_; intro v13 h13 r13; refine sq_v rfl (v_assign rfl) rfl (sq_end (qs_n (wp_sc (wp_sc (wp_sq (sq_v rfl (v_move rfl) rfl (sq_v rfl (v_len Try.underlying55 rfl (hf.toR rr).sl) rfl (sq_v rfl (v_move rfl) rfl (sq_end (qs_n (wp_bl ?_))))))))))); refine wp_lp (σ := Nat × Value × PH × Value × PH × (List Value)) (fun z_ => [(1, num x), (4, .slice none 0 0), (5, .slice none 0 0), (6, z_.2.1), (7, z_.2.2.2.1), (14, v), (15, num LL.length), (16, num z_.1)]) (fun z_ => [z_.2.2.1, z_.2.2.2.2.1, hp w]) (fun z_ => z_.1 ≤ LL.length ∧ LLF (rstL (LL.take z_.1) x) z_.2.2.2.2.2 q ∧ IntsO (bktL (LL.take z_.1) x) z_.2.1 z_.2.2.1 ∧ RowO (25) z_.2.2.2.2.2 (rstL (LL.take z_.1) x).length 1 z_.2.2.2.1 z_.2.2.2.2.1) (fun z_ => LL.length - z_.1) (0, v12, h12, v13, h13, []) (⟨by (try dsimp only); omega, LLF.nil _, r12, r13⟩) ⟨rfl, rfl, rfl, (by first | rfl | exact ksub rfl (by first | omega | (simp; done) | (simp; omega))), (by first | rfl | exact ksub rfl (by first | omega | (simp; done) | (simp; omega))), rfl, rfl, (by first | rfl | exact ksub rfl (by first | omega | (simp; done) | (simp; omega))), trivial⟩ (fun _ s => s.pick [1, 0, 2] (by decide) rfl) ?_; rintro ⟨i, va, ha, vb, hb, cs'⟩ ⟨hi, hfr, qa, qb⟩; dsimp only at hi hfr qa qb ⊢; have hle_qa := qa.toR.le; have hbf := (bktL_ok' (x := x) hk i).few; have hrf : (rstL (LL.take i) x).length ≤ LL.length := by have h1 := List.length_filter_le (fun l : List Int => decide (x ∉ l)) (LL.take i); rw [List.length_take] at h1; unfold rstL; omega
  refine wp_sc (wp_sq (sq_v rfl (v_lss rfl rfl) rfl (sq_end (qs_n (wp_sc ?_))))); refine wp_cd rfl (fun c17 => ?_) (fun c17 => ?_)
  · refine wp_sk (qs_n (wp_sc (wp_bl (wp_sc (wp_sq ?_))))); obtain ⟨l18, a18, hl18, hcs18, rl18⟩ := hf.hc (i) (by first | omega | (rw [List.length_set]; omega)); refine sq_v rfl (v_indexAddr Try.underlying55 ty_25 rfl rfl rr (by decide) (by omega) (by omega)) rfl (sq_v rfl (v_loadE 2 ty_25 rfl rfl rr (sub_get hcs18 (j := 0) rfl)) rfl (sq_v rfl (v_assign rfl) rfl (sq_end ?_))); have hkl := hk l18 (List.mem_of_getElem? hl18); have hkf := hkl.few; have hge := findI_ge (xs := l18) (n := x); obtain ⟨uq, huq, ruq⟩ := hfq.at_ i l18 hl18; refine qs_n (wp_sc (wp_sc (wp_sq (sq_v rfl (v_move rfl) rfl (sq_v rfl (v_move rfl) rfl (sq_u rfl (x_callv rfl en_77 (fun w s => ct_s_l05Find _ _ _ w (rl18.mono (s.get 2 rfl)))) rfl (sq_v rfl (v_lss rfl rfl) rfl (sq_end (qs_n ?_))))))))); refine wp_cd rfl (fun c23 => ?_) (fun c23 => ?_)
    · refine wp_sc (wp_sq (sq_v rfl (v_move rfl) rfl (sq_v rfl (v_move rfl) rfl ?_))); refine sq_x rfl (x_build1 rl18.sl Try.underlying55 ty_25 rfl) rfl ?_; intro v26 h26 r26; refine sq_m 2 rfl rfl (m_append 2 0 Try.underlying55 ty_25 rfl rfl (by decide) rfl rfl rfl qb rfl r26.toR (by simp [rl18.sl.one]) (by unfold maxLen; omega) (by omega)) rfl ?_; intro v27 h_r27 r27; refine sq_v rfl (v_assign rfl) rfl (sq_end (qs_n (wp_ex (qs_x (qs_bx (qs_n (wp_sq ?_))))))); refine sq_v rfl (v_add rfl rfl ((by unfold I64; omega))) rfl ?_; refine sq_v rfl (v_move rfl) rfl (sq_end ?_); have hru : IntsR l18 a18 q := by (have e1 := hcs18; have hlt : i < cs.length := (by have := hf.len; omega); rw [Nat.mul_one, List.drop_eq_getElem_cons hlt] at e1; rw [List.getElem?_eq_getElem hlt] at huq; cases huq; have e2 : [cs[i]] = [a18] := e1; injection e2 with e3; rw [← e3]; exact ruq)
      exact qs_bk (i + 1, va, ha, v27, h_r27, cs' ++ [a18]) ⟨by (try dsimp only); omega, by (try dsimp only); rw [rst_step hl18, if_neg (fun h => by have := hge.2 h; omega)]; exact hfr.snoc hru, by (try dsimp only); rw [bkt_step hl18, if_neg (fun h => by have := hge.2 h; omega)]; exact qa, by (try dsimp only); rw [rst_step hl18, if_neg (fun h => by have := hge.2 h; omega), List.length_append]; exact r27⟩ (by simp only; omega) ⟨rfl, rfl, rfl, (by first | rfl | exact ksub rfl (by first | omega | (simp; done) | (simp; omega))), (by first | rfl | exact ksub rfl (by first | omega | (simp; done) | (simp; omega))), rfl, rfl, (by first | rfl | exact ksub rfl (by first | omega | (simp; done) | (simp; omega))), trivial⟩ (fun _ s => s.pick [1, 2, 3] (by decide) rfl)
    · refine wp_sk (qs_n (wp_sc (wp_sq (sq_v rfl (v_move rfl) rfl (sq_v rfl (v_len Try.underlying25 rfl rl18.sl) rfl (sq_v rfl (v_move rfl) rfl (sq_end (qs_n (wp_bl ?_))))))))); refine wp_lp (σ := Nat × Value × PH) (fun z_ => [(1, num x), (4, .slice none 0 0), (5, .slice none 0 0), (6, z_.2.1), (7, vb), (9, a18), (14, v), (15, num LL.length), (16, num i), (17, .bool (decide ((i : Int) < LL.length))), (19, a18), (20, a18), (21, num x), (22, num (findI l18 x)), (23, .bool (decide ((findI l18 x : Int) < 0))), (28, a18), (29, num l18.length), (30, num z_.1)]) (fun z_ => [z_.2.2, hb, hp w]) (fun z_ => z_.1 ≤ l18.length ∧ IntsO (joinI (bktL (LL.take i) x) (l18.take z_.1)) z_.2.1 z_.2.2) (fun z_ => l18.length - z_.1) (0, va, ha) (⟨by (try dsimp only); omega, by (try dsimp only); simpa [joinI] using qa⟩) ⟨rfl, rfl, rfl, (by first | rfl | exact ksub rfl (by first | omega | (simp; done) | (simp; omega))), rfl, rfl, rfl, rfl, rfl, rfl, rfl, rfl, rfl, rfl, rfl, rfl, rfl, (by first | rfl | exact ksub rfl (by first | omega | (simp; done) | (simp; omega))), trivial⟩ (fun _ s => s) ?_; rintro ⟨j, va2, ha2⟩ ⟨hj, q2⟩; dsimp only at hj q2 ⊢; have hle_q2 := q2.toR.le; have hjl := joinI_len (bktL (LL.take i) x) (l18.take j); have htl : (l18.take j).length ≤ l18.length := by rw [List.length_take]; omega
      have hgj := findI_ge (xs := joinI (bktL (LL.take i) x) (l18.take j)) (n := l18.getD j 0); refine wp_sc (wp_sq (sq_v rfl (v_lss rfl rfl) rfl (sq_end (qs_n (wp_sc ?_))))); refine wp_cd rfl (fun c31 => ?_) (fun c31 => ?_)
      · refine wp_sk (qs_n (wp_sc (wp_bl (wp_sc (wp_sq ?_))))); refine sq_v rfl (v_idxI Try.underlying25 ty_3 rfl rfl rl18 (by first | omega | (simp; omega) | (simp only [List.length_append, List.length_cons, List.length_nil]; omega) | (rw [List.length_set]; omega)) (by first | omega | (simp; omega) | (simp only [List.length_append, List.length_cons, List.length_nil]; omega) | (rw [List.length_set]; omega))) rfl ?_; refine sq_v rfl (v_loadI (k := j) 2 ty_3 rfl rfl rl18 (by first | omega | (simp; omega) | (simp only [List.length_append, List.length_cons, List.length_nil]; omega) | (rw [List.length_set]; omega))) rfl ?_; refine sq_v rfl (v_assign rfl) rfl (sq_end (qs_n (wp_sc (wp_sq (sq_v rfl (v_move rfl) rfl (sq_v rfl (v_move rfl) rfl (sq_u rfl (x_callv rfl en_77 (fun w s => ct_s_l05Find _ _ _ w (q2.toR.mono (s.get 0 rfl)))) rfl (sq_v rfl (v_lss rfl rfl) rfl (sq_end (qs_n ?_)))))))))); refine wp_cd rfl (fun c37 => ?_) (fun c37 => ?_)
        · refine wp_sq (sq_v rfl (v_move rfl) rfl (sq_v rfl (v_move rfl) rfl ?_)); refine sq_x rfl (x_buildS [num (l18.getD j 0)] Try.underlying25 ty_3 (by decide) rfl rfl rfl (by decide) (by decide) (by intro v hv; simp at hv; rcases hv with rfl <;> rfl)) rfl ?_; intro v40 h40 (r40 : IntsO [l18.getD j 0] v40 h40); refine sq_m 1 rfl rfl (m_appI 1 0 Try.underlying25 ty_3 rfl rfl rfl rfl q2 rfl r40.toR (by first | omega | (simp; omega) | (simp only [List.length_append, List.length_cons, List.length_nil]; omega) | (rw [List.length_set]; omega))) rfl ?_; intro v41 h_r41 r41; refine sq_v rfl (v_assign rfl) rfl (sq_end (qs_bn (qs_n (wp_sq ?_)))); refine sq_v rfl (v_add rfl rfl ((by unfold I64; omega))) rfl ?_; refine sq_v rfl (v_move rfl) rfl (sq_end ?_); exact qs_bk (j + 1, v41, h_r41) ⟨by (try dsimp only); omega, by (try dsimp only); rw [joinT_yes (by omega) (fun h => by have := hgj.2 h; omega)]; exact r41⟩ (by simp only; omega) ⟨rfl, rfl, rfl, (by first | rfl | exact ksub rfl (by first | omega | (simp; done) | (simp; omega))), rfl, rfl, rfl, rfl, rfl, rfl, rfl, rfl, rfl, rfl, rfl, rfl, rfl, (by first | rfl | exact ksub rfl (by first | omega | (simp; done) | (simp; omega))), trivial⟩ (fun _ s => s.pick [1, 2, 3] (by decide) rfl)
        · refine wp_sk (qs_bn (qs_n (wp_sq ?_))); refine sq_v rfl (v_add rfl rfl ((by unfold I64; omega))) rfl ?_; refine sq_v rfl (v_move rfl) rfl (sq_end ?_); exact qs_bk (j + 1, va2, ha2) ⟨by (try dsimp only); omega, by (try dsimp only); rw [joinT_no hkl.1 (by omega) (hgj.1 (by omega))]; exact q2⟩ (by simp only; omega) ⟨rfl, rfl, rfl, (by first | rfl | exact ksub rfl (by first | omega | (simp; done) | (simp; omega))), rfl, rfl, rfl, rfl, rfl, rfl, rfl, rfl, rfl, rfl, rfl, rfl, rfl, (by first | rfl | exact ksub rfl (by first | omega | (simp; done) | (simp; omega))), trivial⟩ (fun _ s => s)
      · refine wp_ex (qs_x (qs_x (qs_bx (qs_bn (qs_n (wp_sq ?_)))))); refine sq_v rfl (v_add rfl rfl ((by unfold I64; omega))) rfl ?_; refine sq_v rfl (v_move rfl) rfl (sq_end ?_); exact qs_bk (i + 1, va2, ha2, vb, hb, cs') ⟨by (try dsimp only); omega, by (try dsimp only); rw [rst_step hl18, if_pos (hge.1 (by omega))]; exact hfr, by (try dsimp only); rw [bkt_step hl18, if_pos (hge.1 (by omega))]; rw [(List.take_of_length_le (by omega) : l18.take j = l18)] at q2; exact q2, by (try dsimp only); rw [rst_step hl18, if_pos (hge.1 (by omega))]; exact qb⟩ (by simp only; omega) ⟨rfl, rfl, rfl, (by first | rfl | exact ksub rfl (by first | omega | (simp; done) | (simp; omega))), (by first | rfl | exact ksub rfl (by first | omega | (simp; done) | (simp; omega))), rfl, rfl, (by first | rfl | exact ksub rfl (by first | omega | (simp; done) | (simp; omega))), trivial⟩ (fun _ s => s)
  · refine wp_ex (qs_x (qs_x (qs_bx (qs_n (wp_sc (wp_sq (sq_v rfl (v_move rfl) rfl (sq_v rfl (v_move rfl) rfl (sq_v rfl (v_assign rfl) rfl (sq_v rfl (v_assign rfl) rfl (sq_end (qs_n (wp_rt ?_))))))))))))); have e : LL.take i = LL := List.take_of_length_le (by omega); rw [e] at hfr qa qb; refine qs_close [hp w] [ha, hb] (fun _ s => s.pick [2, 0, 1] (by decide) rfl) (fun md => ?_); exact qs_ret2 rfl rfl rfl (fin_t 0 (i := 1) rfl rfl rfl ⟨va, vb, ha, hb, cs', rfl, qa, qb, hfr, md⟩)
end Go.Proofs.Ythlmjnihihbckaa
namespace Go.Proofs.Ythlmjnihihbckaa
set_option maxRecDepth 100000
open Go.RowKit
theorem ct_i_sortedIntsL (ls : List Int) (v : Value) (w : World) (r : IntsR ls v (hp w)) (hn : ls.length ≤ 1048576) : Calls Try.prog 79 [v].toArray w (Ret w emp (IntsO (isort ls ls.length))) := by
  refine calls_in Try.func79 rfl Try.ntmps79 rfl (Sat.start w) ?_; have hle0 := r.le; refine wp_sc (wp_sq (sq_v rfl (v_assign rfl) rfl (sq_end (qs_n (wp_sc (wp_sq (sq_v rfl (v_move rfl) rfl ?_))))))); refine sq_x rfl (x_call rfl en_94 (fun w s => ct_i_copyInts _ _ w (r.mono (s.get 0 rfl)) (by first | assumption | omega))) rfl ?_; rintro v5 h5 r5; refine sq_v rfl (v_assign rfl) rfl (sq_end (qs_n (wp_sc (wp_sq (sq_v rfl (v_move rfl) rfl ?_))))); refine sq_m 0 rfl rfl (x_call rfl en_123 (fun w s => ct_lib_Sort _ _ w _ (s.get 0 rfl) r5 hn)) rfl ?_; rintro _ h7 r7; refine sq_end (qs_n (wp_sc (wp_sq (sq_v rfl (v_move rfl) rfl (sq_v rfl (v_assign rfl) rfl (sq_end (qs_n (wp_rt ?_)))))))); exact qs_ret1 rfl rfl (fin_t 0 (i := 1) rfl rfl rfl (r7))
set_option maxHeartbeats 1000000 in
theorem ct_i_labelLists (k p n : Int) (ts : List Ten) (op : List Int) (vt vo : Value) (w : World) (r : TensR ts vt (hp w)) (hts : ts.length ≤ 1000) (hk : ∀ t ∈ ts, okL t.l) :
    Calls Try.prog 80 [netV k p n vt vo].toArray w (Ret w emp (fun u h' => ∃ cs ha hl, RowO 25 cs ts.length 1 u ha ∧ OwnH (ts.map (·.l)) cs hl ∧ Made h' [ha, hl])) := by
  refine calls_in Try.func80 rfl Try.ntmps80 rfl (Sat.start w) ?_; have hle0 := r.le; obtain ⟨cs_r, rr_r, hc_r⟩ := r.at; refine wp_sc (wp_sq ?_); refine sq_x rfl (x_box rfl rfl) rfl ?_; rintro _ _ ⟨b1, rfl, rfl⟩; refine sq_v rfl (v_assign rfl) rfl (sq_end (qs_n (wp_sc (wp_sq (sq_v rfl (v_assign rfl) rfl (sq_end (qs_n (wp_sc (wp_sc (wp_sq (sq_v rfl (v_fieldAddr fd_39_1 ty_37 (by decide) rfl) rfl (sq_v rfl (v_loadB 0 ty_37 rfl rfl rfl) rfl (sq_v rfl (v_len Try.underlying37 rfl r.sl) rfl (sq_v rfl (v_move rfl) rfl (sq_end (qs_n (wp_bl ?_))))))))))))))))); refine wp_lp (σ := Nat × Value × PH × (List Value) × PH) (fun z_ => [(2, .slice none 0 0), (3, z_.2.1), (7, vt), (8, num ts.length), (9, num z_.1)]) (fun z_ => [z_.2.2.1, z_.2.2.2.2, box b1 [num k, num p, num n, vt, vo] 39, hp w]) (fun z_ => z_.1 ≤ ts.length ∧ OwnH ((ts.take z_.1).map (·.l)) z_.2.2.2.1 z_.2.2.2.2 ∧ RowO (25) z_.2.2.2.1 z_.1 1 z_.2.1 z_.2.2.1) (fun z_ => ts.length - z_.1) (0, .slice none 0 0, emp, [], emp) (⟨by (try dsimp only); omega, OwnH.nil, RowO.nil⟩) ⟨rfl, (by first | rfl | exact ksub rfl (by first | omega | (simp; done) | (simp; omega))), rfl, rfl, (by first | rfl | exact ksub rfl (by first | omega | (simp; done) | (simp; omega))), trivial⟩ (fun _ s => (emp_sat (emp_sat s))) ?_; rintro ⟨i, lv, lh, cs, hl⟩ ⟨hi, hf, q⟩; dsimp only at hi hf q ⊢; refine wp_sc (wp_sq (sq_v rfl (v_lss rfl rfl) rfl (sq_end (qs_n (wp_sc ?_))))); refine wp_cd rfl (fun c10 => ?_) (fun c10 => ?_)
  · refine wp_sk (qs_n (wp_sc (wp_bl (wp_sc (wp_sq ?_))))); obtain ⟨t11, a11, b11, c11, ht11, hcs11, rl11, rd11, rx11⟩ := hc_r (i) (by first | omega | (rw [List.length_set]; omega)); refine sq_v rfl (v_indexAddr Try.underlying37 ty_77 rfl rfl rr_r (by decide) (by omega) (by omega)) rfl ?_; refine sq_v rfl (v_loadNE 3 ty_77 rfl rfl rr_r (by have := rr_r.1; omega) rfl hcs11) rfl ?_; refine sq_x rfl (x_alloc ty_77 rfl) rfl ?_; rintro _ _ ⟨b5, rfl, rfl⟩; refine sq_m 0 rfl rfl (m_store 0 ty_77 rfl rfl rfl rfl (by simp [rl11.sl.one, rd11.sl.one, rx11.sl.one]) rfl (Nat.le_of_ble_eq_true rfl)) rfl ?_; rintro _ _ ⟨rfl, rfl⟩; refine sq_end ?_; have hkf := (hk t11 (List.mem_of_getElem? ht11)).few; refine qs_n (wp_sq (sq_v rfl (v_move rfl) rfl (sq_v rfl (v_fieldAddr fd_77_0 ty_25 (by decide) rfl) rfl (sq_v rfl (v_loadB 0 ty_25 rfl rfl rfl) rfl ?_)))); refine sq_x rfl (x_call rfl en_94 (fun w s => ct_i_copyInts _ _ w (rl11.mono (s.get 4 rfl)) (by omega))) rfl ?_; rintro v16 h16 r16; refine sq_x rfl (x_build1 r16.toR.sl Try.underlying55 ty_25 rfl) rfl ?_; intro v17 h17 r17; refine sq_m 3 rfl rfl (m_append 3 0 Try.underlying55 ty_25 rfl rfl (by decide) rfl rfl rfl q rfl r17.toR (by simp [r16.toR.sl.one]) (by unfold maxLen; omega) (by omega)) rfl ?_; intro v18 h_r18 r18; refine sq_v rfl (v_assign rfl) rfl (sq_end ?_); refine qs_dj 4 1 rfl rfl rfl (fun hd1 => ?_); refine qs_s [PUn hl h16, h_r18, _, _, _] (fun _ s => Sat.merge (s.pick [4, 1, 3, 2, 5, 6] (by decide) rfl)) (qs_bn (qs_n (wp_sq ?_))); refine sq_v rfl (v_add rfl rfl ((by unfold I64; omega))) rfl ?_; refine sq_v rfl (v_move rfl) rfl (sq_end ?_); exact qs_bk (i + 1, v18, h_r18, cs ++ [v16], (PUn hl h16)) ⟨by (try dsimp only); omega, by (try dsimp only); rw [take_ten ht11, List.map_append]; exact hf.add r16 hd1, r18⟩ (by simp only; omega) ⟨rfl, (by first | rfl | exact ksub rfl (by first | omega | (simp; done) | (simp; omega))), rfl, rfl, (by first | rfl | exact ksub rfl (by first | omega | (simp; done) | (simp; omega))), trivial⟩ (fun _ s => s.pick [1, 0, 3, 4] (by decide) rfl)
  · refine wp_ex (qs_x (qs_x (qs_bx (qs_n (wp_sc (wp_sq (sq_v rfl (v_move rfl) rfl (sq_v rfl (v_assign rfl) rfl (sq_end (qs_n (wp_rt ?_))))))))))); have e : i = ts.length := by omega
    subst e; rw [List.take_length] at hf; refine qs_close [hp w] [lh, hl] (fun _ s => s.pick [3, 0, 1] (by decide) rfl) (fun md => ?_); exact qs_ret1 rfl rfl (fin_t 0 (i := 1) rfl rfl rfl ⟨cs, lh, hl, q, hf, md⟩)
theorem ct_i_bucketLabels (LL : List (List Int)) (cs : List Value) (v : Value) (x : Int) (w : World) (rr : RowR cs LL.length 1 v (hp w)) (hf : LLF LL cs (hp w)) (hk : ∀ l ∈ LL, okL l) (hL : LL.length ≤ 2000000) :
    Calls Try.prog 81 [v, num x].toArray w (Ret w emp (IntsO (bktL LL x))) := by
  refine calls_in Try.func81 rfl Try.ntmps81 rfl (Sat.start w) (wp_sc (wp_sq (sq_v rfl (v_assign rfl) rfl (sq_end (qs_n (wp_sc (wp_sq (sq_v rfl (v_assign rfl) rfl (sq_end (qs_n (wp_sc (wp_sc (wp_sq (sq_v rfl (v_move rfl) rfl (sq_v rfl (v_len Try.underlying55 rfl (hf.toR rr).sl) rfl (sq_v rfl (v_move rfl) rfl (sq_end (qs_n (wp_bl ?_))))))))))))))))))); refine wp_lp (σ := Nat × Value × PH) (fun z_ => [(1, num x), (4, .slice none 0 0), (5, z_.2.1), (8, v), (9, num LL.length), (10, num z_.1)]) (fun z_ => [z_.2.2, hp w]) (fun z_ => z_.1 ≤ LL.length ∧ IntsO (bktL (LL.take z_.1) x) z_.2.1 z_.2.2) (fun z_ => LL.length - z_.1) (0, .slice none 0 0, emp) (⟨by (try dsimp only); omega, IntsO.nil⟩) ⟨rfl, rfl, (by first | rfl | exact ksub rfl (by first | omega | (simp; done) | (simp; omega))), rfl, rfl, (by first | rfl | exact ksub rfl (by first | omega | (simp; done) | (simp; omega))), trivial⟩ (fun _ s => (emp_sat s)) ?_; rintro ⟨i, va, ha⟩ ⟨hi, qa⟩; dsimp only at hi qa ⊢; have hle_qa := qa.toR.le; have hbf := (bktL_ok' (x := x) hk i).few; refine wp_sc (wp_sq (sq_v rfl (v_lss rfl rfl) rfl (sq_end (qs_n (wp_sc ?_))))); refine wp_cd rfl (fun c11 => ?_) (fun c11 => ?_)
  · refine wp_sk (qs_n (wp_sc (wp_bl (wp_sc (wp_sq ?_))))); obtain ⟨l12, a12, hl12, hcs12, rl12⟩ := hf.hc (i) (by first | omega | (rw [List.length_set]; omega)); refine sq_v rfl (v_indexAddr Try.underlying55 ty_25 rfl rfl rr (by decide) (by omega) (by omega)) rfl (sq_v rfl (v_loadE 1 ty_25 rfl rfl rr (sub_get hcs12 (j := 0) rfl)) rfl (sq_v rfl (v_assign rfl) rfl (sq_end ?_))); have hkf := (hk l12 (List.mem_of_getElem? hl12)).few; refine qs_n (wp_sc (wp_sq (sq_v rfl (v_move rfl) rfl (sq_v rfl (v_move rfl) rfl (sq_u rfl (x_callv rfl en_67 (fun w s => ct_i_hasInt _ _ _ w (rl12.mono (s.get 1 rfl)))) rfl (sq_end (qs_n ?_))))))); refine wp_cd rfl (fun c16 => ?_) (fun c16 => ?_)
    · refine wp_sq (sq_v rfl (v_move rfl) rfl (sq_v rfl (v_move rfl) rfl ?_)); refine sq_x rfl (x_call rfl en_124 (fun w s => ct_i_joinLabels _ _ _ _ w (qa.toR.mono (s.get 0 rfl)) (rl12.mono (s.get 1 rfl)) (by first | assumption | omega))) rfl ?_; rintro v19 h19 r19; refine sq_v rfl (v_assign rfl) rfl (sq_end (qs_bn (qs_n (wp_sq ?_)))); refine sq_v rfl (v_add rfl rfl ((by unfold I64; omega))) rfl ?_; refine sq_v rfl (v_move rfl) rfl (sq_end ?_); exact qs_bk (i + 1, v19, h19) ⟨by (try dsimp only); omega, by (try dsimp only); rw [bkt_step hl12, if_pos c16]; exact r19⟩ (by simp only; omega) ⟨rfl, rfl, (by first | rfl | exact ksub rfl (by first | omega | (simp; done) | (simp; omega))), rfl, rfl, (by first | rfl | exact ksub rfl (by first | omega | (simp; done) | (simp; omega))), trivial⟩ (fun _ s => s.pick [0, 2] (by decide) rfl)
    · refine wp_sk (qs_bn (qs_n (wp_sq ?_))); refine sq_v rfl (v_add rfl rfl ((by unfold I64; omega))) rfl ?_; refine sq_v rfl (v_move rfl) rfl (sq_end ?_); exact qs_bk (i + 1, va, ha) ⟨by (try dsimp only); omega, by (try dsimp only); rw [bkt_step hl12, if_neg c16]; exact qa⟩ (by simp only; omega) ⟨rfl, rfl, (by first | rfl | exact ksub rfl (by first | omega | (simp; done) | (simp; omega))), rfl, rfl, (by first | rfl | exact ksub rfl (by first | omega | (simp; done) | (simp; omega))), trivial⟩ (fun _ s => s)
  · refine wp_ex (qs_x (qs_x (qs_bx (qs_n (wp_sc (wp_sq (sq_v rfl (v_move rfl) rfl (sq_v rfl (v_assign rfl) rfl (sq_end (qs_n (wp_rt ?_))))))))))); exact qs_ret1 rfl rfl (fin_t 0 (i := 1) rfl rfl rfl (by rw [List.take_of_length_le (by omega)] at qa; exact qa))
set_option maxHeartbeats 1000000 in
theorem ct_i_eliminateFrom (LL : List (List Int)) (cs : List Value) (v : Value) (x : Int) (w : World) (rr : RowR cs LL.length 1 v (hp w)) (hf : LLF LL cs (hp w)) (hk : ∀ l ∈ LL, okL l) (hL : LL.length ≤ 2000000) (q : PH) (hfq : LLF LL cs q) :
    Calls Try.prog 82 [v, num x].toArray w (Ret w emp (fun u h' => ∃ vx ha hx cs', RowO 25 (cs' ++ [vx]) (nxtL LL x).length 1 u ha ∧ LLF (rstL LL x) cs' q ∧ IntsO ((bktL LL x).filter fun y => decide (y ≠ x)) vx hx ∧ Made h' [ha, hx])) := by
  refine calls_in Try.func82 rfl Try.ntmps82 rfl (Sat.start w) (wp_sc (wp_sq (sq_v rfl (v_assign rfl) rfl (sq_end (qs_n (wp_sc (wp_sq (sq_v rfl (v_assign rfl) rfl (sq_end (qs_n (wp_sc (wp_sc (wp_sq (sq_v rfl (v_move rfl) rfl (sq_v rfl (v_len Try.underlying55 rfl (hf.toR rr).sl) rfl (sq_v rfl (v_move rfl) rfl (sq_end (qs_n (wp_bl ?_))))))))))))))))))); refine wp_lp (σ := Nat × Value × PH × (List Value)) (fun z_ => [(0, v), (1, num x), (4, .slice none 0 0), (5, z_.2.1), (8, v), (9, num LL.length), (10, num z_.1)]) (fun z_ => [z_.2.2.1, hp w]) (fun z_ => z_.1 ≤ LL.length ∧ LLF (rstL (LL.take z_.1) x) z_.2.2.2 q ∧ RowO (25) z_.2.2.2 (rstL (LL.take z_.1) x).length 1 z_.2.1 z_.2.2.1) (fun z_ => LL.length - z_.1) (0, .slice none 0 0, emp, []) (⟨by (try dsimp only); omega, LLF.nil _, RowO.nil⟩) ⟨rfl, rfl, rfl, (by first | rfl | exact ksub rfl (by first | omega | (simp; done) | (simp; omega))), rfl, rfl, (by first | rfl | exact ksub rfl (by first | omega | (simp; done) | (simp; omega))), trivial⟩ (fun _ s => (emp_sat s)) ?_; rintro ⟨i, vb, hb, cs'⟩ ⟨hi, hfr, qb⟩; dsimp only at hi hfr qb ⊢; have hrf : (rstL (LL.take i) x).length ≤ LL.length := by have h1 := List.length_filter_le (fun l : List Int => decide (x ∉ l)) (LL.take i); rw [List.length_take] at h1; unfold rstL; omega
  have hbf := (bktL_ok (x := x) hk).few; refine wp_sc (wp_sq (sq_v rfl (v_lss rfl rfl) rfl (sq_end (qs_n (wp_sc ?_))))); refine wp_cd rfl (fun c11 => ?_) (fun c11 => ?_)
  · refine wp_sk (qs_n (wp_sc (wp_bl (wp_sc (wp_sq ?_))))); obtain ⟨l12, a12, hl12, hcs12, rl12⟩ := hf.hc (i) (by first | omega | (rw [List.length_set]; omega)); refine sq_v rfl (v_indexAddr Try.underlying55 ty_25 rfl rfl rr (by decide) (by omega) (by omega)) rfl (sq_v rfl (v_loadE 1 ty_25 rfl rfl rr (sub_get hcs12 (j := 0) rfl)) rfl (sq_v rfl (v_assign rfl) rfl (sq_end ?_))); obtain ⟨uq, huq, ruq⟩ := hfq.at_ i l12 hl12; refine qs_n (wp_sc (wp_sq (sq_v rfl (v_move rfl) rfl (sq_v rfl (v_move rfl) rfl (sq_u rfl (x_callv rfl en_67 (fun w s => ct_i_hasInt _ _ _ w (rl12.mono (s.get 1 rfl)))) rfl (sq_v rfl (v_not rfl) rfl (sq_end (qs_n ?_)))))))); refine wp_cnd rfl (fun c17 => ?_) (fun c17 => ?_)
    · refine wp_sq (sq_v rfl (v_move rfl) rfl (sq_v rfl (v_move rfl) rfl ?_)); refine sq_x rfl (x_build1 rl12.sl Try.underlying55 ty_25 rfl) rfl ?_; intro v20 h20 r20; refine sq_m 1 rfl rfl (m_append 1 0 Try.underlying55 ty_25 rfl rfl (by decide) rfl rfl rfl qb rfl r20.toR (by simp [rl12.sl.one]) (by unfold maxLen; omega) (by omega)) rfl ?_; intro v21 h_r21 r21; refine sq_v rfl (v_assign rfl) rfl (sq_end (qs_bn (qs_n (wp_sq ?_)))); refine sq_v rfl (v_add rfl rfl ((by unfold I64; omega))) rfl ?_; refine sq_v rfl (v_move rfl) rfl (sq_end ?_); have hru : IntsR l12 a12 q := by (have e1 := hcs12; have hlt : i < cs.length := (by have := hf.len; omega); rw [Nat.mul_one, List.drop_eq_getElem_cons hlt] at e1; rw [List.getElem?_eq_getElem hlt] at huq; cases huq; have e2 : [cs[i]] = [a12] := e1; injection e2 with e3; rw [← e3]; exact ruq)
      exact qs_bk (i + 1, v21, h_r21, cs' ++ [a12]) ⟨by (try dsimp only); omega, by (try dsimp only); rw [rst_step hl12, if_neg c17]; exact hfr.snoc hru, by (try dsimp only); rw [rst_step hl12, if_neg c17, List.length_append]; exact r21⟩ (by simp only; omega) ⟨rfl, rfl, rfl, (by first | rfl | exact ksub rfl (by first | omega | (simp; done) | (simp; omega))), rfl, rfl, (by first | rfl | exact ksub rfl (by first | omega | (simp; done) | (simp; omega))), trivial⟩ (fun _ s => s.pick [1, 2] (by decide) rfl)
    · refine wp_sk (qs_bn (qs_n (wp_sq ?_))); refine sq_v rfl (v_add rfl rfl ((by unfold I64; omega))) rfl ?_; refine sq_v rfl (v_move rfl) rfl (sq_end ?_); exact qs_bk (i + 1, vb, hb, cs') ⟨by (try dsimp only); omega, by (try dsimp only); rw [rst_step hl12, if_pos c17]; exact hfr, by (try dsimp only); rw [rst_step hl12, if_pos c17]; exact qb⟩ (by simp only; omega) ⟨rfl, rfl, rfl, (by first | rfl | exact ksub rfl (by first | omega | (simp; done) | (simp; omega))), rfl, rfl, (by first | rfl | exact ksub rfl (by first | omega | (simp; done) | (simp; omega))), trivial⟩ (fun _ s => s)
  · refine wp_ex (qs_x (qs_x (qs_bx (qs_n (wp_sc (wp_sq (sq_v rfl (v_move rfl) rfl (sq_v rfl (v_move rfl) rfl (sq_v rfl (v_move rfl) rfl ?_))))))))); refine sq_x rfl (x_call rfl en_81 (fun w s => ct_i_bucketLabels LL cs _ _ w (rr.mono (s.get 1 rfl)) (hf.mono (s.get 1 rfl)) hk hL)) rfl ?_; rintro v26 h26 r26; refine sq_v rfl (v_move rfl) rfl ?_; refine sq_x rfl (x_call rfl en_125 (fun w s => ct_i_withoutInt _ _ _ w (r26.toR.mono (s.get 0 rfl)) (by omega))) rfl ?_; rintro v28 h28 r28; refine sq_x rfl (x_build1 r28.toR.sl Try.underlying55 ty_25 rfl) rfl ?_; intro v29 h29 r29; refine sq_m 3 rfl rfl (m_append 3 0 Try.underlying55 ty_25 rfl rfl (by decide) rfl rfl rfl qb rfl r29.toR (by simp [r28.toR.sl.one]) (by unfold maxLen; omega) (by omega)) rfl ?_; intro v30 h_r30 r30; refine sq_v rfl (v_assign rfl) rfl (sq_end (qs_n (wp_rt ?_))); have e : LL.take i = LL := List.take_of_length_le (by omega); rw [e] at hfr r30; refine qs_close [hp w] [h_r30, h28] (fun _ s => s.pick [4, 3, 1] (by decide) rfl) (fun md => ?_); exact qs_ret1 rfl rfl (fin_t 0 (i := 1) rfl rfl rfl ⟨v28, h_r30, h28, cs', by rw [nxtL, List.length_append]; exact r30, hfr, r28, md⟩)
end Go.Proofs.Ythlmjnihihbckaa
namespace Go.Proofs.Ythlmjnihihbckaa
set_option maxRecDepth 100000
open Go.RowKit
theorem take1_get {cs : List Value} {i : Nat} {a : Value} (h : (cs.drop (i * 1)).take 1 = [a]) : cs[i]? = some a := by
  rw [Nat.mul_one] at h; have e : (cs.drop i)[0]? = some a := by
    have : ((cs.drop i).take 1)[0]? = some a := by rw [h]; rfl
    rw [List.getElem?_take, if_pos (by omega)] at this; exact this
  rw [List.getElem?_drop] at e
  simpa using e
set_option maxHeartbeats 8000000 in
theorem ct_s_DecompositionOf (k p n : Int) (ts : List Ten) (op ls : List Int) (vt vo v : Value) (w : World) (r : TensR ts vt (hp w)) (r' : IntsR op vo (hp w)) (rl : IntsR ls v (hp w)) (hs : op.length ≤ 1048576) :
    Calls Try.prog 24 [netV k p n vt vo, v].toArray w (Ret w emp (DofB (dofBb k p n ts op ls) (dofPp k p n ts op ls) (eliB k p n ts op ls))) := by
  obtain ⟨q0, hq0⟩ : ∃ q0 : PH, q0 = hp w := ⟨_, rfl⟩
  have rq0 : TensR ts vt q0 := hq0 ▸ r; refine calls_in Try.func24 rfl Try.ntmps24 rfl (Sat.start w) ?_; have hle0 := r.le; obtain ⟨cs_r, rr_r, hc_r⟩ := r.at; have hle1 := r'.le; have hle2 := rl.le; refine wp_sc (wp_sq ?_); refine sq_x rfl (x_box rfl rfl) rfl ?_; rintro _ _ ⟨b2, rfl, rfl⟩; refine sq_x rfl (x_alloc ty_57 rfl) rfl ?_; rintro _ _ ⟨b4, rfl, rfl⟩; refine sq_v rfl (v_assign rfl) rfl (sq_end (qs_n (wp_sc (wp_sc (wp_sq (sq_v rfl (v_loadNB 1 ty_39 rfl rfl rfl rfl) rfl (sq_v rfl (v_move rfl) rfl (sq_u rfl (x_callv rfl en_72 (fun w s => ct_s_EliminationOk _ _ _ _ _ _ _ _ _ w (r.mono (s.get 2 rfl)) (r'.mono (s.get 2 rfl)) (rl.mono (s.get 2 rfl)) (by first | assumption | omega))) rfl (sq_v rfl (v_not rfl) rfl (sq_end (qs_n ?_))))))))))); refine wp_cn _ rfl (fun c19 => ?_) (fun c19 => ?_)
  · refine wp_sc (wp_sq (sq_v rfl (v_build [.slice none 0 0, .slice none 0 0] rfl (by kernel_rfl)) rfl ?_)); refine sq_m 0 rfl rfl (m_store 0 ty_57 rfl rfl rfl rfl (by simp [one_sl]) rfl (Nat.le_of_ble_eq_true rfl)) rfl ?_; rintro _ _ ⟨rfl, rfl⟩; refine sq_v rfl (v_assign rfl) rfl (sq_end (qs_n (wp_rt (qs_r ?_)))); exact qs_retct 0 rfl ty_57 rfl rfl rfl rfl (fin_e (i := 2) rfl (DofNo c19))
  · refine wp_sk (qs_n (wp_sc (wp_sq ?_))); have hel0 := eliB_true.1 c19; obtain ⟨hnd, hcs, hno, hl100⟩ := eli_facts hel0; have hnet := hel0.1; have h12 := hnet.2.1; have hok := net_okL hnet; refine sq_v rfl (v_loadNB 1 ty_39 rfl rfl rfl rfl) rfl ?_; refine sq_x rfl (x_call rfl en_73 (fun w s => ct_s_l21Lists k p n _ op _ vo w q0 (hq0 ▸ s.get 2 rfl) rq0 (by omega))) rfl ?_; rintro v22 h22 ⟨cs22, r22, hf22⟩; refine sq_v rfl (v_assign rfl) rfl (sq_end (qs_n (wp_sc (wp_sq ?_)))); refine sq_x rfl (x_build0 Try.underlying55 ty_25) rfl ?_; intro v23 h23 r23; refine sq_v rfl (v_assign rfl) rfl (sq_end (qs_s [hp w, h22, h23, _, _] (fun _ s => s.pick [4, 1, 0, 2, 3] (by decide) rfl) (qs_n (wp_sc (wp_sc (wp_sq (sq_v rfl (v_move rfl) rfl (sq_v rfl (v_len Try.underlying25 rfl rl.sl) rfl (sq_v rfl (v_move rfl) rfl (sq_end (qs_n (wp_bl ?_)))))))))))); refine wp_lp (σ := Nat × Value × PH × (List Value) × Value × PH × (List Value) × PH × PH) (fun z_ => [(1, v), (2, .pointer (some ⟨b2, 0, none⟩)), (4, .pointer (some ⟨b4, 0, none⟩)), (5, .bool false), (6, z_.2.1), (7, z_.2.2.2.2.1), (24, v), (25, num ls.length), (26, num z_.1)]) (fun z_ => [z_.2.2.2.2.2.2.2.1, z_.2.2.2.2.2.2.2.2, z_.2.2.1, z_.2.2.2.2.2.1, box b4 [.slice none 0 0, .slice none 0 0] 57, box b2 [num k, num p, num n, vt, vo] 39]) (fun z_ => z_.1 ≤ ls.length ∧ UnW w z_.2.2.2.2.2.2.2.2 ∧ LLF (llsL ts ls z_.1) z_.2.2.2.1 z_.2.2.2.2.2.2.2.2 ∧ OwnH (bksL ts ls z_.1) z_.2.2.2.2.2.2.1 z_.2.2.2.2.2.2.2.1 ∧ RowO (25) z_.2.2.2.1 (llsL ts ls z_.1).length 1 z_.2.1 z_.2.2.1 ∧ RowO (25) z_.2.2.2.2.2.2.1 z_.1 1 z_.2.2.2.2.1 z_.2.2.2.2.2.1) (fun z_ => ls.length - z_.1) (0, v22, h22, cs22, v23, h23, [], emp, (hp w)) (⟨by (try dsimp only); omega, UnW.start w, (hq0 ▸ hf22), OwnH.nil, by (try dsimp only); simpa [llsL] using r22, r23⟩) ⟨rfl, rfl, rfl, rfl, (by first | rfl | exact ksub rfl (by first | omega | (simp; done) | (simp; omega))), (by first | rfl | exact ksub rfl (by first | omega | (simp; done) | (simp; omega))), rfl, rfl, (by first | rfl | exact ksub rfl (by first | omega | (simp; done) | (simp; omega))), trivial⟩ (fun _ s => (emp_sat s)) ?_; rintro ⟨i, vl, hls, csl, vb, hbk, csb, hbo, H⟩ ⟨hi, hU, hfl, how, ql, qb⟩; dsimp only at hi hU hfl how ql qb ⊢; have hll := lls_len (ts := ts) (ls := ls) i; have hk := lls_ok (ls := ls) hok i; have hbf := (bktL_ok (x := ls.getD i 0) hk).few; have hrl : (rstL (llsL ts ls i) (ls.getD i 0)).length ≤ (llsL ts ls i).length := List.length_filter_le _ _; refine wp_sc (wp_sq (sq_v rfl (v_lss rfl rfl) rfl (sq_end (qs_n (wp_sc ?_))))); refine wp_cd rfl (fun c27 => ?_) (fun c27 => ?_)
    · refine wp_sk (qs_n (wp_sc (wp_bl (wp_sc (wp_sq ?_))))); refine sq_v rfl (v_idxI Try.underlying25 ty_3 rfl rfl (rl.mono hU.le) (by first | omega | (simp; omega) | (simp only [List.length_append, List.length_cons, List.length_nil]; omega) | (rw [List.length_set]; omega)) (by first | omega | (simp; omega) | (simp only [List.length_append, List.length_cons, List.length_nil]; omega) | (rw [List.length_set]; omega))) rfl ?_; refine sq_v rfl (v_loadI (k := i) 1 ty_3 rfl rfl (rl.mono hU.le) (by first | omega | (simp; omega) | (simp only [List.length_append, List.length_cons, List.length_nil]; omega) | (rw [List.length_set]; omega))) rfl ?_; refine sq_v rfl (v_assign rfl) rfl (sq_end (qs_n (wp_sc (wp_sq (sq_v rfl (v_move rfl) rfl (sq_v rfl (v_move rfl) rfl ?_)))))); refine sq_x rfl (x_call rfl en_74 (fun w s => ct_s_l21Bucket (llsL ts ls i) csl vl (ls.getD i 0) w (ql.toR.mono (s.get 2 rfl)) (hfl.mono (s.get 1 rfl)) hk (by omega) H hfl)) rfl ?_; rintro _ h33 ⟨va, vb2, ha, hb2, cs2, rfl, ra, rb, hfr, md⟩; refine sq_v rfl (v_move rfl) rfl (sq_v rfl (v_extract rfl rfl) rfl (sq_v rfl (v_extract rfl rfl) rfl (sq_v rfl (v_assign rfl) rfl (sq_v rfl (v_assign rfl) rfl (sq_end (qs_s [hbo, H, hls, hbk, box b4 [.slice none 0 0, .slice none 0 0] 57, box b2 [num k, num p, num n, vt, vo] 39, ha, hb2] (fun _ s => Sat.open (A := [hbo, H, hls, hbk, box b4 [.slice none 0 0, .slice none 0 0] 57, box b2 [num k, num p, num n, vt, vo] 39]) md (s.pick [0, 1, 2, 3, 4, 5, 6] (by decide) rfl)) ?_))))))
      skip
      refine qs_n (wp_sc (wp_sq (sq_v rfl (v_move rfl) rfl (sq_v rfl (v_move rfl) rfl ?_)))); refine sq_x rfl (x_call rfl en_75 (fun w s => ct_s_l06SortL _ _ w (ra.toR.mono (s.get 6 rfl)) (by omega))) rfl ?_; rintro v38 h38 r38; refine sq_x rfl (x_build1 r38.toR.sl Try.underlying55 ty_25 rfl) rfl ?_; intro v39 h39 r39; refine sq_m 5 rfl rfl (m_append 5 0 Try.underlying55 ty_25 rfl rfl (by decide) rfl rfl rfl qb rfl r39.toR (by simp [r38.toR.sl.one]) (by unfold maxLen; omega) (by omega)) rfl ?_; intro v40 h_r40 r40; refine sq_v rfl (v_assign rfl) rfl (sq_end (qs_n (wp_sq (sq_v rfl (v_move rfl) rfl (sq_v rfl (v_move rfl) rfl (sq_v rfl (v_move rfl) rfl ?_)))))); refine sq_x rfl (x_call rfl en_76 (fun w s => ct_s_l21Without _ _ _ w (ra.toR.mono (s.get 8 rfl)) (by first | assumption | omega))) rfl ?_; rintro v44 h44 r44; refine sq_x rfl (x_build1 r44.toR.sl Try.underlying55 ty_25 rfl) rfl ?_; intro v45 h45 r45; refine sq_m 11 rfl rfl (m_append 11 0 Try.underlying55 ty_25 rfl rfl (by decide) rfl rfl rfl rb rfl r45.toR (by simp [r44.toR.sl.one]) (by unfold maxLen; omega) (by omega)) rfl ?_; intro v46 h_r46 r46; refine sq_v rfl (v_assign rfl) rfl (sq_end ?_); refine qs_dj 4 3 rfl rfl rfl (fun hd1 => ?_); refine qs_dj 1 5 rfl rfl rfl (fun hd2 => ?_); refine qs_s [PUn hbo h38, h44, H, h_r40, h_r46, _, _] (fun _ s => Sat.merge (s.pick [4, 3, 1, 5, 7, 11, 8, 9] (by decide) rfl)) (qs_s [PUn h44 H, PUn hbo h38, h_r40, h_r46, _, _] (fun _ s => Sat.merge (s.pick [1, 2, 0, 3, 4, 5, 6] (by decide) rfl)) (qs_bn (qs_n (wp_sq ?_)))); refine sq_v rfl (v_add rfl rfl ((by unfold I64; omega))) rfl ?_; refine sq_v rfl (v_move rfl) rfl (sq_end ?_); exact qs_bk (i + 1, v46, h_r46, cs2 ++ [v44], v40, h_r40, csb ++ [v38], (PUn hbo h38), (PUn h44 H)) ⟨by (try dsimp only); omega, hU.add hd2, (hfr.mono (PLe.un_r hd2)).snoc (r44.toR.mono (PLe.un_l h44 H)), by (try dsimp only); rw [bks_succ]; exact how.add r38 hd1, by (try dsimp only); rw [show (llsL ts ls (i + 1)).length = (rstL (llsL ts ls i) (ls.getD i 0)).length + 1 by rw [llsL]; unfold nxtL; rw [List.length_append]; rfl]; exact r46, r40⟩ (by simp only; omega) ⟨rfl, rfl, rfl, rfl, (by first | rfl | exact ksub rfl (by first | omega | (simp; done) | (simp; omega))), (by first | rfl | exact ksub rfl (by first | omega | (simp; done) | (simp; omega))), rfl, rfl, (by first | rfl | exact ksub rfl (by first | omega | (simp; done) | (simp; omega))), trivial⟩ (fun _ s => s.pick [1, 0, 3, 2, 4, 5] (by decide) rfl)
    · refine wp_ex (qs_x (qs_x (qs_bx (qs_n (wp_sc (wp_sq ?_)))))); have ei : i = ls.length := (by omega); have hcsl : csb.length = ls.length := (by have := how.llf.len; rw [bks_len] at this; omega)
      refine sq_v rfl (v_fieldAddr fd_39_2 ty_25 (by decide) rfl) rfl (sq_v rfl (v_loadB 5 ty_25 rfl rfl rfl) rfl ?_); refine sq_x rfl (x_call rfl en_75 (fun w s => ct_s_l06SortL _ _ w ((r'.mono hU.le).mono (s.get 1 rfl)) hs)) rfl ?_; rintro v50 h50 r50; refine sq_x rfl (x_build1 r50.toR.sl Try.underlying55 ty_25 rfl) rfl ?_; intro v51 h51 r51; refine sq_x rfl (x_buildS [num (-1)] Try.underlying25 ty_3 (by decide) rfl rfl rfl (by decide) (by decide) (by intro v hv; simp at hv; rcases hv with rfl <;> rfl)) rfl ?_; intro v52 h52 (r52 : IntsO [-1] v52 h52); refine sq_v rfl (v_build [v51, v52] rfl (by obtain ⟨_, _, rfl⟩ := r51.toR.sl; obtain ⟨_, _, rfl⟩ := r52.toR.sl; kernel_rfl)) rfl ?_; refine sq_x rfl (x_alloc ty_57 rfl) rfl ?_; rintro _ _ ⟨b12, rfl, rfl⟩; refine sq_m 0 rfl rfl (m_store 0 ty_57 rfl rfl rfl rfl (by simp [r51.toR.sl.one, r52.toR.sl.one]) rfl (Nat.le_of_ble_eq_true rfl)) rfl ?_; rintro _ _ ⟨rfl, rfl⟩; refine sq_end ?_; refine qs_dj 7 4 rfl rfl rfl (fun hdB => ?_); have hLB : LLF (bksL ts ls ls.length) csb (PUn hbk hbo) := by have h1 := how.llf.mono (PLe.un_r hdB); rw [ei] at h1; exact h1
      have rrB : RowR csb (bksL ts ls ls.length).length 1 vb (PUn hbk hbo) := by rw [bks_len]; have h1 := qb.toR.mono (PLe.un_l hbk hbo); rw [ei] at h1; exact h1
      have hcB := hLB.hc; have hbl := bks_len ts ls ls.length; refine qs_s [PUn hbk hbo, h50, h51, h52, H, box b12 [v51, v52] 57, _, _] (fun _ s => Sat.merge (s.pick [7, 4, 3, 2, 1, 5, 0, 8, 9] (by decide) rfl)) (qs_n (wp_sc (wp_sc (wp_sq (sq_v rfl (v_move rfl) rfl (sq_v rfl (v_len Try.underlying25 rfl (rl.mono hU.le).sl) rfl ?_)))))); refine sq_v rfl (v_sub rfl rfl ((by unfold I64; omega))) rfl ?_; refine sq_v rfl (v_assign rfl) rfl (sq_end (qs_n (wp_bl ?_))); refine wp_lp (σ := Nat × Int × Value × PH × Value × PH) (fun z_ => [(1, v), (4, .pointer (some ⟨b4, 0, none⟩)), (5, .bool false), (7, vb), (12, .pointer (some ⟨b12, 0, none⟩)), (13, num z_.2.1)]) (fun z_ => [(PUn hbk hbo), h50, z_.2.2.2.1, z_.2.2.2.2.2, H, box b12 [z_.2.2.1, z_.2.2.2.2.1] 57, box b4 [.slice none 0 0, .slice none 0 0] 57, box b2 [num k, num p, num n, vt, vo] 39]) (fun z_ => z_.1 ≤ ls.length ∧ z_.2.1 = (ls.length : Int) - 1 - z_.1 ∧ RowO (25) (v50 :: (csb.drop (ls.length - z_.1)).reverse) (z_.1 + 1) 1 z_.2.2.1 z_.2.2.2.1 ∧ IntsO (-1 :: ((prsL ts ls ls.length).drop (ls.length - z_.1)).reverse) z_.2.2.2.2.1 z_.2.2.2.2.2) (fun z_ => ls.length - z_.1) (0, (ls.length - 1 : Int), v51, h51, v52, h52) (⟨by (try dsimp only); omega, by (try dsimp only); omega, by (try dsimp only); rw [Nat.sub_zero, List.drop_of_length_le (by omega)]; exact r51, by (try dsimp only); rw [Nat.sub_zero, List.drop_of_length_le (by rw [prs_len]; exact Nat.le_refl _)]; exact r52⟩) ⟨rfl, rfl, rfl, rfl, rfl, (by first | rfl | exact ksub rfl (by first | omega | (simp; done) | (simp; omega))), trivial⟩ (fun _ s => s) ?_; rintro ⟨c, e, v1, h1, v2, h2⟩ ⟨hc, he, q1, q2⟩; dsimp only at hc he q1 q2 ⊢; have hle_q2 := q2.toR.le; have hpl : (-1 :: ((prsL ts ls ls.length).drop (ls.length - c)).reverse : List Int).length = c + 1 := by simp [prs_len]; omega
      have hpl2 : (((prsL ts ls ls.length).drop (ls.length - c)).reverse).length = c := by simp [prs_len]; omega
      refine wp_sc (wp_sc (wp_sq (sq_v rfl (v_move rfl) rfl (sq_v rfl (v_geq rfl rfl) rfl (sq_end (qs_n ?_)))))); refine wp_cd rfl (fun c58 => ?_) (fun c58 => ?_)
      · refine wp_sk (qs_n (wp_sc (wp_bl (wp_sc (wp_sq (sq_v rfl (v_assign rfl) rfl (sq_end (qs_n (wp_sc (wp_sc (wp_sq (sq_v rfl (v_move rfl) rfl (sq_v rfl (v_len Try.underlying25 rfl (rl.mono hU.le).sl) rfl ?_))))))))))))); refine sq_v rfl (v_sub rfl rfl ((by unfold I64; omega))) rfl ?_; refine sq_v rfl (v_assign rfl) rfl (sq_end (qs_n (wp_bl ?_))); refine wp_lp (σ := Nat × Int × Int) (fun z_ => [(1, v), (4, .pointer (some ⟨b4, 0, none⟩)), (5, .bool false), (7, vb), (12, .pointer (some ⟨b12, 0, none⟩)), (13, num e), (14, num z_.2.2), (15, num z_.2.1), (57, num e), (58, .bool (decide ((0 : Int) ≤ e))), (61, v), (62, num ls.length), (63, num (ls.length - 1))]) (fun z_ => [(PUn hbk hbo), h50, h1, h2, H, box b12 [v1, v2] 57, box b4 [.slice none 0 0, .slice none 0 0] 57, box b2 [num k, num p, num n, vt, vo] 39]) (fun z_ => z_.1 ≤ c ∧ z_.2.1 = (ls.length : Int) - 1 - z_.1 ∧ z_.2.2 = parD (bukL ts ls (ls.length - 1 - c)) ls z_.1) (fun z_ => c - z_.1) (0, (ls.length - 1 : Int), 0) (⟨by (try dsimp only); omega, by (try dsimp only); omega, rfl⟩) ⟨rfl, rfl, rfl, rfl, rfl, rfl, (by first | rfl | exact ksub rfl (by first | omega | (simp; done) | (simp; omega))), (by first | rfl | exact ksub rfl (by first | omega | (simp; done) | (simp; omega))), rfl, rfl, rfl, rfl, rfl, trivial⟩ (fun _ s => s) ?_; rintro ⟨d, e2, par⟩ ⟨hd, he2, hpar⟩; dsimp only at hd he2 hpar ⊢; have ee2 : e2.toNat = ls.length - 1 - d := by omega
        refine wp_sc (wp_sc (wp_sq (sq_v rfl (v_move rfl) rfl (sq_v rfl (v_move rfl) rfl (sq_v rfl (v_gtr rfl rfl) rfl (sq_end (qs_n ?_))))))); refine wp_cd rfl (fun c66 => ?_) (fun c66 => ?_)
        · refine wp_sk (qs_n (wp_sc (wp_bl (wp_sc (wp_rj 10 [(0, true), (1, true), (2, true), (3, true), (4, true), (5, true), (6, true), (7, true), (8, false), (9, true)] mixed_ok (by kernel_rfl) (rj_v rfl rfl (v_move rfl) rfl (rj_v rfl rfl (v_move rfl) rfl ?_))))))); obtain ⟨l71, a71, hl71, hcs71, rl71⟩ := hcB ((e : Int).toNat) (by first | omega | (rw [List.length_set]; omega)); refine rj_v rfl rfl (v_indexAddr Try.underlying55 ty_25 rfl rfl rrB (by decide) (by omega) (by omega)) rfl (rj_v rfl rfl (v_loadE 0 ty_25 rfl rfl rrB (sub_get hcs71 (j := 0) rfl)) rfl (rj_v rfl rfl (v_move rfl) rfl (rj_v rfl rfl (v_move rfl) rfl ?_))); refine rj_v rfl rfl (v_idxI Try.underlying25 ty_3 rfl rfl (rl.mono hU.le) (by first | omega | (simp; omega) | (simp only [List.length_append, List.length_cons, List.length_nil]; omega) | (rw [List.length_set]; omega)) (by first | omega | (simp; omega) | (simp only [List.length_append, List.length_cons, List.length_nil]; omega) | (rw [List.length_set]; omega))) rfl ?_; refine rj_v rfl rfl (v_loadI  4 ty_3 rfl rfl (rl.mono hU.le) (by first | omega | (simp; omega) | (simp only [List.length_append, List.length_cons, List.length_nil]; omega) | (rw [List.length_set]; omega))) rfl ?_; refine rj_u rfl rfl (x_callv rfl en_77 (fun w s => ct_s_l05Find _ _ _ w (rl71.mono (s.get 0 rfl)))) rfl (rj_v rfl rfl (v_geq rfl rfl) rfl (rj_end ?_)); have e71 : l71 = bukL ts ls (ls.length - 1 - c) := by have h9 := hl71; rw [show e.toNat = ls.length - 1 - c by omega, bks_get (by omega)] at h9; exact (Option.some.inj h9).symm
          have hge := findI_ge (xs := l71) (n := ls.getD e2.toNat 0); refine qs_n ?_; refine wp_cd rfl (fun c78 => ?_) (fun c78 => ?_)
          · refine wp_sq (sq_v rfl (v_move rfl) rfl (sq_v rfl (v_len Try.underlying25 rfl (rl.mono hU.le).sl) rfl (sq_v rfl (v_move rfl) rfl ?_))); refine sq_v rfl (v_sub rfl rfl ((by unfold I64; omega))) rfl ?_; refine sq_v rfl (v_assign rfl) rfl (sq_end (qs_bn (qs_n (wp_sq (sq_v rfl (v_move rfl) rfl ?_))))); refine sq_v rfl (v_sub rfl rfl ((by unfold I64; omega))) rfl ?_; refine sq_v rfl (v_assign rfl) rfl (sq_end ?_); exact qs_bk (d + 1, (e2 - 1), (ls.length - e2)) ⟨by (try dsimp only); omega, by (try dsimp only); omega, by (try dsimp only); rw [parD, if_pos (by rw [← ee2, ← e71]; exact hge.1 (by omega))]; omega⟩ (by simp only; omega) ⟨rfl, rfl, rfl, rfl, rfl, rfl, (by first | rfl | exact ksub rfl (by first | omega | (simp; done) | (simp; omega))), (by first | rfl | exact ksub rfl (by first | omega | (simp; done) | (simp; omega))), rfl, rfl, rfl, rfl, rfl, trivial⟩ (fun _ s => s)
          · refine wp_sk (qs_bn (qs_n (wp_sq (sq_v rfl (v_move rfl) rfl ?_)))); refine sq_v rfl (v_sub rfl rfl ((by unfold I64; omega))) rfl ?_; refine sq_v rfl (v_assign rfl) rfl (sq_end ?_); exact qs_bk (d + 1, (e2 - 1), par) ⟨by (try dsimp only); omega, by (try dsimp only); omega, by (try dsimp only); rw [parD, if_neg (by rw [← ee2, ← e71]; exact fun h => by have := hge.2 h; omega)]; exact hpar⟩ (by simp only; omega) ⟨rfl, rfl, rfl, rfl, rfl, rfl, (by first | rfl | exact ksub rfl (by first | omega | (simp; done) | (simp; omega))), (by first | rfl | exact ksub rfl (by first | omega | (simp; done) | (simp; omega))), rfl, rfl, rfl, rfl, rfl, trivial⟩ (fun _ s => s)
        · refine wp_ex (qs_x (qs_x (qs_bx (qs_n (wp_sc (wp_rj 7 [(0, true), (1, true), (2, true), (3, true), (4, true), (5, true), (6, false), (7, false), (8, false), (9, false)] mixed_ok (by kernel_rfl) (rj_v rfl rfl (v_fieldAddr fd_57_0 ty_55 (by decide) rfl) rfl (rj_v rfl rfl (v_loadB 5 ty_55 rfl rfl rfl) rfl (rj_v rfl rfl (v_move rfl) rfl (rj_v rfl rfl (v_move rfl) rfl ?_)))))))))); obtain ⟨l87, a87, hl87, hcs87, rl87⟩ := hcB ((e : Int).toNat) (by first | omega | (rw [List.length_set]; omega)); refine rj_v rfl rfl (v_indexAddr Try.underlying55 ty_25 rfl rfl rrB (by decide) (by omega) (by omega)) rfl (rj_v rfl rfl (v_loadE 0 ty_25 rfl rfl rrB (sub_get hcs87 (j := 0) rfl)) rfl ?_); refine rj_x rfl rfl (x_build1 rl87.sl Try.underlying55 ty_25 rfl) rfl ?_; intro v89 h89 r89; refine rj_m 3 rfl rfl rfl rfl (m_append 3 0 Try.underlying55 ty_25 rfl rfl (by decide) rfl rfl rfl q1 rfl r89.toR (by simp [rl87.sl.one]) (by unfold maxLen; omega) (by omega)) rfl ?_; intro v90 h_r90 r90; refine rj_fv rfl rfl (v_fieldAddr fd_57_0 ty_55 (by decide) rfl) rfl ?_; refine rj_m 6 rfl rfl rfl rfl (m_store1 6 ty_55 rfl rfl r90.toR.sl.one rfl (Nat.le_of_ble_eq_true rfl)) rfl ?_; rintro _ _ ⟨rfl, rfl⟩; refine rj_end (qs_n (wp_sq (sq_v rfl (v_fieldAddr fd_57_1 ty_25 (by decide) rfl) rfl (sq_v rfl (v_loadB 6 ty_25 rfl rfl rfl) rfl (sq_v rfl (v_move rfl) rfl ?_))))); refine sq_x rfl (x_buildS [num (par)] Try.underlying25 ty_3 (by decide) rfl rfl rfl (by decide) (by decide) (by intro v hv; simp at hv; rcases hv with rfl <;> rfl)) rfl ?_; intro v95 h95 (r95 : IntsO [par] v95 h95); refine sq_m 5 rfl rfl (m_appI 5 0 Try.underlying25 ty_3 rfl rfl rfl rfl q2 rfl r95.toR (by first | omega | (simp; omega) | (simp only [List.length_append, List.length_cons, List.length_nil]; omega) | (rw [List.length_set]; omega))) rfl ?_; intro v96 h_r96 r96; refine sq_v rfl (v_fieldAddr fd_57_1 ty_25 (by decide) rfl) rfl ?_; refine sq_m 7 rfl rfl (m_store1 7 ty_25 rfl rfl r96.toR.sl.one rfl (Nat.le_of_ble_eq_true rfl)) rfl ?_; rintro _ _ ⟨rfl, rfl⟩; refine sq_end (qs_bn (qs_n (wp_sq (sq_v rfl (v_move rfl) rfl ?_)))); refine sq_v rfl (v_sub rfl rfl ((by unfold I64; omega))) rfl ?_; refine sq_v rfl (v_assign rfl) rfl (sq_end ?_); have hg87 := take1_get hcs87; have hrv : (v50 :: (csb.drop (ls.length - (c + 1))).reverse) = (v50 :: (csb.drop (ls.length - c)).reverse) ++ [a87] := by have h9 := rev_drop (X := csb) (c := c) (a := a87) (by omega) (by rw [hcsl, show ls.length - 1 - c = e.toNat by omega]; exact hg87); rw [hcsl] at h9; rw [h9]; rfl
          have hpv : (-1 :: ((prsL ts ls ls.length).drop (ls.length - (c + 1))).reverse : List Int) = (-1 :: ((prsL ts ls ls.length).drop (ls.length - c)).reverse) ++ [par] := by have h9 := rev_drop (X := prsL ts ls ls.length) (c := c) (a := par) (by rw [prs_len]; omega) (by rw [prs_len, prs_get (by omega), hpar, prL, show ls.length - 1 - (ls.length - 1 - c) = d by omega]); rw [prs_len] at h9; rw [h9]; rfl
          exact qs_bk (c + 1, (e - 1), v90, h_r90, v96, h_r96) ⟨by (try dsimp only); omega, by (try dsimp only); omega, by (try dsimp only); rw [hrv]; exact r90, by (try dsimp only); rw [hpv]; exact r96⟩ (by simp only; omega) ⟨rfl, rfl, rfl, rfl, rfl, (by first | rfl | exact ksub rfl (by first | omega | (simp; done) | (simp; omega))), trivial⟩ (fun _ s => s.pick [2, 3, 4, 5, 6, 7, 8, 9] (by decide) rfl)
      · refine wp_ex (qs_x (qs_x (qs_bx (qs_n (wp_sc (wp_sq (sq_v rfl (v_loadNB 5 ty_57 rfl rfl rfl rfl) rfl ?_))))))); refine sq_m 6 rfl rfl (m_store 6 ty_57 rfl rfl rfl rfl (by simp [q1.toR.sl.one, q2.toR.sl.one]) rfl (Nat.le_of_ble_eq_true rfl)) rfl ?_; rintro _ _ ⟨rfl, rfl⟩; refine sq_v rfl (v_assign rfl) rfl (sq_end (qs_n (wp_rt ?_))); have ec : c = ls.length := by omega
        subst ec; rw [Nat.sub_self, List.drop_zero] at q1 q2; obtain ⟨hl, hdl, rfl⟩ := hU; rw [ei] at how; refine qs_s [hbk, hbo, h1, h50, h2, _, PUn hl (hp w)] (fun _ s => Sat.part hdB (s.pick [0, 2, 1, 3, 6, 4] (by decide) rfl)) ?_; refine qs_dj 3 1 rfl rfl rfl (fun hd5 => ?_); refine qs_s [PUn h50 hbo, h1, h2, _, PUn hl (hp w)] (fun _ s => Sat.merge (s.pick [3, 1, 2, 4, 5, 6] (by decide) rfl)) ?_; refine qs_close [h2, _, PUn hl (hp w)] [h1, PUn h50 hbo] (fun _ s => s.pick [2, 3, 4, 1, 0] (by decide) rfl) (fun md1 => ?_); refine qs_close [_, PUn hl (hp w)] [joinP [h1, PUn h50 hbo], h2] (fun _ s => s.pick [2, 3, 0, 1] (by decide) rfl) (fun md2 => ?_); refine qs_s [hl, hp w, _, _] (fun _ s => Sat.part hdl (s.pick [2, 0, 1] (by decide) rfl)) ?_; exact qs_retct 3 rfl ty_57 rfl rfl rfl rfl (fin_t 2 (i := 1) rfl rfl rfl (DofYes c19 ⟨_, _, LLO.of (by rw [show (dofB ts op ls).length = ls.length + 1 by simp [dofB, bks_len]]; exact q1) (how.rev.cons r50 hd5) md1, q2, md2⟩))
end Go.Proofs.Ythlmjnihihbckaa
