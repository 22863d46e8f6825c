/-
  Parts of the proof of FnBest: laws of heaps, contracts of functions.
  Conditions: none.
-/
import Derived.Test.YtiefkcaplhnnmaaGreatQFnBest6
namespace Go.Proofs.YtiefkcaplhnnmaaGreat
set_option maxRecDepth 100000
open Go.RowKit
theorem sumO_dim {A : Type} {R : Sm A} {f g : Int → Int} {F : (Int → Int) → A} : ∀ {xs : List Int} {a : Int → Int}, (∀ x ∈ xs, f x = g x) → sumO R f xs F a = sumO R g xs F a
  | [], _, _ => rfl
  | x :: xs, a, h => by
    rw [sumO, sumO, h x (by simp)]; exact sumN_congr R fun v _ => sumO_dim fun y hy => h y (by simp [hy])
section
variable {k p n : Int} (hr : ringL k p n) (hR : RLaw k p n)
theorem val_upd {t : Ten} {x : Int} (h : x ∉ t.l) (a : Int → Int) (v : Int) : val hr t (upd a x v) = val hr t a := by
  unfold val
  rw [List.map_congr_left fun y hy => upd_ne (a := a) (v := v) (show y ≠ x from fun e => h (by rw [← e]; exact hy))]
/-- The product of some tensors at an assignment. -/
noncomputable def prodV (l : List Ten) (a : Int → Int) : El k p n := l.foldr (fun t z => (smL hr hR).mul (val hr t a) z) (smL hr hR).one
theorem prodV_cons (t : Ten) (l : List Ten) (a : Int → Int) : prodV hr hR (t :: l) a = (smL hr hR).mul (val hr t a) (prodV hr hR l a) := rfl
theorem prodV_upd {l : List Ten} {x : Int} (h : ∀ t ∈ l, x ∉ t.l) (a : Int → Int) (v : Int) : prodV hr hR l (upd a x v) = prodV hr hR l a := by
  induction l with
  | nil => rfl
  | cons t l ih => rw [prodV_cons, prodV_cons, val_upd hr (h t (by simp)), ih fun u hu => h u (by simp [hu])]
theorem prodV_perm {l l' : List Ten} (h : l.Perm l') (a : Int → Int) : prodV hr hR l a = prodV hr hR l' a := by
  induction h with
  | nil => rfl
  | cons t _ ih => rw [prodV_cons, prodV_cons, ih]
  | swap t u l =>
    simp only [prodV_cons]; rw [← (smL hr hR).mulA, ← (smL hr hR).mulA, (smL hr hR).mulC (val hr t a)]
  | trans _ _ h1 h2 => rw [h1, h2]
theorem sum_step {L O : List Ten} {t u : Ten} {f g : Int → Int} {K xs xs' : List Int} {a : Int → Int} (hL : L.Perm (t :: u :: O)) (h : PairOK k p n t u g) (hk : KeepOK t u g K) (hfg : ∀ x ∈ joinI t.l u.l, g x = f x)
    (hx : xs.Nodup) (hx' : xs'.Nodup) (hmem : ∀ x, x ∈ xs ↔ x ∈ xs' ∨ (x ∈ joinI t.l u.l ∧ x ∉ K)) (hdis : ∀ x ∈ joinI t.l u.l, x ∉ K → x ∉ xs' ∧ ∀ s ∈ O, x ∉ s.l) (hK : ∀ x ∈ K, x ∈ xs' ∨ (x ∉ xs' ∧ 0 ≤ a x ∧ a x < f x)) :
    sumO (smL hr hR) f xs (prodV hr hR L) a = sumO (smL hr hR) f xs' (prodV hr hR (O ++ [pairT k p n g t u K])) a := by
  have hD : ∀ x, x ∈ ((joinI t.l u.l).filter fun x => decide (x ∉ K)) ↔ x ∈ joinI t.l u.l ∧ x ∉ K := fun x => by rw [List.mem_filter, decide_eq_true_eq]
  have hp : xs.Perm (xs' ++ (joinI t.l u.l).filter fun x => decide (x ∉ K)) := by
    refine (List.perm_ext_iff_of_nodup hx (List.nodup_append.2 ⟨hx', List.Pairwise.filter _ h.nd, fun x h1 y h2 e => ?_⟩)).2 fun x => ?_
    · subst e; obtain ⟨h3, h4⟩ := (hD x).1 h2; exact (hdis x h3 h4).1 h1
    · rw [List.mem_append, hD, hmem]
  rw [sumO_perm _ _ hp, sumO_append]; refine sumO_congr _ _ fun b hb hbr => ?_; have e1 : ∀ c : Int → Int, prodV hr hR L c = (smL hr hR).mul ((smL hr hR).mul (val hr t c) (val hr u c)) (prodV hr hR O c) := fun c => by
    rw [prodV_perm hr hR hL, prodV_cons, prodV_cons, ← (smL hr hR).mulA]
  rw [sumO_congr (smL hr hR) f fun c _ _ => e1 c, sumO_mul (smL hr hR) f (F := fun c => (smL hr hR).mul (val hr t c) (val hr u c)) (G := prodV hr hR O) fun x hx c v => prodV_upd hr hR (hdis x ((hD x).1 hx).1 ((hD x).1 hx).2).2 c v]; rw [← sumO_dim (f := g) fun x hx => hfg x ((hD x).1 hx).1, ← pair_val hr hR h hk fun x hx => ?_]
  · rw [prodV_perm hr hR (List.perm_append_comm (l₁ := O) (l₂ := [pairT k p n g t u K])) b]
    rfl
  · rw [hfg x (hk.sub x hx)]
    rcases hK x hx with h1 | ⟨h1, h2⟩
    · exact hbr x h1
    · rw [hb x h1]; exact h2
variable {ts : List Ten} {op : List Int} {ss : List Stp}
open Classical in
noncomputable def remL (ts : List Ten) (op : List Int) (ss : List Stp) (i : Nat) : List Int := (labelsL ts).filter fun x => decide (x ∉ op ∧ ∃ j ∈ (runS ts op ss i).ixs, x ∈ (runS ts op ss i).lab j)
theorem mem_rem {i : Nat} {x : Int} : x ∈ remL ts op ss i ↔ x ∈ labelsL ts ∧ x ∉ op ∧ ∃ j ∈ (runS ts op ss i).ixs, x ∈ (runS ts op ss i).lab j := by
  unfold remL
  rw [List.mem_filter, decide_eq_true_eq]
theorem rem_nodup (ts : List Ten) (op : List Int) (ss : List Stp) (i : Nat) : (remL ts op ss i).Nodup := List.Pairwise.filter _ (labels_nodup ts 100)
theorem RunOK.labs {i : Nat} (r : RunOK k p n ts op ss i) {j : Nat} (hj : j < ts.length + i) {x : Int} (hx : x ∈ (runS ts op ss i).lab j) : x ∈ labelsL ts := by
  obtain ⟨h1, h2, h3⟩ := r.get hj; rw [← h2] at hx; have hg := findI_get hx; have ha := (ten_axes h1).2.2 _ hg.1
  unfold axP at ha
  rw [hg.2] at ha; refine mem_labels.2 ⟨by omega, ?_⟩; have e : ((runTo k p n ts op ss i).getD j noTen).d.getD (findI ((runTo k p n ts op ss i).getD j noTen).l x).toNat 0 = dimOf ts x := by
    conv => lhs; rw [h3]
    rw [map_getD hg.1, hg.2]
  rw [e] at ha
  omega
theorem run_sum_step (h : orderL k p n ts op ss) {i : Nat} (hi : i < ss.length) (r : RunOK k p n ts op ss i) (hf : runFit k p n ts op ss i) {a : Int → Int} (ha : ∀ x ∈ op, 0 ≤ a x ∧ a x < dimOf ts x) :
    sumO (smL hr hR) (dimOf ts) (remL ts op ss i) (prodV hr hR (outTo k p n ts op ss i)) a = sumO (smL hr hR) (dimOf ts) (remL ts op ss (i + 1)) (prodV hr hR (outTo k p n ts op ss (i + 1))) a := by
  obtain ⟨hst, hs1, hl⟩ := run_step h hi; obtain ⟨⟨ta, la, da⟩, ⟨tb, lb, db⟩⟩ := r.two h hi; have hkept := r.kept h hi; obtain ⟨hla, hlb, hab⟩ := hst; have hia := (live_ixs.1 hla).2; have hib := (live_ixs.1 hlb).2; have hne : (stpAt ss i).a.toNat ≠ (stpAt ss i).b.toNat := by have := hla.1; omega
  have hok := pair_ok hf.1 hf.2.1 hf.2.2.1 hf.2.2.2.1; have hkk := keep_ok hok hf.2.2.2.2; have hsok := (run_fine (ss := ss) h.1 i).1; have hixs : (runS ts op ss (i + 1)).ixs = ((runS ts op ss i).ixs.filter fun j => decide (j ≠ (stpAt ss i).a.toNat ∧ j ≠ (stpAt ss i).b.toNat)) ++ [(runS ts op ss i).all.length] := by rw [hs1, step_ixs hsok]
  have hJ : ∀ x, x ∈ joinI (runA k p n ts op ss i).l (runB k p n ts op ss i).l ↔ x ∈ (runS ts op ss i).lab (stpAt ss i).a.toNat ∨ x ∈ (runS ts op ss i).lab (stpAt ss i).b.toNat := fun x => by rw [mem_joinI, la, lb]
  have hK : ∀ x, x ∈ runK ts op ss i ↔ x ∈ joinI (runA k p n ts op ss i).l (runB k p n ts op ss i).l ∧ (runS ts op ss i).kept op (stpAt ss i).a.toNat (stpAt ss i).b.toNat x := fun x => by
    rw [hJ]
    show x ∈ Sh.res op (runS ts op ss i) _ _ ↔ _
    simp only [Sh.res, List.mem_filter, mem_joinI, decide_eq_true_eq]
  have hlab : ∀ j ∈ (runS ts op ss i).ixs, (runS ts op ss (i + 1)).lab j = (runS ts op ss i).lab j := fun j hj => by rw [hs1, step_lab (mem_ixs.1 hj).1]
  have hnew : (runS ts op ss (i + 1)).lab (runS ts op ss i).all.length = runK ts op ss i := by rw [hs1, step_lab_new]; rfl
  have hlt : ∀ j ∈ (runS ts op ss i).ixs, j < ts.length + i := fun j hj => by have := (mem_ixs.1 hj).1; omega
  have hmem1 : ∀ x, (∃ j ∈ (runS ts op ss (i + 1)).ixs, x ∈ (runS ts op ss (i + 1)).lab j) ↔ (∃ j ∈ (runS ts op ss i).ixs, j ≠ (stpAt ss i).a.toNat ∧ j ≠ (stpAt ss i).b.toNat ∧ x ∈ (runS ts op ss i).lab j) ∨ x ∈ runK ts op ss i := fun x => by
    rw [hixs]
    constructor
    · rintro ⟨j, hj, hx⟩
      rcases List.mem_append.1 hj with hj | hj
      · obtain ⟨h1, h2⟩ := List.mem_filter.1 hj; rw [decide_eq_true_eq] at h2; rw [hlab j h1] at hx; exact .inl ⟨j, h1, h2.1, h2.2, hx⟩
      · rw [List.mem_singleton.1 hj, hnew] at hx; exact .inr hx
    · rintro (⟨j, h1, h2, h3, hx⟩ | hx)
      · exact ⟨j, List.mem_append_left _ (List.mem_filter.2 ⟨h1, decide_eq_true ⟨h2, h3⟩⟩), by rw [hlab j h1]; exact hx⟩
      · exact ⟨_, List.mem_append_right _ (List.mem_singleton.2 rfl), by rw [hnew]; exact hx⟩
  have eout : outTo k p n ts op ss (i + 1) = (((runS ts op ss i).ixs.filter fun j => decide (j ≠ (stpAt ss i).a.toNat ∧ j ≠ (stpAt ss i).b.toNat)).map fun j => (runTo k p n ts op ss i).getD j noTen) ++ [pairT k p n (dimJ (runA k p n ts op ss i) (runB k p n ts op ss i)) (runA k p n ts op ss i) (runB k p n ts op ss i) (runK ts op ss i)] := by
    obtain ⟨pa, hpa⟩ := List.getElem?_of_mem hia; obtain ⟨pb, hpb⟩ := List.getElem?_of_mem hib; rw [out_step h hi r hpa hpb, out_len]
    unfold outTo
    rw [dropK_ixs _ hpa hpb _ (Nat.le_refl _), List.take_length, pairR, if_pos (show pairP k p n (runA k p n ts op ss i) (runB k p n ts op ss i) (runK ts op ss i) from hf), hkept]
  rw [eout]; rw [hkept] at hkk; refine sum_step hr hR (t := runA k p n ts op ss i) (u := runB k p n ts op ss i) ?_ hok hkk ?_ (rem_nodup ts op ss i) (rem_nodup ts op ss (i + 1)) ?_ ?_ ?_
  · have hperm : (runS ts op ss i).ixs.Perm ((stpAt ss i).a.toNat :: (stpAt ss i).b.toNat :: ((runS ts op ss i).ixs.filter fun j => decide (j ≠ (stpAt ss i).a.toNat ∧ j ≠ (stpAt ss i).b.toNat))) := by
      refine (List.perm_ext_iff_of_nodup (ixs_nodup _) ?_).2 fun j => ?_
      · refine List.nodup_cons.2 ⟨?_, List.nodup_cons.2 ⟨?_, List.Pairwise.filter _ (ixs_nodup _)⟩⟩
        · rw [List.mem_cons, List.mem_filter, decide_eq_true_eq]; rintro (e | e)
          · exact hne e
          · exact e.2.1 rfl
        · rw [List.mem_filter, decide_eq_true_eq]; exact fun e => e.2.2 rfl
      · rw [List.mem_cons, List.mem_cons, List.mem_filter, decide_eq_true_eq]
        constructor
        · intro hj
          by_cases c1 : j = (stpAt ss i).a.toNat
          · exact .inl c1
          · by_cases c2 : j = (stpAt ss i).b.toNat
            · exact .inr (.inl c2)
            · exact .inr (.inr ⟨hj, c1, c2⟩)
        · rintro (e | e | e)
          · rw [e]; exact hia
          · rw [e]; exact hib
          · exact e.1
    exact hperm.map fun j => (runTo k p n ts op ss i).getD j noTen
  · exact fun x hx => dimJ_f da db hx
  · intro x; rw [mem_rem, mem_rem, hmem1]
    constructor
    · rintro ⟨h1, h2, j, hj, hx⟩
      by_cases c1 : x ∈ runK ts op ss i
      · exact .inl ⟨h1, h2, .inr c1⟩
      · by_cases c2 : j ≠ (stpAt ss i).a.toNat ∧ j ≠ (stpAt ss i).b.toNat
        · exact .inl ⟨h1, h2, .inl ⟨j, hj, c2.1, c2.2, hx⟩⟩
        · refine .inr ⟨(hJ x).2 ?_, c1⟩
          by_cases c3 : j = (stpAt ss i).a.toNat
          · rw [← c3]; exact .inl hx
          · have c4 : j = (stpAt ss i).b.toNat := Classical.byContradiction fun e => c2 ⟨c3, e⟩; rw [← c4]; exact .inr hx
    · rintro (⟨h1, h2, ⟨j, hj, _, _, hx⟩ | hx⟩ | ⟨h1, h2⟩)
      · exact ⟨h1, h2, j, hj, hx⟩
      · rcases (hJ x).1 ((hK x).1 hx).1 with h3 | h3
        · exact ⟨h1, h2, _, hia, h3⟩
        · exact ⟨h1, h2, _, hib, h3⟩
      · have hno : x ∉ op := fun e => h2 ((hK x).2 ⟨h1, .inl e⟩)
        rcases (hJ x).1 h1 with h3 | h3
        · exact ⟨r.labs (hlt _ hia) h3, hno, _, hia, h3⟩
        · exact ⟨r.labs (hlt _ hib) h3, hno, _, hib, h3⟩
  · intro x h1 h2; have hnk : ¬ (runS ts op ss i).kept op (stpAt ss i).a.toNat (stpAt ss i).b.toNat x := fun e => h2 ((hK x).2 ⟨h1, e⟩); refine ⟨fun e => ?_, fun s hs => ?_⟩
    · rcases (hmem1 x).1 (mem_rem.1 e).2.2 with ⟨j, hj, h3, h4, h5⟩ | h3
      · exact hnk (.inr ⟨j, hj, h3, h4, h5⟩)
      · exact h2 h3
    · obtain ⟨j, hj, rfl⟩ := List.mem_map.1 hs; obtain ⟨h3, h4⟩ := List.mem_filter.1 hj; rw [decide_eq_true_eq] at h4; rw [(r.get (hlt j h3)).2.1]; exact fun e => hnk (.inr ⟨j, h3, h4.1, h4.2, e⟩)
  · intro x hx; obtain ⟨h1, _⟩ := (hK x).1 hx
    by_cases c : x ∈ op
    · exact .inr ⟨fun e => (mem_rem.1 e).2.1 c, ha x c⟩
    · refine .inl (mem_rem.2 ⟨?_, c, (hmem1 x).2 (.inr hx)⟩)
      rcases (hJ x).1 h1 with h3 | h3
      · exact r.labs (hlt _ hia) h3
      · exact r.labs (hlt _ hib) h3
theorem run_sum (h : orderL k p n ts op ss) {a : Int → Int} (ha : ∀ x ∈ op, 0 ≤ a x ∧ a x < dimOf ts x) : ∀ i, i ≤ ss.length → (∀ j, j < i → runFit k p n ts op ss j) →
    sumO (smL hr hR) (dimOf ts) (remL ts op ss 0) (prodV hr hR ts) a = sumO (smL hr hR) (dimOf ts) (remL ts op ss i) (prodV hr hR (outTo k p n ts op ss i)) a
  | 0, _, _ => by rw [out_zero]
  | i + 1, hi, hf => by
    rw [run_sum h ha i (by omega) fun j hj => hf j (by omega)]; exact run_sum_step hr hR h (by omega) (run_ok h i (by omega) fun j hj => hf j (by omega)) (hf i (by omega)) ha
end
end Go.Proofs.YtiefkcaplhnnmaaGreat
namespace Go.Proofs.YtiefkcaplhnnmaaGreat
set_option maxRecDepth 100000
open Go.RowKit
section
variable {k p n : Int} (hr : ringL k p n) (hR : RLaw k p n)
theorem val_one (a : Int → Int) : val hr (oneT k p n) a = (smL hr hR).one := by
  have h1 := oneL_in hr; have e : elt (oneT k p n).x (widthI k n) (offL (oneT k p n).d ((oneT k p n).l.map a)) = oneL k p n := by
    show ((oneL k p n).drop ((0 : Int) * widthI k n).toNat).take (widthI k n).toNat = oneL k p n
    rw [Int.zero_mul]
    show (oneL k p n).take (widthI k n).toNat = _
    rw [← h1.1, List.take_length]
  unfold val
  rw [e, toA_eq hr h1]; rfl
variable {ts : List Ten} {op : List Int}
theorem rem_zero (h : netL k p n ts op) (ss : List Stp) : remL ts [] ss 0 = labelsL ts := by
  unfold remL
  refine List.filter_eq_self.2 fun x hx => ?_; rw [decide_eq_true_eq]; refine ⟨by simp, ?_⟩; obtain ⟨t, ht, hxt⟩ := dimOf_mem (ts := ts) (x := x) (by have := (mem_labels.1 hx).2; omega); obtain ⟨m, hm⟩ := List.getElem?_of_mem ht; have hml := (List.getElem?_eq_some_iff.1 hm).1; have e0 : runS ts [] ss 0 = sh0 ts := rfl; refine ⟨m, by rw [e0, sh0_ixs]; simpa using hml, ?_⟩; rw [e0]
  simpa [Sh.lab, sh0, List.getD, hm] using hxt
theorem sum_val {t : Ten} (ht : tensorL k p n t.l t.d t.x) (a : Int → Int) : val hr (sumR k p n t []) a = sumO (smL hr hR) (dimJ t (oneT k p n)) (joinI t.l []) (val hr t) a := by
  have hp := sum_pair ht []; have hok := pair_ok hp.1 hp.2.1 hp.2.2.1 hp.2.2.2.1; have hkk := keep_ok hok hp.2.2.2.2; have hk0 : keepL t (oneT k p n) [] = [] := by unfold keepL; simp
  rw [hk0] at hkk; rw [sumR, if_pos ht, hk0, pair_val hr hR hok hkk (fun x hx => by simp at hx)]; have e1 : (joinI t.l (oneT k p n).l).filter (fun x => decide (x ∉ ([] : List Int))) = joinI t.l [] := List.filter_eq_self.2 fun x _ => by simp
  rw [e1]; exact sumO_congr _ _ fun b _ _ => by rw [val_one hr hR, (smL hr hR).mulC, (smL hr hR).mul1]
/-- A network's total is the sum over all labels of the product of its tensors. -/
theorem tot_sum (h : totP k p n ts op) (a : Int → Int) : toA hr (totX k p n ts op) = sumO (smL hr hR) (dimOf ts) (labelsL ts) (prodV hr hR ts) a := by
  obtain ⟨hnet, ho, hf⟩ := h; rw [totX_yes ⟨hnet, ho, hf⟩]
  by_cases h0 : ts.length = 0
  · have e := List.eq_nil_of_length_eq_zero h0; subst e; have el : labelsL ([] : List Ten) = [] := List.eq_nil_iff_forall_not_mem.2 fun x hx => by
      have := (mem_labels.1 hx).2
      simp [dimOf] at this
    rw [el, conT, if_pos (show ([] : List Ten).length = 0 from rfl)]
    show toA hr (oneL k p n) = (smL hr hR).one
    rw [toA_eq hr (oneL_in hr)]; rfl
  · obtain ⟨hfin, hout⟩ := conP.last ⟨ho, hf⟩ h0; have hrun := run_sum hr hR ho (a := a) (fun x hx => by simp at hx) (plainL ts.length).length (Nat.le_refl _) hf; rw [rem_zero hnet, hout] at hrun; rw [hrun, conT, if_neg h0]; have ht := hfin.2.1; have r := run_ok ho (plainL ts.length).length (Nat.le_refl _) hf; have hl := run_left ho (fun e => h0 (by rw [e]; rfl)); have hg := r.get (j := ts.length + (plainL ts.length).length - 1) (by omega); obtain ⟨s1, s2, s3⟩ := sum_ten ht []; have hk0 : keepL (lastT k p n ts [] (plainL ts.length)) (oneT k p n) [] = [] := by unfold keepL; simp
    rw [hk0] at s2 s3; have ex : (finT k p n (lastT k p n ts [] (plainL ts.length)) []).x = elt (sumR k p n (lastT k p n ts [] (plainL ts.length)) []).x (widthI k n) 0 := by
      show ((List.range 1).flatMap fun (i : Nat) => elt (sumR k p n (lastT k p n ts [] (plainL ts.length)) []).x (widthI k n) (offL (sumR k p n (lastT k p n ts [] (plainL ts.length)) []).d (idxAt [] (idxL [] i) (sumR k p n (lastT k p n ts [] (plainL ts.length)) []).l))) = _
      rw [s2, s3]
      simp [offL]
    have ev := sum_val hr hR ht a; have ev2 : val hr (sumR k p n (lastT k p n ts [] (plainL ts.length)) []) a = toA hr (elt (sumR k p n (lastT k p n ts [] (plainL ts.length)) []).x (widthI k n) 0) := by
      unfold val
      rw [s2, s3]; rfl
    rw [ex, ← ev2, ev]; have hnd := axes_nodup (ten_axes ht); have hperm : (joinI (lastT k p n ts [] (plainL ts.length)).l []).Perm (remL ts [] (plainL ts.length) (plainL ts.length).length) := by
      refine (List.perm_ext_iff_of_nodup (joinI_nodup hnd List.nodup_nil) (rem_nodup _ _ _ _)).2 fun x => ?_; rw [mem_joinI, mem_rem, hl]
      constructor
      · rintro (hx | hx)
        · have hx' : x ∈ (runS ts [] (plainL ts.length) (plainL ts.length).length).lab (ts.length + (plainL ts.length).length - 1) := by rw [← hg.2.1]; exact hx
          exact ⟨r.labs (by omega) hx', by simp, _, List.mem_singleton.2 rfl, hx'⟩
        · simp at hx
      · rintro ⟨_, _, j, hj, hx⟩; rw [List.mem_singleton.1 hj, ← hg.2.1] at hx; exact .inl hx
    rw [sumO_dim (f := dimJ (lastT k p n ts [] (plainL ts.length)) (oneT k p n)) (g := dimOf ts) (xs := joinI (lastT k p n ts [] (plainL ts.length)).l []) (fun x hx => dimJ_f (t := lastT k p n ts [] (plainL ts.length)) (u := oneT k p n) (f := dimOf ts) hg.2.2 rfl hx), sumO_perm _ _ hperm]; refine sumO_congr _ _ fun b _ _ => ?_
    show _ = (smL hr hR).mul _ (smL hr hR).one
    rw [(smL hr hR).mulC, (smL hr hR).mul1]
end
end Go.Proofs.YtiefkcaplhnnmaaGreat
namespace Go.Proofs.YtiefkcaplhnnmaaGreat
set_option maxRecDepth 100000
open Go.RowKit
theorem idx_off : ∀ {ds is : List Int}, (∀ d ∈ ds, 1 ≤ d) → idxIn ds is → idxL ds (offL ds is) = is
  | [], [], _, _ => rfl
  | [], i :: is, _, h => by have := h.1; simp at this
  | d :: ds, [], _, h => by have := h.1; simp at this
  | d :: ds, i :: is, hd, hi => by
    have hd' : ∀ x ∈ ds, 1 ≤ x := fun x hx => hd x (by simp [hx]); have tl : idxIn ds is := ⟨by have := hi.1; simpa using this, fun q hq => by
      have := hi.2 (q + 1) (by simp; omega)
      simpa using this⟩
    have hd0 := hi.2 0 (by simp); simp only [List.getD_cons_zero] at hd0; have ho := offL_in hd' tl; have hP := prodI_one hd'
    show idxL (d :: ds) (i * prodI ds + offL ds is) = _
    rw [idxL_cons, idxL_shift hd', idx_off hd' tl]
    congr 1
    rw [Int.add_comm, Int.add_mul_ediv_right _ _ (by omega), Int.ediv_eq_zero_of_lt (by omega) (by omega), Int.zero_add]; exact Int.emod_eq_of_lt hd0.1 hd0.2
theorem ins_map {x v : Int} {a : Int → Int} : ∀ {l : List Int} {j : Nat}, l.Nodup → j < l.length → l.getD j 0 = x → ((l.eraseIdx j).map a).insertIdx j v = l.map (upd a x v)
  | [], j, _, h, _ => by simp at h
  | y :: l, 0, hn, _, hx => by
    obtain ⟨hy, _⟩ := List.nodup_cons.1 hn; simp only [List.getD_cons_zero] at hx; subst hx; rw [List.eraseIdx_zero, List.tail_cons, List.insertIdx_zero, List.map_cons, upd_at]
    congr 1
    exact List.map_congr_left fun z hz => (upd_ne fun e => hy (by rw [← e]; exact hz)).symm
  | y :: l, j + 1, hn, hj, hx => by
    obtain ⟨hy, hn'⟩ := List.nodup_cons.1 hn; have hj' : j < l.length := by simpa using hj
    rw [List.getD_cons_succ] at hx; have hxl : x ∈ l := by rw [← hx]; exact mem_getD hj'
    rw [List.eraseIdx_cons_succ, List.map_cons, List.insertIdx_succ_cons, List.map_cons, ins_map hn' hj' hx, upd_ne (fun e => hy (by rw [e]; exact hxl))]
section
variable {k p n : Int} (hr : ringL k p n) (hR : RLaw k p n)
theorem val_fix {t : Ten} {x v : Int} {f a : Int → Int} (ht : tensorL k p n t.l t.d t.x) (hd : t.d = t.l.map f) (hv : 0 ≤ v ∧ v < f x) (ha : ∀ y ∈ t.l, y ≠ x → 0 ≤ a y ∧ a y < f y) : val hr (fix1 k n t x v) a = val hr t (upd a x v) := by
  by_cases hx : x ∈ t.l
  · have ok := sl_ok ht hd hx hv; have hj := sl_j ht hx; have hn := axes_nodup (ten_axes ht); have hd1 : ∀ d ∈ t.d, 1 ≤ d := fun d hd => (dims_mem (axes_dims (ten_axes ht)) d hd).1; have hd2 : ∀ d ∈ t.d.eraseIdx (slJ t x), 1 ≤ d := erase_mem hd1; have hw := width_range ht.1; have hidx : idxIn (t.d.eraseIdx (slJ t x)) ((t.l.eraseIdx (slJ t x)).map a) := by
      have e : t.d.eraseIdx (slJ t x) = (t.l.eraseIdx (slJ t x)).map f := by rw [map_erase, ← hd]
      rw [e]; refine idx_map fun y hy => ?_; have := (mem_erase hn hx).1 hy; exact ha y this.1 this.2
    have ho := offL_in hd2 hidx; have hpo := prodI_one hd2; rw [show fix1 k n t x v = slT k n t x v from if_pos hx]; have e1 : elt (slT k n t x v).x (widthI k n) (offL (t.d.eraseIdx (slJ t x)) ((t.l.eraseIdx (slJ t x)).map a)) = elt t.x (widthI k n) (offL t.d (t.l.map (upd a x v))) := by
      show elt (slX (widthI k n) t (slJ t x) v (prodI t.d).toNat) (widthI k n) _ = _
      rw [ok.eq, slY]; obtain ⟨m, hm⟩ : ∃ m : Nat, offL (t.d.eraseIdx (slJ t x)) ((t.l.eraseIdx (slJ t x)).map a) = m := ⟨_, (Int.toNat_of_nonneg ho.1).symm⟩
      have hel : ∀ q ∈ (List.range (prodI (t.d.eraseIdx (slJ t x))).toNat).map (slAt t.d (slJ t x) v), (elt t.x (widthI k n) ((q : Nat) : Int)).length = (widthI k n).toNat := fun q hq => by
        obtain ⟨q', _, rfl⟩ := List.mem_map.1 hq; exact (ok.el q').1
      have := elt_flat hel (i := m) (by simp; omega); rw [show (((widthI k n).toNat : Nat) : Int) = widthI k n by omega] at this; rw [hm, this]
      congr 1
      rw [List.getElem_map, List.getElem_range]
      show (((offL t.d ((idxL (t.d.eraseIdx (slJ t x)) (m : Int)).insertIdx (slJ t x) v)).toNat : Nat) : Int) = _
      have hin := sl_in hd1 hj.2.1 ok.val (m : Int); rw [Int.toNat_of_nonneg hin.1, ← hm, idx_off hd2 hidx, ins_map hn hj.1 hj.2.2]
    show toA hr (elt (slT k n t x v).x (widthI k n) (offL (t.d.eraseIdx (slJ t x)) ((t.l.eraseIdx (slJ t x)).map a))) = _
    rw [e1]; rfl
  · rw [show fix1 k n t x v = t from if_neg hx, val_upd hr hx]
theorem sumO_upd {A : Type} {R : Sm A} {f : Int → Int} {F : (Int → Int) → A} {x v : Int} : ∀ {xs : List Int} {a : Int → Int}, x ∉ xs → sumO R f xs (fun b => F (upd b x v)) a = sumO R f xs F (upd a x v)
  | [], _, _ => rfl
  | y :: xs, a, h => by
    have hne : x ≠ y := fun e => h (by rw [e]; simp); rw [sumO, sumO]; refine sumN_congr R fun w _ => ?_; rw [sumO_upd fun e => h (by simp [e]), upd_swap a hne.symm]
variable {ts : List Ten} {op op' : List Int} {x : Int}
theorem sl_labels (h : netL k p n ts op) (hx : x ∈ labelsL ts) {v : Int} (hv : 0 ≤ v ∧ v < dimOf ts x) : (labelsL ts).Perm (x :: labelsL (ts.map fun t => fix1 k n t x v)) := by
  have hno : x ∉ labelsL (ts.map fun t => fix1 k n t x v) := fun e => by
    obtain ⟨t, ht, hxt⟩ := dimOf_mem (by have := (mem_labels.1 e).2; omega : dimOf (ts.map fun t => fix1 k n t x v) x ≠ 0); obtain ⟨u, hu, rfl⟩ := List.mem_map.1 ht; have := (fix1_mem (h.2.2.1 u hu)).1 hxt; exact this.2 this.1 rfl
  refine (List.perm_ext_iff_of_nodup (labL_nodup ts) (List.nodup_cons.2 ⟨hno, labL_nodup _⟩)).2 fun y => ?_; rw [List.mem_cons]
  constructor
  · intro hy
    by_cases c : y = x
    · exact .inl c
    · have hm := mem_labels.1 hy; exact .inr (mem_labels.2 ⟨hm.1, by rw [fix1_dim h hv c]; exact hm.2⟩)
  · rintro (e | hy)
    · rw [e]; exact hx
    · have hne : y ≠ x := fun e => by subst e; exact hno hy
      have hm := mem_labels.1 hy; rw [fix1_dim h hv hne] at hm; exact mem_labels.2 hm
theorem tot_slice (h : netL k p n ts op) (hx : x ∈ labelsL ts) {v : Int} (hv : 0 ≤ v ∧ v < dimOf ts x) (ht : totP k p n (ts.map fun t => fix1 k n t x v) op') (a : Int → Int) :
    toA hr (totX k p n (ts.map fun t => fix1 k n t x v) op') = sumO (smL hr hR) (dimOf ts) (labelsL (ts.map fun t => fix1 k n t x v)) (prodV hr hR ts) (upd a x v) := by
  have hperm := sl_labels h hx hv; have hnd := (List.nodup_cons.1 (hperm.nodup_iff.1 (labL_nodup ts))).1; have hdm := net_dmap h; rw [tot_sum hr hR ht a, ← sumO_upd hnd]; have hne : ∀ y ∈ labelsL (ts.map fun t => fix1 k n t x v), y ≠ x := fun y hy e => by subst e; exact hnd hy
  rw [sumO_dim (g := dimOf ts) fun y hy => fix1_dim h hv (hne y hy)]; refine sumO_congr _ _ fun b _ hb => ?_; have hall : ∀ t ∈ ts, ∀ y ∈ t.l, y ≠ x → 0 ≤ b y ∧ b y < dimOf ts y := fun t htm y hy hyx => by
    have hyl : y ∈ labelsL ts := by
      have hg := findI_get hy; have ha := (ten_axes (h.2.2.1 t htm)).2.2 _ hg.1
      unfold axP at ha
      rw [hg.2] at ha; have e : t.d.getD (findI t.l y).toNat 0 = dimOf ts y := by
        conv => lhs; rw [hdm t htm]
        rw [map_getD hg.1, hg.2]
      rw [e] at ha; exact mem_labels.2 ⟨by omega, by omega⟩
    exact hb y ((List.mem_cons.1 (hperm.mem_iff.1 hyl)).resolve_left hyx)
  have hsub : ∀ l : List Ten, (∀ t ∈ l, t ∈ ts) → prodV hr hR (l.map fun t => fix1 k n t x v) b = prodV hr hR l (upd b x v) := fun l => by
    induction l with
    | nil => intro _; rfl
    | cons t l ih =>
      intro hl; have htm := hl t (by simp); rw [List.map_cons, prodV_cons, prodV_cons, ih fun u hu => hl u (by simp [hu]), val_fix hr (h.2.2.1 t htm) (hdm t htm) hv fun y hy hyx => hall t htm y hy hyx]
  exact hsub ts fun _ h => h
/-- A total is the sum of the totals of the slices at a label. -/
theorem tot_split (h : totP k p n ts op) (hx : x ∈ labelsL ts) (hs : ∀ v : Nat, (v : Int) < dimOf ts x → totP k p n (ts.map fun t => fix1 k n t x v) op') :
    toA hr (totX k p n ts op) = sumN (smL hr hR) (fun (v : Nat) => toA hr (totX k p n (ts.map fun t => fix1 k n t x v) op')) (dimOf ts x).toNat := by
  have hd := (mem_labels.1 hx).2; have a0 : Int → Int := fun _ => 0; have hperm := sl_labels h.1 hx (v := 0) ⟨Int.le_refl 0, hd⟩; rw [tot_sum hr hR h a0, sumO_perm _ _ hperm, sumO]; refine sumN_congr _ fun v hv => ?_; rw [tot_slice hr hR h.1 hx ⟨by omega, by omega⟩ (hs v (by omega)) a0]; have h2 := sl_labels h.1 hx (v := (v : Int)) ⟨by omega, by omega⟩; exact sumO_perm _ _ (hperm.symm.trans h2).cons_inv _
end
end Go.Proofs.YtiefkcaplhnnmaaGreat
namespace Go.Proofs.YtiefkcaplhnnmaaGreat
set_option maxRecDepth 100000
open Go.RowKit
abbrev neQ (x : Int) : Int → Bool := fun y => decide (y ≠ x)
theorem joinI_cut (x : Int) (a b : List Int) : joinI (a.filter (neQ x)) (b.filter (neQ x)) = (joinI a b).filter (neQ x) := by
  unfold joinI
  rw [List.filter_append, List.filter_filter, List.filter_filter]
  congr 1
  refine List.filter_congr fun y _ => ?_; rw [Bool.eq_iff_iff]; simp only [Bool.and_eq_true, decide_eq_true_eq, List.mem_filter]
  constructor
  · rintro ⟨h1, h2⟩; exact ⟨h2, fun e => h1 ⟨e, h2⟩⟩
  · rintro ⟨h1, h2⟩; exact ⟨fun e => h2 e.1, h1⟩
def Sh.cut (x : Int) (s : Sh) : Sh := ⟨s.all.map (fun l => l.filter (neQ x)), s.gone⟩
theorem cut_lab (x : Int) (s : Sh) (i : Nat) : (s.cut x).lab i = (s.lab i).filter (neQ x) := by
  unfold Sh.lab Sh.cut
  simp only [List.getD, List.getElem?_map]
  cases s.all[i]? <;> simp
theorem cut_ixs (x : Int) (s : Sh) : (s.cut x).ixs = s.ixs := by
  unfold Sh.ixs Sh.cut
  rw [List.length_map]
theorem cut_res (x : Int) (s : Sh) (a b : Nat) : (s.cut x).res [] a b = (s.res [] a b).filter (neQ x) := by
  unfold Sh.res
  rw [cut_lab, cut_lab, joinI_cut, List.filter_filter, List.filter_filter]; refine List.filter_congr fun y _ => ?_; rw [Bool.eq_iff_iff]; simp only [Bool.and_eq_true, decide_eq_true_eq]
  unfold Sh.kept
  rw [cut_ixs]; simp only [cut_lab, List.mem_filter, decide_eq_true_eq]
  constructor
  · rintro ⟨h1 | ⟨i, hi, h2, h3, h4, _⟩, h5⟩
    · simp at h1
    · exact ⟨h5, .inr ⟨i, hi, h2, h3, h4⟩⟩
  · rintro ⟨h5, h1 | ⟨i, hi, h2, h3, h4⟩⟩
    · simp at h1
    · exact ⟨.inr ⟨i, hi, h2, h3, h4, h5⟩, h5⟩
theorem cut_step (x : Int) (s : Sh) (a b : Nat) : (s.cut x).step [] a b = (s.step [] a b).cut x := by
  have e := cut_res x s a b
  unfold Sh.step
  rw [e]
  simp [Sh.cut]
theorem cut_shTo (x : Int) : ∀ (ss : List Stp) (s : Sh), shTo [] (s.cut x) ss = (shTo [] s ss).cut x
  | [], _ => rfl
  | y :: ss, s => by
    show shTo [] ((s.cut x).step [] y.a.toNat y.b.toNat) ss = (shTo [] (s.step [] y.a.toNat y.b.toNat) ss).cut x
    rw [cut_step, cut_shTo x ss]
theorem cut_stepOk (x : Int) (s : Sh) (y : Stp) : stepOk (s.cut x) y ↔ stepOk s y := by
  unfold stepOk Sh.live Sh.cut
  simp only [List.length_map]
theorem prod_filter {f : Int → Int} (q : Int → Bool) : ∀ {l : List Int}, (∀ x ∈ l, 1 ≤ f x) → prodI ((l.filter q).map f) ≤ prodI (l.map f) ∧ 1 ≤ prodI ((l.filter q).map f)
  | [], _ => by simp [prodI]
  | x :: l, h => by
    have ih := prod_filter q (l := l) fun y hy => h y (by simp [hy]); have hx := h x (by simp); rw [List.map_cons, prodI_cons]
    by_cases c : q x = true
    · rw [List.filter_cons_of_pos c, List.map_cons, prodI_cons]; have h1 := Int.mul_le_mul_of_nonneg_left ih.1 (show 0 ≤ f x by omega); have h2 := Int.mul_le_mul_of_nonneg_left ih.2 (show 0 ≤ f x by omega)
      omega
    · rw [List.filter_cons_of_neg c]; have h1 := Int.mul_le_mul_of_nonneg_right hx (show 0 ≤ prodI (l.map f) by omega)
      omega
theorem size_cut {f g : Int → Int} {q : Int → Bool} {K : List Int} (h : 0 ≤ sizeI K (K.map f)) (hfg : ∀ y ∈ K.filter q, g y = f y) : 0 ≤ sizeI (K.filter q) ((K.filter q).map g) := by
  obtain ⟨ha, hp⟩ := sizeI_ge.1 h; have hn := axes_nodup ha; have hat : ∀ y ∈ K, (0 ≤ y ∧ y ≤ 99) ∧ (1 ≤ f y ∧ f y ≤ 8) := fun y hy => by
    obtain ⟨i, hi, e⟩ := getD_of_mem hy; have h1 := ha.2.2 i hi
    unfold axP at h1
    rw [map_getD hi, e] at h1; exact ⟨h1.1, h1.2.1⟩
  have e : (K.filter q).map g = (K.filter q).map f := List.map_congr_left hfg; rw [e]; refine sizeI_ge.2 ⟨⟨?_, by simp, fun j hj => ?_⟩, ?_⟩
  · have := List.length_filter_le q K; have := ha.1
    omega
  · have hm := (List.mem_filter.1 (mem_getD hj)).1; have h1 := hat _ hm
    unfold axP
    rw [map_getD hj]; exact ⟨h1.1, h1.2, nodup_not_take (hn.sublist List.filter_sublist) hj⟩
  · have := (prod_filter (f := f) q (l := K) fun y hy => (hat y hy).2.1).1
    omega
section
variable {k p n : Int} {ts : List Ten} {op : List Int} {x v : Int}
theorem fix1_l {t : Ten} (h : tensorL k p n t.l t.d t.x) : (fix1 k n t x v).l = t.l.filter (neQ x) := by
  unfold fix1
  by_cases hx : x ∈ t.l
  · rw [if_pos hx]
    show t.l.eraseIdx (findI t.l x).toNat = _
    rw [← erase_filter (axes_nodup (ten_axes h)) hx]
  · rw [if_neg hx]; exact (List.filter_eq_self.2 fun y hy => by have hne : y ≠ x := (fun e => hx (by rw [← e]; exact hy)); simpa using hne).symm
theorem sh0_cut (h : netL k p n ts op) : sh0 (ts.map fun t => fix1 k n t x v) = (sh0 ts).cut x := by
  unfold sh0 Sh.cut
  rw [List.map_map, List.map_map, List.length_map]
  congr 1
  exact List.map_congr_left fun t ht => fix1_l (h.2.2.1 t ht)
theorem run_cut (h : netL k p n ts op) (ss : List Stp) (i : Nat) : runS (ts.map fun t => fix1 k n t x v) [] ss i = (runS ts [] ss i).cut x := by
  unfold runS
  rw [sh0_cut h, cut_shTo]
theorem order_cut {ss : List Stp} (h : orderL k p n ts [] ss) (hv : 0 ≤ v ∧ v < dimOf ts x) : orderL k p n (ts.map fun t => fix1 k n t x v) [] ss := by
  refine ⟨by simpa using fix1_net h.1 hv, by rw [List.length_map]; exact h.2.1, fun i hi y hy => ?_⟩; rw [sh0_cut h.1, cut_shTo, cut_stepOk]; exact h.2.2 i hi y hy
theorem fit_cut {ss : List Stp} (h : orderL k p n ts [] ss) (hv : 0 ≤ v ∧ v < dimOf ts x) (hf : ∀ j, j < ss.length → runFit k p n ts [] ss j) : ∀ i, i ≤ ss.length → ∀ j, j < i → runFit k p n (ts.map fun t => fix1 k n t x v) [] ss j
  | 0, _, j, hj => by omega
  | i + 1, hi, j, hj => by
    have ih := fit_cut h hv hf i (by omega)
    by_cases c : j < i
    · exact ih j c
    · have e : j = i := by omega
      subst e; have h' := order_cut h hv; have r := run_ok h j (by omega) fun q hq => hf q (by omega); have r' := run_ok h' j (by omega) ih; obtain ⟨⟨ta, la, da⟩, ⟨tb, lb, db⟩⟩ := r.two h (by omega); obtain ⟨⟨ta', la', da'⟩, ⟨tb', lb', db'⟩⟩ := r'.two h' (by omega); have hk := r.kept h (by omega); have hk' := r'.kept h' (by omega); have hfj := (pairP_iff ta tb da db).1 (hf j (by omega)); rw [hk] at hfj; have hcut := run_cut (x := x) (v := v) h.1 ss j; have hJ : joinI (runA k p n (ts.map fun t => fix1 k n t x v) [] ss j).l (runB k p n (ts.map fun t => fix1 k n t x v) [] ss j).l = (joinI (runA k p n ts [] ss j).l (runB k p n ts [] ss j).l).filter (neQ x) := by
        rw [la', lb', hcut, cut_lab, cut_lab, joinI_cut, la, lb]
      have hK : runK (ts.map fun t => fix1 k n t x v) [] ss j = (runK ts [] ss j).filter (neQ x) := by
        unfold runK
        rw [hcut, cut_res]
      have hne : ∀ {l : List Int}, ∀ y ∈ l.filter (neQ x), dimOf (ts.map fun t => fix1 k n t x v) y = dimOf ts y := fun y hy => fix1_dim h.1 hv (by simpa using (List.mem_filter.1 hy).2); refine (pairP_iff ta' tb' da' db').2 ?_; rw [hk', hK, hJ]; refine ⟨?_, size_cut hfj.2 hne⟩; rw [List.map_congr_left (f := dimOf (ts.map fun t => fix1 k n t x v)) (g := dimOf ts) hne]; have := (prod_filter (f := dimOf ts) (neQ x) (l := joinI (runA k p n ts [] ss j).l (runB k p n ts [] ss j).l) fun y hy => by
        rcases mem_joinI.1 hy with hy | hy
        · exact (dims_mem (axes_dims (ten_axes ta)) _ (by rw [da]; exact List.mem_map_of_mem hy)).1
        · exact (dims_mem (axes_dims (ten_axes tb)) _ (by rw [db]; exact List.mem_map_of_mem hy)).1).1
      exact Int.le_trans this hfj.1
theorem tot_cut {op' : List Int} (h : totP k p n ts op) (hv : 0 ≤ v ∧ v < dimOf ts x) (hn : netL k p n (ts.map fun t => fix1 k n t x v) op') : totP k p n (ts.map fun t => fix1 k n t x v) op' := by
  refine ⟨hn, ?_⟩; rw [List.length_map]; exact ⟨order_cut h.2.1 hv, fit_cut h.2.1 hv h.2.2 _ (Nat.le_refl _)⟩
end
end Go.Proofs.YtiefkcaplhnnmaaGreat
namespace Go.Proofs.YtiefkcaplhnnmaaGreat
set_option maxRecDepth 100000
open Go.RowKit
theorem ct_i_withoutInt (ls : List Int) (x : Int) (v : Value) (w : World) (r : IntsR ls v (hp w)) (hs : ls.length ≤ 1048576) :
    Calls Tryz.prog 78 [v, num x].toArray w (Ret w emp (IntsO (ls.filter fun y => decide (y ≠ x)))) := by
  refine calls_in Tryz.func78 rfl Tryz.ntmps78 rfl (Sat.start w) ?_; have hle0 := r.le; refine wp_sc (wp_sq (sq_v rfl (v_assign rfl) rfl (sq_end (qs_n (wp_sc (wp_sq (sq_v rfl (v_assign rfl) rfl (sq_end (qs_n (wp_sc (wp_sc (wp_sq (sq_v rfl (v_move rfl) rfl (sq_v rfl (v_len Tryz.underlying27 rfl r.sl) rfl (sq_v rfl (v_move rfl) rfl (sq_end (qs_n (wp_bl ?_)))))))))))))))))); refine wp_lp (σ := Nat × Value × PH) (fun z_ => [(1, num x), (4, .slice none 0 0), (5, z_.2.1), (8, v), (9, num ls.length), (10, num z_.1)]) (fun z_ => [z_.2.2, hp w]) (fun z_ => z_.1 ≤ ls.length ∧ IntsO ((ls.take z_.1).filter fun y => decide (y ≠ x)) z_.2.1 z_.2.2) (fun z_ => ls.length - z_.1) (0, .slice none 0 0, emp) (⟨by (try dsimp only); omega, IntsO.nil⟩) ⟨rfl, rfl, (by first | rfl | exact ksub rfl (by first | omega | (simp; done) | (simp; omega))), rfl, rfl, (by first | rfl | exact ksub rfl (by first | omega | (simp; done) | (simp; omega))), trivial⟩ (fun _ s => (emp_sat s)) ?_; rintro ⟨i, lv, lh⟩ ⟨hi, q⟩; dsimp only at hi q ⊢; have hle_q := q.toR.le; have hfl := filter_take_len ls (fun y => decide (y ≠ x)) i; refine wp_sc (wp_sq (sq_v rfl (v_lss rfl rfl) rfl (sq_end (qs_n (wp_sc ?_))))); refine wp_cd rfl (fun c11 => ?_) (fun c11 => ?_)
  · refine wp_sk (qs_n (wp_sc (wp_bl (wp_sc (wp_sq ?_))))); refine sq_v rfl (v_idxI Tryz.underlying27 ty_3 rfl rfl r (by first | omega | (simp; omega) | (simp only [List.length_append, List.length_cons, List.length_nil]; omega) | (rw [List.length_set]; omega)) (by first | omega | (simp; omega) | (simp only [List.length_append, List.length_cons, List.length_nil]; omega) | (rw [List.length_set]; omega))) rfl ?_; refine sq_v rfl (v_loadI (k := i) 1 ty_3 rfl rfl r (by first | omega | (simp; omega) | (simp only [List.length_append, List.length_cons, List.length_nil]; omega) | (rw [List.length_set]; omega))) rfl ?_; refine sq_v rfl (v_assign rfl) rfl (sq_end (qs_n (wp_sc (wp_sq (sq_v rfl (v_move rfl) rfl (sq_v rfl (v_move rfl) rfl (sq_v rfl (v_neq rfl rfl) rfl (sq_end (qs_n ?_))))))))); refine wp_cd rfl (fun c16 => ?_) (fun c16 => ?_)
    · refine wp_sq (sq_v rfl (v_move rfl) rfl (sq_v rfl (v_move rfl) rfl ?_)); refine sq_x rfl (x_buildS [num (ls.getD i 0)] Tryz.underlying27 ty_3 (by decide) rfl rfl rfl (by decide) (by decide) (by intro v hv; simp at hv; rcases hv with rfl <;> rfl)) rfl ?_; intro v19 h19 (r19 : IntsO [ls.getD i 0] v19 h19); refine sq_m 1 rfl rfl (m_appI 1 0 Tryz.underlying27 ty_3 rfl rfl rfl rfl q rfl r19.toR (by first | omega | (simp; omega) | (simp only [List.length_append, List.length_cons, List.length_nil]; omega) | (rw [List.length_set]; omega))) rfl ?_; intro v20 h_r20 r20; refine sq_v rfl (v_assign rfl) rfl (sq_end (qs_bn (qs_n (wp_sq ?_)))); refine sq_v rfl (v_add rfl rfl ((by unfold I64; omega))) rfl ?_; refine sq_v rfl (v_move rfl) rfl (sq_end ?_); exact qs_bk (i + 1, v20, h_r20) ⟨by (try dsimp only); omega, by (try dsimp only); rw [filter_yes (by omega) (decide_eq_true (by omega))]; exact r20⟩ (by simp only; omega) ⟨rfl, rfl, (by first | rfl | exact ksub rfl (by first | omega | (simp; done) | (simp; omega))), rfl, rfl, (by first | rfl | exact ksub rfl (by first | omega | (simp; done) | (simp; omega))), trivial⟩ (fun _ s => s.pick [1, 2] (by decide) rfl)
    · refine wp_sk (qs_bn (qs_n (wp_sq ?_))); refine sq_v rfl (v_add rfl rfl ((by unfold I64; omega))) rfl ?_; refine sq_v rfl (v_move rfl) rfl (sq_end ?_); exact qs_bk (i + 1, lv, lh) ⟨by (try dsimp only); omega, by (try dsimp only); rw [filter_no (by omega) (decide_eq_false (by omega))]; exact q⟩ (by simp only; omega) ⟨rfl, rfl, (by first | rfl | exact ksub rfl (by first | omega | (simp; done) | (simp; omega))), rfl, rfl, (by first | rfl | exact ksub rfl (by first | omega | (simp; done) | (simp; omega))), trivial⟩ (fun _ s => s)
  · refine wp_ex (qs_x (qs_x (qs_bx (qs_n (wp_sc (wp_sq (sq_v rfl (v_move rfl) rfl (sq_v rfl (v_assign rfl) rfl (sq_end (qs_n (wp_rt ?_))))))))))); exact qs_ret1 rfl rfl (fin_t 0 (i := 1) rfl rfl rfl (by rw [List.take_of_length_le (by omega)] at q; exact q))
set_option maxHeartbeats 4000000 in
theorem ct_i_SliceTensor (k p n x v : Int) (t : Ten) (a b c : Value) (w : World) (r1 : IntsR t.l a (hp w)) (r2 : IntsR t.d b (hp w)) (r3 : IntsR t.x c (hp w)) (ok : SlOK k p n t x v) :
    Calls Tryz.prog 81 [ringV k p n, tenV a b c, num x, num v].toArray w (Ret w emp (TenB (slT k n t x v) true)) := by
  have ht := ok.ten; have hx := ok.mem; have hring := ht.1; have hlen := ten_len ht; have hax := ten_axes ht; have hnd := axes_nodup hax; have hd := axes_dims hax; have hdm := dims_mem hd; have hpr := ten_prod ht; have hp1 := prodI_one fun d hd' => (hdm d hd').1; have hj := sl_j ht hx; have hj0 := findI_ge.2 hx; have hw := width_range hring; have hv := ok.val; have hdd := ok.dims; have hL : t.l.filter (fun y => decide (y ≠ x)) = t.l.eraseIdx (slJ t x) := erase_filter hnd hx; have hLl : (t.l.eraseIdx (slJ t x)).length + 1 = t.l.length := by rw [List.length_eraseIdx_of_lt hj.1]; have := hj.1; omega
  have hDl : (t.d.eraseIdx (slJ t x)).length + 1 = t.d.length := by rw [List.length_eraseIdx_of_lt hj.2.1]; have := hj.2.1; omega
  have hal := hax.2.1; have hdm2 := dims_mem hdd.1; have hjf : ((slJ t x : Nat) : Int) = findI t.l x := by unfold slJ; omega
  have hjt : (findI t.l x).toNat = slJ t x := rfl; have hv2 : v < t.d.getD (findI t.l x).toNat 0 := hv.2; have hm1 : ∀ y ∈ t.l.eraseIdx (slJ t x), y ∈ t.l := fun y hy => List.mem_of_mem_eraseIdx hy; have hstr := strOf_range (ls := t.l) (ds := t.d) (fun d hd' => (hdm d hd').1) x; have hsi := steps_in (labels := t.l.eraseIdx (slJ t x)) (ls := t.l) (fun d hd' => (hdm d hd').1); have hv8 : v ≤ 8 := by have := hd (slJ t x) hj.2.1; have := hv.2; omega
  have hvs : 0 ≤ v * strOf t.l t.d x ∧ v * strOf t.l t.d x ≤ 8 * 4096 := ⟨Int.mul_nonneg hv.1 hstr.1, Int.mul_le_mul hv8 (by omega) hstr.1 (by omega)⟩
  refine calls_in Tryz.func81 rfl Tryz.ntmps81 rfl (Sat.start w) ?_; have hle0 := r1.le; have hle1 := r2.le; have hle2 := r3.le; refine wp_sc (wp_sq ?_); refine sq_x rfl (x_box rfl rfl) rfl ?_; rintro _ _ ⟨b4, rfl, rfl⟩; refine sq_x rfl (x_box rfl rfl) rfl ?_; rintro _ _ ⟨b5, rfl, rfl⟩; refine sq_x rfl (x_alloc ty_55 rfl) rfl ?_; rintro _ _ ⟨b8, rfl, rfl⟩; refine sq_v rfl (v_assign rfl) rfl (sq_end (qs_n (wp_sc (wp_sc (wp_sq (sq_v rfl (v_loadNB 2 ty_24 rfl rfl rfl rfl) rfl (sq_v rfl (v_loadNB 1 ty_55 rfl rfl rfl rfl) rfl (sq_u rfl (x_callv rfl en_42 (fun w s => ct_i_TensorOk _ _ _ _ _ _ _ _ _ w (r1.mono (s.get 3 rfl)) (r2.mono (s.get 3 rfl)) (r3.mono (s.get 3 rfl)))) rfl (sq_v rfl (v_not rfl) rfl (sq_end (qs_n ?_))))))))))); refine wp_cn _ rfl (fun c20 => ?_) (fun c20 => ?_)
  · refine wp_sc (wp_sq (sq_v rfl (v_build [.slice none 0 0, .slice none 0 0, .slice none 0 0] rfl (by kernel_rfl)) rfl ?_)); refine sq_m 0 rfl rfl (m_store 0 ty_55 rfl rfl rfl rfl (by simp [one_sl]) rfl (Nat.le_of_ble_eq_true rfl)) rfl ?_; rintro _ _ ⟨rfl, rfl⟩; refine sq_v rfl (v_assign rfl) rfl (sq_end (qs_n (wp_rt (qs_r ?_)))); exact absurd ht (tensorB_false.1 c20)
  · refine wp_sk (qs_n (wp_sc (wp_sq (sq_v rfl (v_loadNB 1 ty_55 rfl rfl rfl rfl) rfl (sq_v rfl (v_move rfl) rfl (sq_u rfl (x_callv rfl en_80 (fun w s => ct_u_axisOf _ _ _ _ _ _ _ w (r1.mono (s.get 3 rfl)) (r2.mono (s.get 3 rfl)) (r3.mono (s.get 3 rfl)))) rfl (sq_v rfl (v_assign rfl) rfl (sq_end (qs_n (wp_sc (wp_sc (wp_sq (sq_v rfl (v_move rfl) rfl (sq_v rfl (v_lss rfl rfl) rfl ?_)))))))))))))); refine sq_bd 26 rfl (fun c26 => ?_) (fun c26 => ?_)
    · refine sq_v rfl (v_move rfl) rfl (sq_s rfl rfl (sq_s rfl rfl (sq_v rfl (v_pickt rfl rfl) rfl (sq_v rfl (v_move rfl) rfl (sq_s rfl rfl (sq_s rfl rfl (sq_s rfl rfl (sq_s rfl rfl (sq_s rfl rfl ?_))))))))); refine sq_s rfl rfl (sq_s rfl rfl (sq_v rfl (v_pickt rfl rfl) rfl (sq_end (qs_n (wp_ct rfl (wp_sc (wp_sq (sq_v rfl (v_build [.slice none 0 0, .slice none 0 0, .slice none 0 0] rfl (by kernel_rfl)) rfl ?_)))))))); refine sq_m 0 rfl rfl (m_store 0 ty_55 rfl rfl rfl rfl (by simp [one_sl]) rfl (Nat.le_of_ble_eq_true rfl)) rfl ?_; rintro _ _ ⟨rfl, rfl⟩; refine sq_v rfl (v_assign rfl) rfl (sq_end (qs_n (wp_rt (qs_r ?_))))
      exfalso; omega
    · refine sq_v rfl (v_move rfl) rfl (sq_v rfl (v_move rfl) rfl (sq_v rfl (v_lss rfl rfl) rfl (sq_v rfl (v_pickf rfl rfl) rfl ?_))); refine sq_bd 30 rfl (fun c30 => ?_) (fun c30 => ?_)
      · refine sq_v rfl (v_move rfl) rfl (sq_s rfl rfl (sq_s rfl rfl (sq_s rfl rfl (sq_s rfl rfl (sq_s rfl rfl (sq_s rfl rfl (sq_s rfl rfl (sq_v rfl (v_pickt rfl rfl) rfl (sq_end (qs_n (wp_ct rfl (wp_sc (wp_sq ?_))))))))))))); refine sq_v rfl (v_build [.slice none 0 0, .slice none 0 0, .slice none 0 0] rfl (by kernel_rfl)) rfl ?_; refine sq_m 0 rfl rfl (m_store 0 ty_55 rfl rfl rfl rfl (by simp [one_sl]) rfl (Nat.le_of_ble_eq_true rfl)) rfl ?_; rintro _ _ ⟨rfl, rfl⟩; refine sq_v rfl (v_assign rfl) rfl (sq_end (qs_n (wp_rt (qs_r ?_))))
        exfalso; omega
      · refine sq_v rfl (v_move rfl) rfl (sq_v rfl (v_move rfl) rfl (sq_v rfl (v_fieldAddr fd_55_1 ty_27 (by decide) rfl) rfl (sq_v rfl (v_loadB 1 ty_27 rfl rfl rfl) rfl (sq_v rfl (v_move rfl) rfl ?_)))); refine sq_v rfl (v_idxI Tryz.underlying27 ty_3 rfl rfl r2 (by first | omega | (simp; omega) | (simp only [List.length_append, List.length_cons, List.length_nil]; omega) | (rw [List.length_set]; omega)) (by first | omega | (simp; omega) | (simp only [List.length_append, List.length_cons, List.length_nil]; omega) | (rw [List.length_set]; omega))) rfl ?_; refine sq_v rfl (v_loadI  3 ty_3 rfl rfl r2 (by first | omega | (simp; omega) | (simp only [List.length_append, List.length_cons, List.length_nil]; omega) | (rw [List.length_set]; omega))) rfl ?_; refine sq_v rfl (v_geq rfl rfl) rfl (sq_v rfl (v_pickf rfl rfl) rfl (sq_end (qs_n ?_))); refine wp_cd rfl (fun c39 => ?_) (fun c39 => ?_)
        · refine wp_sc (wp_sq (sq_v rfl (v_build [.slice none 0 0, .slice none 0 0, .slice none 0 0] rfl (by kernel_rfl)) rfl ?_)); refine sq_m 0 rfl rfl (m_store 0 ty_55 rfl rfl rfl rfl (by simp [one_sl]) rfl (Nat.le_of_ble_eq_true rfl)) rfl ?_; rintro _ _ ⟨rfl, rfl⟩; refine sq_v rfl (v_assign rfl) rfl (sq_end (qs_n (wp_rt (qs_r ?_))))
          exfalso; omega
        · refine wp_sk (qs_n (wp_sc (wp_sq (sq_v rfl (v_fieldAddr fd_55_0 ty_27 (by decide) rfl) rfl (sq_v rfl (v_loadB 1 ty_27 rfl rfl rfl) rfl (sq_v rfl (v_move rfl) rfl ?_)))))); refine sq_x rfl (x_call rfl en_78 (fun w s => ct_i_withoutInt _ _ _ w (r1.mono (s.get 3 rfl)) (by first | assumption | omega))) rfl ?_; rintro v44 h44 r44; refine sq_v rfl (v_build [v44, .slice none 0 0, .slice none 0 0] rfl (by obtain ⟨_, _, rfl⟩ := r44.toR.sl; kernel_rfl)) rfl ?_; refine sq_x rfl (x_alloc ty_55 rfl) rfl ?_; rintro _ _ ⟨b11, rfl, rfl⟩; refine sq_m 0 rfl rfl (m_store 0 ty_55 rfl rfl rfl rfl (by simp [r44.toR.sl.one, one_sl]) rfl (Nat.le_of_ble_eq_true rfl)) rfl ?_; rintro _ _ ⟨rfl, rfl⟩; refine sq_end ?_; rw [hL] at r44; refine qs_n (wp_sc (wp_sc (wp_sq (sq_v rfl (v_fieldAddr fd_55_0 ty_27 (by decide) rfl) rfl (sq_v rfl (v_loadB 0 ty_27 rfl rfl rfl) rfl (sq_v rfl (v_len Tryz.underlying27 rfl r44.toR.sl) rfl (sq_v rfl (v_move rfl) rfl (sq_end (qs_n (wp_bl ?_)))))))))); refine wp_lp (σ := Nat × Value × PH) (fun z_ => [(2, num x), (3, num v), (4, .pointer (some ⟨b4, 0, none⟩)), (5, .pointer (some ⟨b5, 0, none⟩)), (8, .pointer (some ⟨b8, 0, none⟩)), (9, .bool false), (11, .pointer (some ⟨b11, 0, none⟩)), (47, v44), (48, num (t.l.eraseIdx (slJ t x)).length), (49, num z_.1)]) (fun z_ => [z_.2.2, box b11 [v44, z_.2.1, .slice none 0 0] 55, h44, box b8 [.slice none 0 0, .slice none 0 0, .slice none 0 0] 55, box b5 [a, b, c] 55, box b4 [num k, num p, num n] 24, hp w]) (fun z_ => z_.1 ≤ (t.l.eraseIdx (slJ t x)).length ∧ IntsO (idxAt t.l t.d ((t.l.eraseIdx (slJ t x)).take z_.1)) z_.2.1 z_.2.2) (fun z_ => (t.l.eraseIdx (slJ t x)).length - z_.1) (0, .slice none 0 0, emp) (⟨by (try dsimp only); omega, IntsO.nil⟩) ⟨rfl, rfl, rfl, rfl, rfl, rfl, rfl, rfl, rfl, (by first | rfl | exact ksub rfl (by first | omega | (simp; done) | (simp; omega))), trivial⟩ (fun _ s => (emp_sat s)) ?_; rintro ⟨i, v2, h2⟩ ⟨hi, q2⟩; dsimp only at hi q2 ⊢; have hle_q2 := q2.toR.le; have hl2 : (idxAt t.l t.d ((t.l.eraseIdx (slJ t x)).take i)).length ≤ 12 := by unfold idxAt; rw [List.length_map, List.length_take]; omega
          refine wp_sc (wp_sq (sq_v rfl (v_lss rfl rfl) rfl (sq_end (qs_n (wp_sc ?_))))); refine wp_cd rfl (fun c50 => ?_) (fun c50 => ?_)
          · refine wp_sk (qs_n (wp_sc (wp_bl (wp_sc (wp_sq ?_))))); refine sq_v rfl (v_idxI Tryz.underlying27 ty_3 rfl rfl r44.toR (by first | omega | (simp; omega) | (simp only [List.length_append, List.length_cons, List.length_nil]; omega) | (rw [List.length_set]; omega)) (by first | omega | (simp; omega) | (simp only [List.length_append, List.length_cons, List.length_nil]; omega) | (rw [List.length_set]; omega))) rfl ?_; refine sq_v rfl (v_loadI (k := i) 2 ty_3 rfl rfl r44.toR (by first | omega | (simp; omega) | (simp only [List.length_append, List.length_cons, List.length_nil]; omega) | (rw [List.length_set]; omega))) rfl ?_; refine sq_v rfl (v_assign rfl) rfl (sq_end (qs_n (wp_rj 10 [(0, true), (1, true), (2, true), (3, true), (4, true), (5, true), (6, false), (7, true), (8, true), (9, false), (10, false), (11, false), (12, false)] mixed_ok (by kernel_rfl) (rj_v rfl rfl (v_fieldAddr fd_55_1 ty_27 (by decide) rfl) rfl (rj_v rfl rfl (v_loadB 1 ty_27 rfl rfl rfl) rfl (rj_v rfl rfl (v_fieldAddr fd_55_1 ty_27 (by decide) rfl) rfl (rj_v rfl rfl (v_loadB 4 ty_27 rfl rfl rfl) rfl (rj_v rfl rfl (v_loadNB 4 ty_55 rfl rfl rfl rfl) rfl (rj_v rfl rfl (v_move rfl) rfl (rj_u rfl rfl (x_callv rfl en_80 (fun w s => ct_u_axisOf _ _ _ _ _ _ _ w (r1.mono (s.get 6 rfl)) (r2.mono (s.get 6 rfl)) (r3.mono (s.get 6 rfl)))) rfl ?_)))))))))); have hmi := hm1 _ (mem_getD (xs := t.l.eraseIdx (slJ t x)) (k := i) (by omega)); have hfi := findI_ge.2 hmi; have hfg := (findI_get hmi).1; refine rj_v rfl rfl (v_idxI Tryz.underlying27 ty_3 rfl rfl r2 (by first | omega | (simp; omega) | (simp only [List.length_append, List.length_cons, List.length_nil]; omega) | (rw [List.length_set]; omega)) (by first | omega | (simp; omega) | (simp only [List.length_append, List.length_cons, List.length_nil]; omega) | (rw [List.length_set]; omega))) rfl ?_; refine rj_v rfl rfl (v_loadI  6 ty_3 rfl rfl r2 (by first | omega | (simp; omega) | (simp only [List.length_append, List.length_cons, List.length_nil]; omega) | (rw [List.length_set]; omega))) rfl ?_; refine rj_x rfl rfl (x_buildS [num ((t.d.getD (findI t.l ((t.l.eraseIdx (slJ t x)).getD i 0) : Int).toNat 0))] Tryz.underlying27 ty_3 (by decide) rfl rfl rfl (by decide) (by decide) (by intro v hv; simp at hv; rcases hv with rfl <;> rfl)) rfl ?_; intro v62 h62 (r62 : IntsO [(t.d.getD (findI t.l ((t.l.eraseIdx (slJ t x)).getD i 0) : Int).toNat 0)] v62 h62); refine rj_m 1 rfl rfl rfl rfl (m_appI 1 0 Tryz.underlying27 ty_3 rfl rfl rfl rfl q2 rfl r62.toR (by first | omega | (simp; omega) | (simp only [List.length_append, List.length_cons, List.length_nil]; omega) | (rw [List.length_set]; omega))) rfl ?_; intro v63 h_r63 r63; refine rj_fv rfl rfl (v_fieldAddr fd_55_1 ty_27 (by decide) rfl) rfl ?_; refine rj_m 2 rfl rfl rfl rfl (m_store1 2 ty_27 rfl rfl r63.toR.sl.one rfl (Nat.le_of_ble_eq_true rfl)) rfl ?_; rintro _ _ ⟨rfl, rfl⟩; refine rj_end (qs_bn (qs_n (wp_sq ?_))); refine sq_v rfl (v_add rfl rfl ((by unfold I64; omega))) rfl ?_; refine sq_v rfl (v_move rfl) rfl (sq_end ?_); exact qs_bk (i + 1, v63, h_r63) ⟨by (try dsimp only); omega, by (try dsimp only); rw [idxAt_step (by omega)]; exact r63⟩ (by simp only; omega) ⟨rfl, rfl, rfl, rfl, rfl, rfl, rfl, rfl, rfl, (by first | rfl | exact ksub rfl (by first | omega | (simp; done) | (simp; omega))), trivial⟩ (fun _ s => s.pick [1, 2, 3, 4, 5, 6, 7] (by decide) rfl)
          · refine wp_ex (qs_x (qs_x (qs_bx (qs_n (wp_sc (wp_sq ?_)))))); have hD : idxAt t.l t.d ((t.l.eraseIdx (slJ t x)).take i) = t.d.eraseIdx (slJ t x) := (by rw [List.take_of_length_le (by omega), idxAt, map_erase]; congr 1; exact (map_find hnd hal).symm); rw [hD] at q2; refine sq_v rfl (v_loadNB 4 ty_55 rfl rfl rfl rfl) rfl (sq_v rfl (v_fieldAddr fd_55_0 ty_27 (by decide) rfl) rfl (sq_v rfl (v_loadB 1 ty_27 rfl rfl rfl) rfl ?_)); refine sq_x rfl (x_call rfl en_91 (fun w s => ct_i_stridesOf _ _ _ _ _ _ _ w (r1.mono (s.get 6 rfl)) (r2.mono (s.get 6 rfl)) (r44.toR.mono (s.get 2 rfl)) (by first | assumption | omega) (by first | assumption | omega) (by first | assumption | omega) (by first | assumption | omega))) rfl ?_; rintro v69 h69 r69; refine sq_v rfl (v_assign rfl) rfl (sq_end ?_); have hs0 : (stepsL [x] t.l t.d).getD 0 0 = strOf t.l t.d x := rfl; have hs1 : (stepsL [x] t.l t.d).length = 1 := rfl; refine qs_n (wp_sc (wp_sq (sq_v rfl (v_move rfl) rfl (sq_v rfl (v_loadNB 5 ty_55 rfl rfl rfl rfl) rfl (sq_v rfl (v_move rfl) rfl ?_))))); refine sq_x rfl (x_buildS [num (x)] Tryz.underlying27 ty_3 (by decide) rfl rfl rfl (by decide) (by decide) (by intro v hv; simp at hv; rcases hv with rfl <;> rfl)) rfl ?_; intro v73 h73 (r73 : IntsO [x] v73 h73); refine sq_x rfl (x_call rfl en_91 (fun w s => ct_i_stridesOf _ _ _ _ _ _ _ w (r1.mono (s.get 8 rfl)) (r2.mono (s.get 8 rfl)) (r73.toR.mono (s.get 0 rfl)) (by first | assumption | omega) (by first | assumption | omega) (by first | assumption | omega) (Nat.le_of_ble_eq_true rfl))) rfl ?_; rintro v74 h74 r74; refine sq_v rfl (v_idxI Tryz.underlying27 ty_3 rfl rfl r74.toR (by first | omega | (simp; omega) | (simp only [List.length_append, List.length_cons, List.length_nil]; omega) | (rw [List.length_set]; omega)) (by first | omega | (simp; omega) | (simp only [List.length_append, List.length_cons, List.length_nil]; omega) | (rw [List.length_set]; omega))) rfl ?_; refine sq_v rfl (v_loadI (k := 0) 0 ty_3 rfl rfl r74.toR (by first | omega | (simp; omega) | (simp only [List.length_append, List.length_cons, List.length_nil]; omega) | (rw [List.length_set]; omega))) rfl ?_; refine sq_v rfl (v_mul rfl rfl ((by rw [hs0]; unfold I64; omega))) rfl ?_; refine sq_v rfl (v_assign rfl) rfl (sq_end (qs_n (wp_sc (wp_sq (sq_v rfl (v_fieldAddr fd_55_0 ty_27 (by decide) rfl) rfl (sq_v rfl (v_loadB 4 ty_27 rfl rfl rfl) rfl (sq_v rfl (v_len Tryz.underlying27 rfl r44.toR.sl) rfl ?_))))))); refine sq_x rfl (x_makeI Tryz.underlying27 ty_3 rfl rfl (by first | omega | (simp; omega) | (simp only [List.length_append, List.length_cons, List.length_nil]; omega) | (rw [List.length_set]; omega)) (by first | omega | (simp; omega) | (simp only [List.length_append, List.length_cons, List.length_nil]; omega) | (rw [List.length_set]; omega)) (by first | omega | (simp; omega) | (simp only [List.length_append, List.length_cons, List.length_nil]; omega) | (rw [List.length_set]; omega))) rfl ?_; intro v81 h81 r81; refine sq_v rfl (v_assign rfl) rfl (sq_end (qs_n (wp_bl ?_))); refine wp_lp (σ := Nat × PH × Value × PH) (fun z_ => [(4, .pointer (some ⟨b4, 0, none⟩)), (5, .pointer (some ⟨b5, 0, none⟩)), (8, .pointer (some ⟨b8, 0, none⟩)), (9, .bool false), (11, .pointer (some ⟨b11, 0, none⟩)), (14, v69), (15, num (v * ((stepsL [x] t.l t.d).getD 0 0))), (16, v81)]) (fun z_ => [z_.2.2.2, z_.2.1, h74, h73, h69, h2, box b11 [v44, v2, z_.2.2.1] 55, h44, box b8 [.slice none 0 0, .slice none 0 0, .slice none 0 0] 55, box b5 [a, b, c] 55, box b4 [num k, num p, num n] 24, hp w]) (fun z_ => z_.1 < (prodI (t.d.eraseIdx (slJ t x))).toNat ∧ IntsO (idxL (t.d.eraseIdx (slJ t x)) z_.1) v81 z_.2.1 ∧ IntsO (slY (widthI k n) t (slJ t x) v z_.1) z_.2.2.1 z_.2.2.2) (fun z_ => (prodI (t.d.eraseIdx (slJ t x))).toNat - z_.1) (0, h81, .slice none 0 0, emp) (⟨by (try dsimp only); omega, by (try dsimp only); rw [show ((0 : Nat) : Int) = 0 from rfl, idxL_zero]; simpa [show (t.d.eraseIdx (slJ t x)).length = (t.l.eraseIdx (slJ t x)).length by omega] using r81, IntsO.nil⟩) ⟨rfl, rfl, rfl, rfl, rfl, rfl, rfl, rfl, trivial⟩ (fun _ s => (emp_sat s)) ?_; rintro ⟨m, g, vx, hh⟩ ⟨hm, q81, qx⟩; dsimp only at hm q81 qx ⊢; have hle_q81 := q81.toR.le; have hle_qx := qx.toR.le; have hall := (ok.all m).1; have hat := ok.at_ m; have hel := ok.el m; have hil := idxL_len (t.d.eraseIdx (slJ t x)) m; have hii := idxL_in (fun d hd' => (dims_mem hdd.1 d hd').1) m; have hb : ∀ b ∈ idxL (t.d.eraseIdx (slJ t x)) m, 0 ≤ b ∧ b ≤ 1048576 := all_of fun j hj => by have := hii.2 j (by omega); have := hdd.1 j (by omega); omega
            have hsl := stepsL_len (t.l.eraseIdx (slJ t x)) t.l t.d; have hef := elt_fits ht (i := (slAt t.d (slJ t x) v m : Nat)) (by omega); have e92 : v * (stepsL [x] t.l t.d).getD 0 0 + dotL (stepsL (t.l.eraseIdx (slJ t x)) t.l t.d) (idxL (t.d.eraseIdx (slJ t x)) m) = ((slAt t.d (slJ t x) v m : Nat) : Int) := by rw [hs0]; exact hat.2.symm
            have hlt := hat.1; have hyl : (slY (widthI k n) t (slJ t x) v m).length ≤ 24576 := by have h1 : (m : Int) * widthI k n ≤ 4096 * 6 := Int.mul_le_mul (by omega) hw.2 (by omega) (by omega); omega
            have hel2 := hel.1; refine wp_bl (wp_sc (wp_rj 10 [(0, true), (1, true), (2, true), (3, true), (4, true), (5, true), (6, true), (7, false), (8, true), (9, false), (10, false), (11, false), (12, false)] mixed_ok (by kernel_rfl) (rj_v rfl rfl (v_fieldAddr fd_55_2 ty_27 (by decide) rfl) rfl (rj_v rfl rfl (v_loadB 6 ty_27 rfl rfl rfl) rfl (rj_v rfl rfl (v_loadNB 10 ty_24 rfl rfl rfl rfl) rfl (rj_v rfl rfl (v_loadNB 9 ty_55 rfl rfl rfl rfl) rfl (rj_v rfl rfl (v_move rfl) rfl (rj_v rfl rfl (v_move rfl) rfl (rj_v rfl rfl (v_move rfl) rfl ?_))))))))); refine rj_u rfl rfl (x_callv rfl en_90 (fun w s => ct_i_dotOf _ _ _ _ w (r69.toR.mono (s.get 4 rfl)) (q81.toR.mono (s.get 1 rfl)) (fun a h => by have := hsi a h; omega) (by first | assumption | omega) (by first | assumption | omega) (by first | assumption | omega))) rfl ?_; refine rj_v rfl rfl (v_add rfl rfl ((by rw [e92]; unfold I64; omega))) rfl ?_; have hef1 := hef.1; have hef2 := hef.2; rw [e92]; refine rj_u rfl rfl (x_callv rfl en_51 (fun w s => ct_i_rawElem _ _ _ _ _ _ _ _ w (by first | assumption | omega) (r3.mono (s.get 11 rfl)) (by omega) hef.1 hef.2)) rfl ?_; refine rj_m 0 rfl rfl rfl rfl (m_appI 0 11 Tryz.underlying27 ty_3 rfl rfl rfl rfl qx rfl (eltV_read r3 (by first | assumption | omega) (by first | assumption | omega) (by first | assumption | omega)) (by first | omega | (simp; omega) | (simp only [List.length_append, List.length_cons, List.length_nil]; omega) | (rw [List.length_set]; omega))) rfl ?_; intro v92 h_r92 r92; refine rj_fv rfl rfl (v_fieldAddr fd_55_2 ty_27 (by decide) rfl) rfl ?_; refine rj_m 6 rfl rfl rfl rfl (m_store1 6 ty_27 rfl rfl r92.toR.sl.one rfl (Nat.le_of_ble_eq_true rfl)) rfl ?_; rintro _ _ ⟨rfl, rfl⟩; refine rj_end (qs_n (wp_sc (wp_sq (sq_v rfl (v_fieldAddr fd_55_1 ty_27 (by decide) rfl) rfl (sq_v rfl (v_loadB 6 ty_27 rfl rfl rfl) rfl (sq_v rfl (v_move rfl) rfl ?_)))))); refine sq_m 1 rfl rfl (x_call rfl en_110 (fun w s => ct_i_nextIndex _ _ _ _ w _ (s.get 1 rfl) (q2.toR.mono (s.getR 1 5 rfl rfl (by decide))) q81 (by first | assumption | omega) (by first | assumption | omega) (by first | assumption | omega))) rfl ?_; rintro _ h97 ⟨rfl, r97⟩; refine sq_v rfl (v_not rfl) rfl (sq_end (qs_n ?_)); refine wp_cnd rfl (fun c98 => ?_) (fun c98 => ?_)
            · refine wp_sc (wp_sq (sq_v rfl (v_loadNB 6 ty_55 rfl rfl rfl rfl) rfl ?_)); refine sq_m 8 rfl rfl (m_store 8 ty_55 rfl rfl rfl rfl (by simp [r44.toR.sl.one, q2.toR.sl.one, r92.toR.sl.one]) rfl (Nat.le_of_ble_eq_true rfl)) rfl ?_; rintro _ _ ⟨rfl, rfl⟩; refine sq_v rfl (v_assign rfl) rfl (sq_end (qs_n (wp_rt (qs_br (qs_r (qs_br ?_)))))); refine qs_close [box b8 _ _, hp w] [h44, h2, h_r92] (fun _ s => s.pick [8, 11, 7, 5, 0] (by decide) rfl) (fun md => ?_); exact qs_retct 1 rfl ty_55 rfl rfl rfl rfl (fin_t 0 (i := 2) rfl rfl rfl ⟨_, _, _, rfl, _, _, _, r44, q2, (show IntsO (slX (widthI k n) t (slJ t x) v (prodI t.d).toNat) v92 h_r92 by rw [ok.eq, show (prodI (t.d.eraseIdx (slJ t x))).toNat = m + 1 by omega, slY_step]; exact r92), md⟩)
            · refine wp_sk (qs_bn ?_); exact qs_bk (m + 1, h97, v92, h_r92) ⟨by (try dsimp only); omega, r97, by (try dsimp only); rw [slY_step]; exact r92⟩ (by simp only; omega) ⟨rfl, rfl, rfl, rfl, rfl, rfl, rfl, rfl, trivial⟩ (fun _ s => s)
end Go.Proofs.YtiefkcaplhnnmaaGreat
namespace Go.Proofs.YtiefkcaplhnnmaaGreat
set_option maxRecDepth 100000
open Go.RowKit
theorem dim_out {k p n x : Int} {ts : List Ten} {op : List Int} (h : netL k p n ts op) (hx : x < 0 ∨ 99 < x) : dimOf ts x = 0 := Classical.byContradiction fun hd => by
  obtain ⟨t, ht, hm⟩ := dimOf_mem hd; have hg := findI_get hm; have ha := (net_axes h t ht).2.2 _ hg.1
  unfold axP at ha
  rw [hg.2] at ha
  omega
theorem ct_i_DimOf (k p n x : Int) (ts : List Ten) (op : List Int) (vt vo : Value) (w : World) (r : TensR ts vt (hp w)) (r' : IntsR op vo (hp w)) (hs : op.length ≤ 1048576) :
    Calls Tryz.prog 37 [netV k p n vt vo, num x].toArray w (RetV w (num (ifB (netB k p n ts op) (dimOf ts x) 0))) := by
  refine calls_in Tryz.func37 rfl Tryz.ntmps37 rfl (Sat.start w) ?_; have hle0 := r.le; obtain ⟨cs_r, rr_r, hc_r⟩ := r.at; have hle1 := r'.le; refine wp_sc (wp_sq ?_); refine sq_x rfl (x_box rfl rfl) rfl ?_; rintro _ _ ⟨b2, rfl, rfl⟩; refine sq_v rfl (v_assign rfl) rfl (sq_end (qs_n (wp_sc (wp_sc (wp_sq (sq_v rfl (v_loadNB 0 ty_29 rfl rfl rfl rfl) rfl (sq_u rfl (x_callv rfl en_14 (fun w s => ct_i_NetworkOk _ _ _ _ _ _ _ w (r.mono (s.get 1 rfl)) (r'.mono (s.get 1 rfl)) (by first | assumption | omega))) rfl ?_))))))); refine sq_bb 8 rfl (fun c8 => ?_) (fun c8 => ?_)
  · refine sq_v rfl (v_not rfl) rfl (sq_v rfl (v_move rfl) rfl (sq_v rfl (v_move rfl) rfl (sq_v rfl (v_lss rfl rfl) rfl (sq_v rfl (v_pickf rfl rfl) rfl ?_)))); refine sq_bd 13 rfl (fun c13 => ?_) (fun c13 => ?_)
    · refine sq_v rfl (v_move rfl) rfl (sq_s rfl rfl (sq_s rfl rfl (sq_v rfl (v_pickt rfl rfl) rfl (sq_end (qs_n (wp_ct rfl (wp_sc (wp_sq (sq_v rfl (v_assign rfl) rfl (sq_end (qs_n (wp_rt (qs_r ?_))))))))))))); exact qs_ret1 rfl rfl (fin_q (i := 1) rfl (by cases hb : netB k p n ts op with | false => rfl | true => rw [show ifB true (dimOf ts x) 0 = dimOf ts x from rfl, dim_out (netB_true.1 hb) (by first | omega | exact absurd (c8.symm.trans hb) (by decide))]))
    · refine sq_v rfl (v_move rfl) rfl (sq_v rfl (v_move rfl) rfl (sq_v rfl (v_gtr rfl rfl) rfl (sq_v rfl (v_pickf rfl rfl) rfl (sq_end (qs_n ?_))))); refine wp_cd rfl (fun c17 => ?_) (fun c17 => ?_)
      · refine wp_sc (wp_sq (sq_v rfl (v_assign rfl) rfl (sq_end (qs_n (wp_rt (qs_r ?_)))))); exact qs_ret1 rfl rfl (fin_q (i := 1) rfl (by cases hb : netB k p n ts op with | false => rfl | true => rw [show ifB true (dimOf ts x) 0 = dimOf ts x from rfl, dim_out (netB_true.1 hb) (by first | omega | exact absurd (c8.symm.trans hb) (by decide))]))
      · refine wp_sk (qs_n (wp_sc (wp_sq (sq_v rfl (v_fieldAddr fd_29_1 ty_26 (by decide) rfl) rfl (sq_v rfl (v_loadB 0 ty_26 rfl rfl rfl) rfl ?_))))); have hnet := netB_true.1 c8; refine sq_x rfl (x_call rfl en_43 (fun w s => ct_i_dimsOf _ _ w (r.mono (s.get 1 rfl)) (net_axes hnet))) rfl ?_; rintro _ h21 ⟨arr, ok, rfl, hal, hok', hav⟩; refine sq_v rfl (v_move rfl) rfl (sq_v rfl (v_extract rfl rfl) rfl (sq_v rfl (v_extract rfl rfl) rfl ?_)); refine sq_x rfl (x_alloc ty_69 rfl) rfl ?_; rintro _ _ ⟨b5, rfl, rfl⟩; refine sq_m 0 rfl rfl (m_storeW 0 ty_69 rfl rfl rfl (by rw [ints_length]; exact hal) (ints_one arr) rfl (by simp)) rfl ?_; rintro _ _ ⟨rfl, rfl⟩; refine sq_v rfl (v_assign rfl) rfl (sq_end (qs_n (wp_sc (wp_sq (sq_v rfl (v_move rfl) rfl (sq_v rfl (v_indexAddrA Tryz.underlying69 ty_3 rfl rfl (by omega) (by omega)) rfl (sq_v rfl (v_loadB 0 ty_3 rfl rfl (aget (k := (x).toNat) (by omega) rfl)) rfl (sq_v rfl (v_assign rfl) rfl (sq_end (qs_n (wp_rt ?_))))))))))); exact qs_ret1 rfl rfl (fin_q (i := 3) rfl (by rw [c8, show ifB true (dimOf ts x) 0 = dimOf ts x from rfl, (hav (hok'.2 hnet.2.2.2.1)).2 x (by omega) (by omega)]))
  · refine sq_v rfl (v_not rfl) rfl (sq_v rfl (v_move rfl) rfl (sq_s rfl rfl (sq_s rfl rfl (sq_v rfl (v_pickt rfl rfl) rfl (sq_v rfl (v_move rfl) rfl (sq_s rfl rfl (sq_s rfl rfl (sq_v rfl (v_pickt rfl rfl) rfl (sq_end (qs_n (wp_ct rfl (wp_sc (wp_sq ?_))))))))))))); refine sq_v rfl (v_assign rfl) rfl (sq_end (qs_n (wp_rt (qs_r ?_)))); exact qs_ret1 rfl rfl (fin_q (i := 1) rfl (by cases hb : netB k p n ts op with | false => rfl | true => rw [show ifB true (dimOf ts x) 0 = dimOf ts x from rfl, dim_out (netB_true.1 hb) (by first | omega | exact absurd (c8.symm.trans hb) (by decide))]))
set_option maxHeartbeats 4000000 in
theorem ct_i_SliceNetwork (k p n x v : Int) (ts : List Ten) (op : List Int) (vt vo : Value) (w : World) (r : TensR ts vt (hp w)) (r' : IntsR op vo (hp w)) (hs : op.length ≤ 1048576) (hnet : netL k p n ts op) (hv : 0 ≤ v ∧ v < dimOf ts x) :
    Calls Tryz.prog 38 [netV k p n vt vo, num x, num v].toArray w (Ret w emp (NetB k p n (ts.map fun t => fix1 k n t x v) (op.filter fun y => decide (y ≠ x)) true)) := by
  have hB := netB_true.2 hnet; have h12 := hnet.2.1; have hdm := net_dmap hnet; refine calls_in Tryz.func38 rfl Tryz.ntmps38 rfl (Sat.start w) ?_; have hle0 := r.le; obtain ⟨cs_r, rr_r, hc_r⟩ := r.at; have hle1 := r'.le; refine wp_sc (wp_sq ?_); refine sq_x rfl (x_box rfl rfl) rfl ?_; rintro _ _ ⟨b3, rfl, rfl⟩; refine sq_x rfl (x_alloc ty_29 rfl) rfl ?_; rintro _ _ ⟨b6, rfl, rfl⟩; refine sq_v rfl (v_assign rfl) rfl (sq_end (qs_n (wp_sc (wp_sc (wp_sq (sq_v rfl (v_loadNB 1 ty_29 rfl rfl rfl rfl) rfl (sq_u rfl (x_callv rfl en_14 (fun w s => ct_i_NetworkOk _ _ _ _ _ _ _ w (r.mono (s.get 2 rfl)) (r'.mono (s.get 2 rfl)) (by first | assumption | omega))) rfl ?_))))))); refine sq_bb 13 rfl (fun c13 => ?_) (fun c13 => ?_)
  · refine sq_v rfl (v_not rfl) rfl (sq_v rfl (v_move rfl) rfl (sq_v rfl (v_move rfl) rfl (sq_v rfl (v_lss rfl rfl) rfl (sq_v rfl (v_pickf rfl rfl) rfl ?_)))); refine sq_bd 18 rfl (fun c18 => ?_) (fun c18 => ?_)
    · refine sq_v rfl (v_move rfl) rfl (sq_s rfl rfl (sq_s rfl rfl (sq_s rfl rfl (sq_s rfl rfl (sq_s rfl rfl (sq_v rfl (v_pickt rfl rfl) rfl (sq_end (qs_n (wp_ct rfl (wp_sc (wp_sq (sq_v rfl (v_build [num 0, num 0, num 0, .slice none 0 0, .slice none 0 0] rfl (by kernel_rfl)) rfl ?_)))))))))))); refine sq_m 0 rfl rfl (m_store 0 ty_29 rfl rfl rfl rfl (by simp [one_int, one_sl]) rfl (Nat.le_of_ble_eq_true rfl)) rfl ?_; rintro _ _ ⟨rfl, rfl⟩; refine sq_v rfl (v_assign rfl) rfl (sq_end (qs_n (wp_rt (qs_r ?_))))
      exfalso; omega
    · refine sq_v rfl (v_move rfl) rfl (sq_v rfl (v_move rfl) rfl (sq_v rfl (v_loadNB 1 ty_29 rfl rfl rfl rfl) rfl (sq_v rfl (v_move rfl) rfl (sq_u rfl (x_callv rfl en_37 (fun w s => ct_i_DimOf _ _ _ _ _ _ _ _ w (r.mono (s.get 2 rfl)) (r'.mono (s.get 2 rfl)) (by first | assumption | omega))) rfl (sq_v rfl (v_geq rfl rfl) rfl (sq_v rfl (v_pickf rfl rfl) rfl (sq_end (qs_n ?_)))))))); refine wp_cd rfl (fun c25 => ?_) (fun c25 => ?_)
      · refine wp_sc (wp_sq (sq_v rfl (v_build [num 0, num 0, num 0, .slice none 0 0, .slice none 0 0] rfl (by kernel_rfl)) rfl ?_)); refine sq_m 0 rfl rfl (m_store 0 ty_29 rfl rfl rfl rfl (by simp [one_int, one_sl]) rfl (Nat.le_of_ble_eq_true rfl)) rfl ?_; rintro _ _ ⟨rfl, rfl⟩; refine sq_v rfl (v_assign rfl) rfl (sq_end (qs_n (wp_rt (qs_r ?_)))); rw [hB] at c25; exact absurd hv.2 (Int.not_lt.2 c25)
      · refine wp_sk (qs_n (wp_sc ?_)); refine wp_ra (σ := Nat × PH × Value) 8 (fun z_ => IntsO (op.filter fun y => decide (y ≠ x)) z_.2.2 z_.2.1) (fun z_ => [(1, num x), (2, num v), (3, .pointer (some ⟨b3, 0, none⟩)), (6, .pointer (some ⟨b6, 0, none⟩)), (7, .bool false), (8, .pointer (some ⟨z_.1, 0, none⟩)), (25, .bool (decide ((ifB (netB k p n ts op) (dimOf ts x) 0 : Int) ≤ v)))]) (fun z_ => [box z_.1 [num k, num p, num n, .slice none 0 0, z_.2.2] 29, z_.2.1, box b6 [num 0, num 0, num 0, .slice none 0 0, .slice none 0 0] 29, box b3 [num k, num p, num n, vt, vo] 29, hp w]) mixed_ok (by kernel_rfl) ?_ ?_
        · refine ra_v (i := 0) (by kernel_rfl) rfl rfl (v_fieldAddr fd_29_0 ty_24 (by decide) rfl) rfl (ra_v (i := 1) (by kernel_rfl) rfl rfl (v_loadNB 1 ty_24 rfl rfl rfl rfl) rfl (ra_v (i := 2) (by kernel_rfl) rfl rfl (v_fieldAddr fd_29_2 ty_27 (by decide) rfl) rfl (ra_v (i := 3) (by kernel_rfl) rfl rfl (v_loadB 1 ty_27 rfl rfl rfl) rfl (ra_v (i := 4) (by kernel_rfl) rfl rfl (v_move rfl) rfl ?_)))); refine ra_2 (i := 5) (j := 7) (by kernel_rfl) ?_ ?_
          · refine ro_x rfl rfl (x_call rfl en_78 (fun w s => ct_i_withoutInt _ _ _ w (r'.mono (s.get 2 rfl)) (by first | assumption | omega))) rfl ?_; rintro v32 h32 r32; refine ra_rj [(6, true), (7, false), (8, false)] (by kernel_rfl) rfl ?_; refine rj_v rfl rfl (v_build [num k, num p, num n, .slice none 0 0, v32] rfl (by obtain ⟨_, _, rfl⟩ := r32.toR.sl; kernel_rfl)) rfl ?_; refine rj_x rfl rfl (x_alloc ty_29 rfl) rfl ?_; rintro _ _ ⟨b8, rfl, rfl⟩; refine rj_m 0 rfl rfl rfl rfl (m_store 0 ty_29 rfl rfl rfl rfl (by simp [one_int, one_sl, r32.toR.sl.one]) rfl (Nat.le_of_ble_eq_true rfl)) rfl ?_; rintro _ _ ⟨rfl, rfl⟩; refine rj_end ?_; exact qs_mid (b8, h32, v32) (r32) ⟨rfl, rfl, rfl, rfl, rfl, rfl, rfl, trivial⟩ (fun _ s => s.pick [0, 1, 2, 3, 4] (by decide) rfl)
          · refine ro_x rfl rfl (x_alloc ty_29 rfl) rfl ?_; rintro _ _ ⟨b8, rfl, rfl⟩; refine ra_rj [(5, false), (6, true), (8, false)] (by kernel_rfl) rfl ?_; refine rj_x rfl rfl (x_call rfl en_78 (fun w s => ct_i_withoutInt _ _ _ w (r'.mono (s.get 3 rfl)) (by first | assumption | omega))) rfl ?_; rintro v32 h32 r32; refine rj_v rfl rfl (v_build [num k, num p, num n, .slice none 0 0, v32] rfl (by obtain ⟨_, _, rfl⟩ := r32.toR.sl; kernel_rfl)) rfl ?_; refine rj_m 1 rfl rfl rfl rfl (m_store 1 ty_29 rfl rfl rfl rfl (by simp [one_int, one_sl, r32.toR.sl.one]) rfl (Nat.le_of_ble_eq_true rfl)) rfl ?_; rintro _ _ ⟨rfl, rfl⟩; refine rj_end ?_; exact qs_mid (b8, h32, v32) (r32) ⟨rfl, rfl, rfl, rfl, rfl, rfl, rfl, trivial⟩ (fun _ s => s.pick [1, 0, 2, 3, 4] (by decide) rfl)
        · rintro ⟨b8, h32, v32⟩ r32; dsimp only at r32 ⊢; refine qs_n (wp_sc (wp_sc (wp_sq (sq_v rfl (v_fieldAddr fd_29_1 ty_26 (by decide) rfl) rfl (sq_v rfl (v_loadB 3 ty_26 rfl rfl rfl) rfl (sq_v rfl (v_len Tryz.underlying26 rfl r.sl) rfl (sq_v rfl (v_move rfl) rfl (sq_end (qs_n (wp_bl ?_)))))))))); refine wp_lp (σ := Nat × Value × PH × (List Value) × PH) (fun z_ => [(1, num x), (2, num v), (3, .pointer (some ⟨b3, 0, none⟩)), (6, .pointer (some ⟨b6, 0, none⟩)), (7, .bool false), (8, .pointer (some ⟨b8, 0, none⟩)), (35, vt), (36, num ts.length), (37, num z_.1)]) (fun z_ => [z_.2.2.2.2, z_.2.2.1, box b8 [num k, num p, num n, z_.2.1, v32] 29, h32, box b6 [num 0, num 0, num 0, .slice none 0 0, .slice none 0 0] 29, box b3 [num k, num p, num n, vt, vo] 29, hp w]) (fun z_ => z_.1 ≤ ts.length ∧ OwnH (flat ((ts.take z_.1).map fun t => fix1 k n t x v)) z_.2.2.2.1 z_.2.2.2.2 ∧ RowO (55) z_.2.2.2.1 z_.1 3 z_.2.1 z_.2.2.1) (fun z_ => ts.length - z_.1) (0, .slice none 0 0, emp, [], emp) (⟨by (try dsimp only); omega, OwnH.nil, RowO.nil⟩) ⟨rfl, rfl, rfl, rfl, rfl, rfl, rfl, rfl, (by first | rfl | exact ksub rfl (by first | omega | (simp; done) | (simp; omega))), trivial⟩ (fun _ s => (emp_sat (emp_sat s))) ?_; rintro ⟨i, lx, ha, cs, hl⟩ ⟨hi, hlv, rr⟩; dsimp only at hi hlv rr ⊢; refine wp_sc (wp_sq (sq_v rfl (v_lss rfl rfl) rfl (sq_end (qs_n (wp_sc ?_))))); refine wp_cd rfl (fun c38 => ?_) (fun c38 => ?_)
          · refine wp_sk (qs_n (wp_sc (wp_bl (wp_sc (wp_sq ?_))))); obtain ⟨t39, a39, b39, c39, ht39, hcs39, rl39, rd39, rx39⟩ := hc_r (i) (by first | omega | (rw [List.length_set]; omega)); refine sq_v rfl (v_indexAddr Tryz.underlying26 ty_55 rfl rfl rr_r (by decide) (by omega) (by omega)) rfl ?_; refine sq_v rfl (v_loadNE 6 ty_55 rfl rfl rr_r (by have := rr_r.1; omega) rfl hcs39) rfl ?_; refine sq_x rfl (x_alloc ty_55 rfl) rfl ?_; rintro _ _ ⟨b10, rfl, rfl⟩; refine sq_m 0 rfl rfl (m_store 0 ty_55 rfl rfl rfl rfl (by simp [rl39.sl.one, rd39.sl.one, rx39.sl.one]) rfl (Nat.le_of_ble_eq_true rfl)) rfl ?_; rintro _ _ ⟨rfl, rfl⟩; refine sq_end ?_; have hten := hnet.2.2.1 t39 (List.mem_of_getElem? ht39); have hd39 := hdm t39 (List.mem_of_getElem? ht39); have hl39 := ten_len hten; refine qs_n (wp_sc (wp_sq (sq_v rfl (v_loadNB 0 ty_55 rfl rfl rfl rfl) rfl ?_))); refine sq_x rfl (x_call rfl en_79 (fun w s => ct_i_copyTensor _ _ _ _ w (rl39.mono (s.get 7 rfl)) (rd39.mono (s.get 7 rfl)) (rx39.mono (s.get 7 rfl)) (by first | assumption | omega))) rfl ?_; rintro _ h42 ⟨va42, vb42, vc42, rfl, o42⟩; refine sq_x rfl (x_alloc ty_55 rfl) rfl ?_; rintro _ _ ⟨b11, rfl, rfl⟩; refine sq_m 0 rfl rfl (m_store 0 ty_55 rfl rfl rfl rfl (by simp [o42.toR.1.sl.one, o42.toR.2.1.sl.one, o42.toR.2.2.sl.one]) rfl (Nat.le_of_ble_eq_true rfl)) rfl ?_; rintro _ _ ⟨rfl, rfl⟩; refine sq_end (qs_n (wp_sc (wp_sc (wp_sq (sq_v rfl (v_loadNB 2 ty_55 rfl rfl rfl rfl) rfl (sq_v rfl (v_move rfl) rfl (sq_u rfl (x_callv rfl en_80 (fun w s => ct_u_axisOf _ _ _ _ _ _ _ w (rl39.mono (s.get 9 rfl)) (rd39.mono (s.get 9 rfl)) (rx39.mono (s.get 9 rfl)))) rfl (sq_v rfl (v_geq rfl rfl) rfl (sq_end (qs_n ?_)))))))))); refine wp_cd rfl (fun c46 => ?_) (fun c46 => ?_)
            · refine wp_sq (sq_v rfl (v_fieldAddr fd_29_0 ty_24 (by decide) rfl) rfl (sq_v rfl (v_loadNB 8 ty_24 rfl rfl rfl rfl) rfl (sq_v rfl (v_loadNB 2 ty_55 rfl rfl rfl rfl) rfl (sq_v rfl (v_move rfl) rfl (sq_v rfl (v_move rfl) rfl ?_))))); refine sq_x rfl (x_call rfl en_81 (fun w s => ct_i_SliceTensor _ _ _ _ _ _ _ _ _ w (rl39.mono (s.get 9 rfl)) (rd39.mono (s.get 9 rfl)) (rx39.mono (s.get 9 rfl)) (sl_ok hten hd39 (findI_ge.1 c46) hv))) rfl ?_; rintro _ h53 ⟨va53, vb53, vc53, rfl, o53⟩; refine sq_v rfl (v_move rfl) rfl (sq_v rfl (v_extract rfl rfl) rfl (sq_v rfl (v_extract rfl rfl) rfl ?_)); refine sq_m 1 rfl rfl (m_store 1 ty_55 rfl rfl rfl rfl (by simp [o53.toR.1.sl.one, o53.toR.2.1.sl.one, o53.toR.2.2.sl.one]) rfl (Nat.le_of_ble_eq_true rfl)) rfl ?_; rintro _ _ ⟨rfl, rfl⟩; refine sq_end (qs_n (wp_sq (sq_v rfl (v_fieldAddr fd_29_1 ty_26 (by decide) rfl) rfl (sq_v rfl (v_loadB 6 ty_26 rfl rfl rfl) rfl (sq_v rfl (v_loadNB 1 ty_55 rfl rfl rfl rfl) rfl ?_))))); refine sq_x rfl (x_buildS [.agg [va53, vb53, vc53].toArray] Tryz.underlying26 ty_55 (by decide) rfl rfl rfl (by decide) (by decide) (by intro v hv; simp at hv; subst hv; rfl)) rfl ?_; intro v59 h59 (r59 : RowO 55 [va53, vb53, vc53] 1 3 v59 h59); refine sq_m 6 rfl rfl (m_append 6 0 Tryz.underlying26 ty_55 rfl rfl (by decide) rfl rfl rfl rr rfl r59.toR (by simp [o53.toR.1.sl.one, o53.toR.2.1.sl.one, o53.toR.2.2.sl.one]) (by unfold maxLen; omega) (by omega)) rfl ?_; intro v60 h_r60 (r60 : RowO 55 (cs ++ [va53, vb53, vc53]) (i + 1) 3 v60 h_r60); refine sq_v rfl (v_fieldAddr fd_29_1 ty_26 (by decide) rfl) rfl ?_; refine sq_m 7 rfl rfl (m_store1 7 ty_26 rfl rfl r60.toR.sl.one rfl (Nat.le_of_ble_eq_true rfl)) rfl ?_; rintro _ _ ⟨rfl, rfl⟩; refine sq_end (qs_bn (qs_n (wp_sq ?_))); refine sq_v rfl (v_add rfl rfl ((by unfold I64; omega))) rfl ?_; refine sq_v rfl (v_move rfl) rfl (sq_end ?_); refine qs_dj 5 1 rfl rfl rfl (fun hdj => ?_); exact qs_bk (i + 1, v60, h_r60, cs ++ [va53, vb53, vc53], PUn hl h53) ⟨by (try dsimp only); omega, by (try dsimp only); rw [take_ten ht39, List.map_append, List.map_singleton, show fix1 k n t39 x v = slT k n t39 x v from if_pos (findI_ge.1 c46)]; exact hlv.snoc o53 hdj, r60⟩ (by simp only; omega) ⟨rfl, rfl, rfl, rfl, rfl, rfl, rfl, rfl, (by first | rfl | exact ksub rfl (by first | omega | (simp; done) | (simp; omega))), trivial⟩ (fun _ s => Sat.merge (s.pick [5, 1, 6, 7, 8, 9, 10, 11] (by decide) rfl))
            · refine wp_sk (qs_n (wp_sq (sq_v rfl (v_fieldAddr fd_29_1 ty_26 (by decide) rfl) rfl (sq_v rfl (v_loadB 5 ty_26 rfl rfl rfl) rfl (sq_v rfl (v_loadNB 0 ty_55 rfl rfl rfl rfl) rfl ?_))))); refine sq_x rfl (x_buildS [.agg [va42, vb42, vc42].toArray] Tryz.underlying26 ty_55 (by decide) rfl rfl rfl (by decide) (by decide) (by intro v hv; simp at hv; subst hv; rfl)) rfl ?_; intro v59 h59 (r59 : RowO 55 [va42, vb42, vc42] 1 3 v59 h59); refine sq_m 5 rfl rfl (m_append 5 0 Tryz.underlying26 ty_55 rfl rfl (by decide) rfl rfl rfl rr rfl r59.toR (by simp [o42.toR.1.sl.one, o42.toR.2.1.sl.one, o42.toR.2.2.sl.one]) (by unfold maxLen; omega) (by omega)) rfl ?_; intro v60 h_r60 (r60 : RowO 55 (cs ++ [va42, vb42, vc42]) (i + 1) 3 v60 h_r60); refine sq_v rfl (v_fieldAddr fd_29_1 ty_26 (by decide) rfl) rfl ?_; refine sq_m 6 rfl rfl (m_store1 6 ty_26 rfl rfl r60.toR.sl.one rfl (Nat.le_of_ble_eq_true rfl)) rfl ?_; rintro _ _ ⟨rfl, rfl⟩; refine sq_end (qs_bn (qs_n (wp_sq ?_))); refine sq_v rfl (v_add rfl rfl ((by unfold I64; omega))) rfl ?_; refine sq_v rfl (v_move rfl) rfl (sq_end ?_); refine qs_dj 4 2 rfl rfl rfl (fun hdj => ?_); exact qs_bk (i + 1, v60, h_r60, cs ++ [va42, vb42, vc42], PUn hl h42) ⟨by (try dsimp only); omega, by (try dsimp only); rw [take_ten ht39, List.map_append, List.map_singleton, show fix1 k n t39 x v = t39 from if_neg (fun h => c46 (findI_ge.2 h))]; exact hlv.snoc o42 hdj, r60⟩ (by simp only; omega) ⟨rfl, rfl, rfl, rfl, rfl, rfl, rfl, rfl, (by first | rfl | exact ksub rfl (by first | omega | (simp; done) | (simp; omega))), trivial⟩ (fun _ s => Sat.merge (s.pick [4, 2, 5, 6, 7, 8, 9, 10] (by decide) rfl))
          · refine wp_ex (qs_x (qs_x (qs_bx (qs_n (wp_sc (wp_sq (sq_v rfl (v_loadNB 2 ty_29 rfl rfl rfl rfl) rfl ?_))))))); refine sq_m 4 rfl rfl (m_store 4 ty_29 rfl rfl rfl rfl (by simp [one_int, rr.toR.sl.one, r32.toR.sl.one]) rfl (Nat.le_of_ble_eq_true rfl)) rfl ?_; rintro _ _ ⟨rfl, rfl⟩; refine sq_v rfl (v_assign rfl) rfl (sq_end (qs_n (wp_rt ?_))); have ei : i = ts.length := by omega
            subst ei; rw [List.take_length] at hlv; obtain ⟨l, ol, md⟩ := hlv; refine qs_close [box b6 _ _, hp w] (ha :: h32 :: l) (fun _ s => Sat.open (A := [box b6 [num k, num p, num n, lx, v32] 29, hp w, ha, h32]) md (s.pick [0, 4, 6, 1, 3] (by decide) rfl)) (fun md2 => ?_); exact qs_retct 1 rfl ty_29 rfl rfl rfl rfl (fin_t 0 (i := 2) rfl rfl rfl ⟨_, _, rfl, cs, ha, h32, l, by rw [List.length_map]; exact rr, r32, ol, md2⟩)
  · refine sq_v rfl (v_not rfl) rfl (sq_v rfl (v_move rfl) rfl (sq_s rfl rfl (sq_s rfl rfl (sq_v rfl (v_pickt rfl rfl) rfl (sq_v rfl (v_move rfl) rfl (sq_s rfl rfl (sq_s rfl rfl (sq_s rfl rfl (sq_s rfl rfl ?_))))))))); refine sq_s rfl rfl (sq_v rfl (v_pickt rfl rfl) rfl (sq_end (qs_n (wp_ct rfl (wp_sc (wp_sq (sq_v rfl (v_build [num 0, num 0, num 0, .slice none 0 0, .slice none 0 0] rfl (by kernel_rfl)) rfl ?_))))))); refine sq_m 0 rfl rfl (m_store 0 ty_29 rfl rfl rfl rfl (by simp [one_int, one_sl]) rfl (Nat.le_of_ble_eq_true rfl)) rfl ?_; rintro _ _ ⟨rfl, rfl⟩; refine sq_v rfl (v_assign rfl) rfl (sq_end (qs_n (wp_rt (qs_r ?_)))); exact absurd (hB.symm.trans c13) (by decide)
end Go.Proofs.YtiefkcaplhnnmaaGreat
namespace Go.Proofs.YtiefkcaplhnnmaaGreat
set_option maxRecDepth 100000
open Go.RowKit
set_option maxHeartbeats 2000000 in
theorem ct_i_IsBest (k p n : Int) (ts : List Ten) (op vs : List Int) (vt vo v : Value) (w : World) (r : TensR ts vt (hp w)) (r' : IntsR op vo (hp w)) (rv : IntsR vs v (hp w)) (hs : op.length ≤ 1048576) :
    Calls Tryz.prog 20 [netV k p n vt vo, v].toArray w (RetV w (.bool (isbB k p n ts op vs))) := by
  refine calls_in Tryz.func20 rfl Tryz.ntmps20 rfl (Sat.start w) ?_; have hle0 := r.le; obtain ⟨cs_r, rr_r, hc_r⟩ := r.at; have hle1 := r'.le; have hle2 := rv.le; refine wp_sc (wp_sq ?_); refine sq_x rfl (x_box rfl rfl) rfl ?_; rintro _ _ ⟨b2, rfl, rfl⟩; refine sq_v rfl (v_assign rfl) rfl (sq_end (qs_n (wp_sc (wp_sc (wp_sq (sq_v rfl (v_loadNB 0 ty_29 rfl rfl rfl rfl) rfl (sq_v rfl (v_move rfl) rfl (sq_u rfl (x_callv rfl en_39 (fun w s => ct_i_assignmentOk _ _ _ _ _ _ _ _ _ w (r.mono (s.get 1 rfl)) (r'.mono (s.get 1 rfl)) (rv.mono (s.get 1 rfl)) (by first | assumption | omega))) rfl ?_)))))))); refine sq_bb 9 rfl (fun c9 => ?_) (fun c9 => ?_)
  · refine sq_v rfl (v_not rfl) rfl (sq_v rfl (v_move rfl) rfl (sq_v rfl (v_fieldAddr fd_29_0 ty_24 (by decide) rfl) rfl (sq_v rfl (v_loadNB 0 ty_24 rfl rfl rfl rfl) rfl (sq_u rfl (x_callv rfl en_19 (fun w s => ct_i_IsSelective _ _ _ w)) rfl (sq_v rfl (v_not rfl) rfl (sq_v rfl (v_pickf rfl rfl) rfl (sq_end (qs_n ?_)))))))); refine wp_cn _ rfl (fun c16 => ?_) (fun c16 => ?_)
    · refine wp_sc (wp_sq (sq_v rfl (v_assign rfl) rfl (sq_end (qs_n (wp_rt (qs_r ?_)))))); exact qs_ret1 rfl rfl (fin_q (i := 1) rfl (isb_no (fun h => absurd (c16.symm.trans h.2.1) (by decide))))
    · refine wp_sk (qs_n (wp_sc (wp_sq (sq_v rfl (v_loadNB 0 ty_29 rfl rfl rfl rfl) rfl ?_)))); refine sq_x rfl (x_call rfl en_17 (fun w s => ct_i_TotalOf _ _ _ _ _ _ _ w (r.mono (s.get 1 rfl)) (r'.mono (s.get 1 rfl)) (by first | assumption | omega))) rfl ?_; rintro _ h19 ⟨v19, rfl, r19⟩; refine sq_v rfl (v_move rfl) rfl (sq_v rfl (v_extract rfl rfl) rfl (sq_v rfl (v_extract rfl rfl) rfl (sq_v rfl (v_assign rfl) rfl (sq_v rfl (v_assign rfl) rfl (sq_end (qs_n (wp_sc (wp_sq ?_)))))))); refine sq_bb 6 rfl (fun c6 => ?_) (fun c6 => ?_)
      · refine sq_v rfl (v_move rfl) rfl (sq_v rfl (v_move rfl) rfl (sq_v rfl (v_move rfl) rfl (sq_v rfl (v_loadNB 1 ty_29 rfl rfl rfl rfl) rfl (sq_v rfl (v_move rfl) rfl ?_)))); refine sq_x rfl (x_call rfl en_21 (fun w s => ct_i_WeightOf _ _ _ _ _ _ _ _ _ w (r.mono (s.get 2 rfl)) (r'.mono (s.get 2 rfl)) (rv.mono (s.get 2 rfl)) (by first | assumption | omega))) rfl ?_; rintro v27 h27 r27; refine sq_u rfl (x_callv rfl en_50 (fun w s => ct_i_equalInts _ _ _ _ w (r19.toR.mono (s.get 1 rfl)) (r27.toR.mono (s.get 0 rfl)))) rfl (sq_v rfl (v_pickt rfl rfl) rfl (sq_v rfl (v_assign rfl) rfl (sq_end (qs_n (wp_rt ?_))))); exact qs_ret1 rfl rfl (fin_q (i := 3) rfl (isb_of (by rw [decide_eq_true_eq]; exact ⟨fun h => ⟨assignB_true.1 c9, c16, totB_true.1 c6, h⟩, fun h => h.2.2.2⟩)))
      · refine sq_v rfl (v_move rfl) rfl (sq_v rfl (v_move rfl) rfl (sq_s rfl rfl (sq_s rfl rfl (sq_s rfl rfl (sq_s rfl rfl (sq_s rfl rfl (sq_v rfl (v_pickf rfl rfl) rfl (sq_v rfl (v_assign rfl) rfl (sq_end (qs_n (wp_rt ?_))))))))))); exact qs_ret1 rfl rfl (fin_q (i := 2) rfl (isb_no (fun h => totB_false.1 c6 h.2.2.1)))
  · refine sq_v rfl (v_not rfl) rfl (sq_v rfl (v_move rfl) rfl (sq_s rfl rfl (sq_s rfl rfl (sq_s rfl rfl (sq_s rfl rfl (sq_v rfl (v_pickt rfl rfl) rfl (sq_end (qs_n (wp_ct rfl (wp_sc (wp_sq (sq_v rfl (v_assign rfl) rfl (sq_end (qs_n (wp_rt (qs_r ?_)))))))))))))))); exact qs_ret1 rfl rfl (fin_q (i := 1) rfl (isb_no (fun h => assignB_false.1 c9 h.1)))
end Go.Proofs.YtiefkcaplhnnmaaGreat
namespace Go.Proofs.YtiefkcaplhnnmaaGreat
set_option maxRecDepth 100000
open Go.RowKit
theorem opI_len (op ls : List Int) (i : Nat) : (opI op ls i).length ≤ op.length := List.length_filter_le _ _
end Go.Proofs.YtiefkcaplhnnmaaGreat
namespace Go.Proofs.YtiefkcaplhnnmaaGreat
set_option maxRecDepth 100000
open Go.RowKit
open Classical in
noncomputable def asIn (k p n : Int) (ts : List Ten) (op vs : List Int) (i : Nat) : Nat → Int → Int → Option (List Int × Int)
  | 0, _, _ => none
  | f + 1, q, v => if cuP k p n ts op vs i v then if q < cuV k p n ts op vs i v then some (vs ++ [v], q) else asIn k p n ts op vs i f (q - cuV k p n ts op vs i v) (v + 1) else none
noncomputable def asTo (k p n : Int) (ts : List Ten) (op : List Int) (q : Int) : Nat → Option (List Int × Int)
  | 0 => some ([], q)
  | i + 1 => (asTo k p n ts op q i).bind fun z => asIn k p n ts op z.1 i (dimOf ts ((labelsL ts).getD i 0)).toNat z.2 0
section
variable {k p n : Int} {ts : List Ten} {op vs : List Int} {i : Nat} {q v : Int}
theorem as_hit {D : Int} (hv : 0 ≤ v ∧ v < D) (h : cuP k p n ts op vs i v) (hq : q < cuV k p n ts op vs i v) : asIn k p n ts op vs i (D - v).toNat q v = some (vs ++ [v], q) := by
  rw [show (D - v).toNat = (D - (v + 1)).toNat + 1 by omega, asIn, if_pos h, if_pos hq]
theorem as_next {D : Int} (hv : 0 ≤ v ∧ v < D) (h : cuP k p n ts op vs i v) (hq : ¬ q < cuV k p n ts op vs i v) : asIn k p n ts op vs i (D - v).toNat q v = asIn k p n ts op vs i (D - (v + 1)).toNat (q - cuV k p n ts op vs i v) (v + 1) := by
  rw [show (D - v).toNat = (D - (v + 1)).toNat + 1 by omega, asIn, if_pos h, if_neg hq]
theorem asTo_step {q' : Int} (h : asTo k p n ts op q i = some (vs, q')) : asTo k p n ts op q (i + 1) = asIn k p n ts op vs i (dimOf ts ((labelsL ts).getD i 0) - 0).toNat q' 0 := by
  rw [asTo, h]
  show asIn _ _ _ _ _ _ _ _ _ _ = _
  rw [Int.sub_zero]
end
section
variable {k p n : Int} {ts : List Ten} {op : List Int} {q : Int}
theorem cnt_range : 0 ≤ cntV k p n ts op ∧ cntV k p n ts op ≤ 1000000 := by
  unfold cntV
  cases hb : cntB k p n ts op with
  | false => exact ⟨Int.le_refl 0, by show (0 : Int) ≤ 1000000; omega⟩
  | true =>
    have h := (cntB_true.1 hb).2; have hr := h.inR; have hl := tot_len h; have := hr.2 _ (mem_getD (k := 0) (by omega)); rw [t3] at this; exact this
end
end Go.Proofs.YtiefkcaplhnnmaaGreat
namespace Go.Proofs.YtiefkcaplhnnmaaGreat
set_option maxRecDepth 100000
open Go.RowKit
def isum (c : Nat → Int) : Nat → Int
  | 0 => 0
  | n + 1 => isum c n + c n
theorem isum_nn {c : Nat → Int} : ∀ {n : Nat}, (∀ i, i < n → 0 ≤ c i) → 0 ≤ isum c n
  | 0, _ => Int.le_refl 0
  | n + 1, h => by have := isum_nn (n := n) fun i hi => h i (by omega); have := h n (by omega); rw [isum]; omega
theorem isum_mono {c : Nat → Int} {m : Nat} : ∀ {n : Nat}, m ≤ n → (∀ i, i < n → 0 ≤ c i) → isum c m ≤ isum c n
  | 0, hm, _ => by rw [show m = 0 by omega]; exact Int.le_refl _
  | n + 1, hm, h => by
    by_cases e : m = n + 1
    · rw [e]; exact Int.le_refl _
    · have := isum_mono (n := n) (m := m) (by omega) fun i hi => h i (by omega); have := h n (by omega); rw [isum]; omega
theorem cap_sum {p n : Int} (hr : ringL 3 p n) (hR : RLaw 3 p n) {F : Nat → El 3 p n} {c : Nat → Int} : ∀ {D : Nat}, (∀ v, v < D → (F v).1 = [c v] ∧ 0 ≤ c v) → (sumN (smL hr hR) F D).1 = [min (isum c D) p]
  | 0, _ => by
    have hp : 1 ≤ p := by unfold ringL at hr; omega
    show zeroL 3 p n = _
    rw [zero_one (by omega) (by omega) (by omega), isum]
    congr 1; omega
  | D + 1, h => by
    have ih := cap_sum hr hR (D := D) fun v hv => h v (by omega); have h0 := isum_nn (c := c) (n := D) fun v hv => (h v (by omega)).2; obtain ⟨e, hc⟩ := h D (by omega)
    show addL 3 p (sumN (smL hr hR) F D).1 (F D).1 = _
    rw [ih, e, addL_one, isum]
    show [min (min (isum c D) p + c D) p] = _
    congr 1; omega
section
variable {k p n : Int} {ts : List Ten} {op vs : List Int}
theorem rk_isum (i : Nat) : ∀ v : Nat, rkIn k p n ts op vs i v = isum (fun (u : Nat) => cuV k p n ts op vs i u) v
  | 0 => rfl
  | v + 1 => by rw [rkIn, isum, rk_isum i v]
theorem cu_take {i m : Nat} (hm : i ≤ m) (v : Int) : cuP k p n ts op (vs.take m) i v = cuP k p n ts op vs i v ∧ cuV k p n ts op (vs.take m) i v = cuV k p n ts op vs i v := by
  unfold cuP cuV
  rw [List.take_take, Nat.min_eq_left hm]; exact ⟨rfl, rfl⟩
/-- The support of the network sliced at the first labels, and its count. -/
noncomputable def nxT (k p n : Int) (ts : List Ten) (vs : List Int) (i : Nat) : List Ten := tsI 3 0 (suppTs k p n ts) (labelsL ts) vs i
noncomputable def nxV (k p n : Int) (ts : List Ten) (op vs : List Int) (i : Nat) : Int := (totX 3 1000000 0 (nxT k p n ts vs i) (opI op (labelsL ts) i)).getD 0 0
theorem nx_slice {i : Nat} (hl : i ≤ vs.length) (v : Int) : tsI 3 0 (suppTs k p n ts) (labelsL ts) (vs.take i ++ [v]) (i + 1) = (nxT k p n ts vs i).map fun t => fix1 3 0 t ((labelsL ts).getD i 0) v := by
  rw [tsI_step, (cu_get (j := 0) hl).2]
  congr 1
  unfold nxT tsI
  exact List.map_congr_left fun t _ => fixTo_congr fun j hj => ⟨rfl, (cu_get hl).1 hj⟩
theorem nx_next {i : Nat} (hl : i < vs.length) : tsI 3 0 (suppTs k p n ts) (labelsL ts) (vs.take i ++ [vs.getD i 0]) (i + 1) = nxT k p n ts vs (i + 1) := by
  rw [← take_succ hl]
  unfold nxT tsI
  exact List.map_congr_left fun t _ => fixTo_congr fun j hj => ⟨rfl, by simp only [List.getD]; rw [List.getElem?_take, if_pos (by omega)]⟩
structure NxOK (k p n : Int) (ts : List Ten) (op vs : List Int) : Prop where
  net : netL k p n ts op
  cnt : cntP k p n ts op
  small : cntV k p n ts op ≠ 1000000
  len : vs.length = (labelsL ts).length
  fit : fitI ts (labelsL ts) vs (labelsL ts).length
theorem NxOK.tot (h : NxOK k p n ts op vs) : ∀ {i : Nat}, i ≤ (labelsL ts).length → netL 3 1000000 0 (nxT k p n ts vs i) (opI op (labelsL ts) i) ∧ totP 3 1000000 0 (nxT k p n ts vs i) (opI op (labelsL ts) i) ∧
    ∀ j, i ≤ j → j < (labelsL ts).length → dimOf (nxT k p n ts vs i) ((labelsL ts).getD j 0) = dimOf ts ((labelsL ts).getD j 0)
  | 0, _ => by
    unfold nxT
    rw [tsI_zero, opI_zero]; exact ⟨supp_net h.net, h.cnt.2, fun j _ _ => supp_dim ts _⟩
  | i + 1, hi => by
    obtain ⟨_, h2, h3⟩ := h.tot (i := i) (by omega); have hn := netI (supp_net h.net) (labL_nodup ts) (i + 1) hi fun j hj => by rw [supp_dim]; exact h.fit j (by omega)
    have hdi := h3 i (Nat.le_refl _) (by omega); have hf := h.fit i (by omega); refine ⟨hn.1, ?_, fun j h1 h2 => by rw [show nxT k p n ts vs (i + 1) = tsI 3 0 (suppTs k p n ts) (labelsL ts) vs (i + 1) from rfl, hn.2 j h1 h2, supp_dim]⟩; have e := nx_slice (k := k) (p := p) (n := n) (ts := ts) (vs := vs) (i := i) (by have := h.len; omega) (vs.getD i 0); rw [nx_next (by have := h.len; omega)] at e; have hn1 := hn.1; rw [show tsI 3 0 (suppTs k p n ts) (labelsL ts) vs (i + 1) = nxT k p n ts vs (i + 1) from rfl, e] at hn1; rw [e]; exact tot_cut h2 (by rw [hdi]; exact hf) hn1
theorem NxOK.cu (h : NxOK k p n ts op vs) {i : Nat} (hi : i < (labelsL ts).length) {v : Int} (hv : 0 ≤ v ∧ v < dimOf ts ((labelsL ts).getD i 0)) : cuP k p n ts op vs i v := by
  obtain ⟨_, h2, h3⟩ := h.tot (i := i) (by omega); have hdi := h3 i (Nat.le_refl _) hi; have hlen := h.len; have hn := (netI (supp_net h.net) (labL_nodup ts) (i + 1) hi (vs := vs.take i ++ [v]) fun j hj => by
    rw [supp_dim]; exact cu_fit (by omega) (fun q hq => h.fit q (by omega)) hv j hj).1
  unfold cuP
  have e := nx_slice (k := k) (p := p) (n := n) (ts := ts) (vs := vs) (i := i) (by omega) v; rw [e] at hn ⊢; exact tot_cut h2 (by rw [hdi]; exact hv) hn
theorem NxOK.next (h : NxOK k p n ts op vs) {i : Nat} (hi : i < (labelsL ts).length) : nxV k p n ts op vs (i + 1) = cuV k p n ts op vs i (vs.getD i 0) := by
  unfold nxV cuV
  rw [nx_next (by have := h.len; omega)]
/-- A count is the sum of the counts of its slices. -/
theorem NxOK.sum (h : NxOK k p n ts op vs) {i : Nat} (hi : i < (labelsL ts).length) : nxV k p n ts op vs i = min (rkIn k p n ts op vs i (dimOf ts ((labelsL ts).getD i 0)).toNat) 1000000 := by
  obtain ⟨_, h2, h3⟩ := h.tot (i := i) (by omega); have hdi := h3 i (Nat.le_refl _) hi; have hm := mem_labels.1 (mem_getD hi); have hx : (labelsL ts).getD i 0 ∈ labelsL (nxT k p n ts vs i) := mem_labels.2 ⟨hm.1, by rw [hdi]; exact hm.2⟩; have hlen := h.len; have hR := law_cap (p := 1000000) (by omega) 0; have hcu : ∀ v : Nat, (v : Int) < dimOf ts ((labelsL ts).getD i 0) → totP 3 1000000 0 ((nxT k p n ts vs i).map fun t => fix1 3 0 t ((labelsL ts).getD i 0) v) (opI op (labelsL ts) (i + 1)) := fun v hv => by
    have := h.cu hi (v := v) ⟨by omega, hv⟩
    unfold cuP at this
    rwa [nx_slice (by omega)] at this
  have e := tot_split r3 hR h2 hx (op' := opI op (labelsL ts) (i + 1)) fun v hv => hcu v (by rw [hdi] at hv; exact hv); have e2 := congrArg Subtype.val e; rw [toA_val r3 h2.inR, hdi] at e2; rw [cap_sum r3 hR (c := fun (u : Nat) => cuV k p n ts op vs i u) fun v hv => ?_] at e2
  · rw [rk_isum]
    unfold nxV
    rw [e2]; rfl
  · have hc := hcu v (by omega); have hl := tot_len hc; refine ⟨?_, (cu_range (h.cu hi (v := v) ⟨by omega, by omega⟩)).1⟩; rw [toA_val r3 hc.inR]
    unfold cuV
    rw [nx_slice (by omega)]
    match hX : totX 3 1000000 0 ((nxT k p n ts vs i).map fun t => fix1 3 0 t ((labelsL ts).getD i 0) v) (opI op (labelsL ts) (i + 1)) with
    | [] => have := hc.inR.1; rw [hX] at this; simp [w3] at this
    | [a] => rfl
    | a :: b :: l => have := hc.inR.1; rw [hX] at this; simp [w3] at this
theorem NxOK.zero (h : NxOK k p n ts op vs) : nxV k p n ts op vs 0 = cntV k p n ts op := by
  unfold nxV nxT
  rw [tsI_zero, opI_zero, cntV, cntB_true.2 h.cnt]; rfl
theorem NxOK.cpos (h : NxOK k p n ts op vs) {i : Nat} (hi : i < (labelsL ts).length) : ∀ u : Nat, u < (dimOf ts ((labelsL ts).getD i 0)).toNat → 0 ≤ cuV k p n ts op vs i u := fun u hu => (cu_range (h.cu hi (v := u) ⟨by omega, by omega⟩)).1
theorem NxOK.up (h : NxOK k p n ts op vs) {i : Nat} (hi : i < (labelsL ts).length) {u w : Nat} (huw : u ≤ w) (hw : w ≤ (dimOf ts ((labelsL ts).getD i 0)).toNat) : rkIn k p n ts op vs i u ≤ rkIn k p n ts op vs i w := by
  rw [rk_isum, rk_isum]; exact isum_mono huw fun q hq => h.cpos hi q (by omega)
theorem NxOK.lt (h : NxOK k p n ts op vs) : ∀ {i : Nat}, i ≤ (labelsL ts).length → nxV k p n ts op vs i < 1000000
  | 0, _ => by
    have h1 := cnt_range (k := k) (p := p) (n := n) (ts := ts) (op := op); have h2 := h.small; rw [h.zero]; omega
  | i + 1, hi => by
    have ih := h.lt (i := i) (by omega); have hs := h.sum (i := i) (by omega); have hf := h.fit i (by omega); have h1 := h.up (i := i) (by omega) (u := (vs.getD i 0).toNat + 1) (w := (dimOf ts ((labelsL ts).getD i 0)).toNat) (by omega) (Nat.le_refl _); have h2 := h.up (i := i) (by omega) (u := 0) (w := (vs.getD i 0).toNat) (by omega) (by omega); rw [h.next (by omega)]; rw [rkIn, show (((vs.getD i 0).toNat : Nat) : Int) = vs.getD i 0 by omega] at h1; rw [rkIn] at h2
    omega
/-- What a rank leaves at a prefix, and the weight, fit into the count there. -/
theorem NxOK.room (h : NxOK k p n ts op vs) : ∀ (d : Nat) {i : Nat}, i + d = (labelsL ts).length → rkTo k p n ts op vs (labelsL ts).length - rkTo k p n ts op vs i + nxV k p n ts op vs (labelsL ts).length ≤ nxV k p n ts op vs i
  | 0, i, hd => by
    rw [show i = (labelsL ts).length by omega]; omega
  | d + 1, i, hd => by
    have ih := h.room d (i := i + 1) (by omega); have hs := h.sum (i := i) (by omega); have hlt := h.lt (i := i) (by omega); have hf := h.fit i (by omega); have h1 := h.up (i := i) (by omega) (u := (vs.getD i 0).toNat + 1) (w := (dimOf ts ((labelsL ts).getD i 0)).toNat) (by omega) (Nat.le_refl _); rw [rkIn, show (((vs.getD i 0).toNat : Nat) : Int) = vs.getD i 0 by omega, ← h.next (by omega)] at h1; rw [rkTo] at ih
    omega
end
end Go.Proofs.YtiefkcaplhnnmaaGreat
namespace Go.Proofs.YtiefkcaplhnnmaaGreat
set_option maxRecDepth 100000
open Go.RowKit
section
variable {k p n : Int} {ts : List Ten} {op vs : List Int}
theorem NxOK.rkmono (h : NxOK k p n ts op vs) : ∀ (d : Nat) {i : Nat}, i + d = (labelsL ts).length → rkTo k p n ts op vs i ≤ rkTo k p n ts op vs (labelsL ts).length
  | 0, i, hd => by rw [show i = (labelsL ts).length by omega]; exact Int.le_refl _
  | d + 1, i, hd => by
    have ih := h.rkmono d (i := i + 1) (by omega); have hf := h.fit i (by omega); have h1 := h.up (i := i) (by omega) (u := 0) (w := (vs.getD i 0).toNat) (by omega) (by omega); rw [rkIn] at h1; rw [rkTo] at ih
    omega
theorem NxOK.run (h : NxOK k p n ts op vs) (hw : 1 ≤ nxV k p n ts op vs (labelsL ts).length) : ∀ i, i ≤ (labelsL ts).length → asTo k p n ts op (rkTo k p n ts op vs (labelsL ts).length) i = some (vs.take i, rkTo k p n ts op vs (labelsL ts).length - rkTo k p n ts op vs i)
  | 0, _ => by rw [asTo, List.take_zero, rkTo, Int.sub_zero]
  | i + 1, hi => by
    have ih := h.run hw i (by omega); have hlen := h.len; have hf := h.fit i (by omega); have hm := h.rkmono ((labelsL ts).length - (i + 1)) (i := i + 1) (by omega); have hroom := h.room ((labelsL ts).length - (i + 1)) (i := i + 1) (by omega); rw [h.next (by omega)] at hroom; rw [rkTo] at hm hroom; have hstep : ∀ u : Nat, (u : Int) ≤ vs.getD i 0 → asTo k p n ts op (rkTo k p n ts op vs (labelsL ts).length) (i + 1) = asIn k p n ts op (vs.take i) i (dimOf ts ((labelsL ts).getD i 0) - (u : Int)).toNat (rkTo k p n ts op vs (labelsL ts).length - rkTo k p n ts op vs i - rkIn k p n ts op vs i u) u := fun u => by
      induction u with
      | zero =>
        intro _; rw [asTo_step ih, rkIn]
        simp
      | succ u ihu =>
        intro hu; have h1 := h.up (i := i) (by omega) (u := u + 1) (w := (vs.getD i 0).toNat) (by omega) (by omega); rw [rkIn] at h1; have hc := cu_take (k := k) (p := p) (n := n) (ts := ts) (op := op) (vs := vs) (i := i) (m := i) (Nat.le_refl _) (u : Int); rw [ihu (by omega), as_next ⟨by omega, by omega⟩ (by rw [hc.1]; exact h.cu (by omega) ⟨by omega, by omega⟩) (by rw [hc.2]; omega), hc.2, rkIn]
        congr 1
        omega
    have hv : (((vs.getD i 0).toNat : Nat) : Int) = vs.getD i 0 := by omega
    have hc := cu_take (k := k) (p := p) (n := n) (ts := ts) (op := op) (vs := vs) (i := i) (m := i) (Nat.le_refl _) (vs.getD i 0); rw [hstep (vs.getD i 0).toNat (by omega), hv, as_hit ⟨hf.1, hf.2⟩ (by rw [hc.1]; exact h.cu (by omega) hf) (by rw [hc.2]; omega), ← take_succ (by omega), rkTo]
    congr 2
    omega
end
end Go.Proofs.YtiefkcaplhnnmaaGreat
namespace Go.Proofs.YtiefkcaplhnnmaaGreat
set_option maxRecDepth 100000
open Go.RowKit
section
variable {k p n : Int} {ts : List Ten} {op vs : List Int}
theorem supp_lab (k p n : Int) (ts : List Ten) : labelsL (suppTs k p n ts) = labelsL ts := by
  unfold labelsL labelsTo
  simp only [supp_dim]
/-- The assignment as a function of labels. -/
def asgn (ls vs : List Int) (x : Int) : Int := vs.getD (findI ls x).toNat 0
theorem asgn_at {ls vs : List Int} (hn : ls.Nodup) {j : Nat} (hj : j < ls.length) : asgn ls vs (ls.getD j 0) = vs.getD j 0 := by
  unfold asgn
  rw [find_at' hn hj, Int.toNat_natCast]
theorem NxOK.labs (h : NxOK k p n ts op vs) : ∀ i, i ≤ (labelsL ts).length → (labelsL ts).Perm ((labelsL ts).take i ++ labelsL (nxT k p n ts vs i))
  | 0, _ => by
    unfold nxT
    rw [tsI_zero, supp_lab, List.take_zero, List.nil_append]
  | i + 1, hi => by
    have ih := h.labs i (by omega); obtain ⟨h1, _, h3⟩ := h.tot (i := i) (by omega); have hdi := h3 i (Nat.le_refl _) (by omega); have hm := mem_labels.1 (mem_getD (show i < (labelsL ts).length by omega)); have hx : (labelsL ts).getD i 0 ∈ labelsL (nxT k p n ts vs i) := mem_labels.2 ⟨hm.1, by rw [hdi]; exact hm.2⟩; have hf := h.fit i (by omega); have hp := sl_labels h1 hx (v := vs.getD i 0) (by rw [hdi]; exact hf); have hlen := h.len; have e := nx_slice (k := k) (p := p) (n := n) (ts := ts) (vs := vs) (i := i) (by omega) (vs.getD i 0); rw [nx_next (by omega)] at e; rw [← e] at hp; refine ih.trans ?_; rw [take_succ (by omega), List.append_assoc]; exact hp.append_left _
theorem NxOK.done (h : NxOK k p n ts op vs) : labelsL (nxT k p n ts vs (labelsL ts).length) = [] := by
  have hp := (h.labs (labelsL ts).length (Nat.le_refl _)).length_eq; rw [List.take_length, List.length_append] at hp; exact List.eq_nil_of_length_eq_zero (by omega)
theorem NxOK.inrange (h : NxOK k p n ts op vs) {i : Nat} (hi : i ≤ (labelsL ts).length) {y : Int} (hy : y ∈ labelsL (nxT k p n ts vs i)) : 0 ≤ asgn (labelsL ts) vs y ∧ asgn (labelsL ts) vs y < dimOf (nxT k p n ts vs i) y := by
  have hp := h.labs i hi; have hyl : y ∈ labelsL ts := hp.mem_iff.2 (List.mem_append_right _ hy); have hg := findI_get hyl; have hnd := hp.nodup_iff.1 (labL_nodup ts); have hge : i ≤ (findI (labelsL ts) y).toNat := by
    rcases Nat.lt_or_ge (findI (labelsL ts) y).toNat i with c | c
    · have hmem : y ∈ (labelsL ts).take i := by
        rw [← hg.2]; have hlt : (findI (labelsL ts) y).toNat < ((labelsL ts).take i).length := by rw [List.length_take]; omega
        have e : ((labelsL ts).take i).getD (findI (labelsL ts) y).toNat 0 = (labelsL ts).getD (findI (labelsL ts) y).toNat 0 := by
          simp only [List.getD]; rw [List.getElem?_take, if_pos c]
        rw [← e]; exact mem_getD hlt
      exact absurd rfl ((List.nodup_append.1 hnd).2.2 y hmem y hy)
    · exact c
  obtain ⟨_, _, h3⟩ := h.tot hi; have hd := h3 _ hge hg.1; rw [hg.2] at hd; rw [hd]; have hf := h.fit _ hg.1; rw [hg.2] at hf; exact hf
theorem NxOK.prod (h : NxOK k p n ts op vs) (hR : RLaw 3 1000000 0) : ∀ i, i ≤ (labelsL ts).length → prodV r3 hR (nxT k p n ts vs i) (asgn (labelsL ts) vs) = prodV r3 hR (suppTs k p n ts) (asgn (labelsL ts) vs)
  | 0, _ => by unfold nxT; rw [tsI_zero]
  | i + 1, hi => by
    rw [← h.prod hR i (by omega)]; obtain ⟨h1, _, h3⟩ := h.tot (i := i) (by omega); have hdi := h3 i (Nat.le_refl _) (by omega); have hf := h.fit i (by omega); have hlen := h.len; have e := nx_slice (k := k) (p := p) (n := n) (ts := ts) (vs := vs) (i := i) (by omega) (vs.getD i 0); rw [nx_next (by omega)] at e; rw [e]; have hdm := net_dmap h1; have hat := asgn_at (vs := vs) (labL_nodup ts) (show i < (labelsL ts).length by omega); have hsub : ∀ l : List Ten, (∀ t ∈ l, t ∈ nxT k p n ts vs i) → prodV r3 hR (l.map fun t => fix1 3 0 t ((labelsL ts).getD i 0) (vs.getD i 0)) (asgn (labelsL ts) vs) = prodV r3 hR l (asgn (labelsL ts) vs) := fun l => by
      induction l with
      | nil => intro _; rfl
      | cons t l ih =>
        intro hl; have htm := hl t (by simp); rw [List.map_cons, prodV_cons, prodV_cons, ih fun u hu => hl u (by simp [hu]), val_fix r3 (h1.2.2.1 t htm) (hdm t htm) (by rw [hdi]; exact hf) fun y hy _ => h.inrange (by omega) (net_label h1 htm hy)]
        congr 2
        rw [← hat, upd_self]
    exact hsub _ fun _ h => h
theorem fold_prod {ls : List Int} (hR : RLaw 3 1000000 0) : ∀ (l : List Ten) (acc : List Int), InR 3 1000000 0 acc → (∀ t ∈ l, InR 3 1000000 0 (elt t.x (widthI 3 0) (offL t.d (idxAt ls vs t.l)))) →
    InR 3 1000000 0 (l.foldl (fun a t => mulL 3 1000000 0 a (elt t.x (widthI 3 0) (offL t.d (idxAt ls vs t.l)))) acc) ∧ toA r3 (l.foldl (fun a t => mulL 3 1000000 0 a (elt t.x (widthI 3 0) (offL t.d (idxAt ls vs t.l)))) acc) = (smL r3 hR).mul (toA r3 acc) (prodV r3 hR l (asgn ls vs))
  | [], acc, ha, _ => ⟨ha, by
      show toA r3 acc = (smL r3 hR).mul _ (smL r3 hR).one
      rw [(smL r3 hR).mulC, (smL r3 hR).mul1]⟩
  | t :: l, acc, ha, hl => by
    have ht := hl t (by simp); obtain ⟨h1, h2⟩ := fold_prod hR l (mulL 3 1000000 0 acc (elt t.x (widthI 3 0) (offL t.d (idxAt ls vs t.l)))) (mulL_in r3 ha ht) fun u hu => hl u (by simp [hu]); refine ⟨h1, ?_⟩; rw [List.foldl_cons, h2, toA_mul r3 hR ha ht, prodV_cons, (smL r3 hR).mulA]
    rfl
theorem fold_bit {ls : List Int} : ∀ (l : List Ten) (acc : List Int), (acc = [0] ∨ acc = [1]) → (∀ t ∈ l, elt t.x (widthI 3 0) (offL t.d (idxAt ls vs t.l)) = [0] ∨ elt t.x (widthI 3 0) (offL t.d (idxAt ls vs t.l)) = [1]) →
    (l.foldl (fun a t => mulL 3 1000000 0 a (elt t.x (widthI 3 0) (offL t.d (idxAt ls vs t.l)))) acc = [0] ∨ l.foldl (fun a t => mulL 3 1000000 0 a (elt t.x (widthI 3 0) (offL t.d (idxAt ls vs t.l)))) acc = [1])
  | [], _, ha, _ => ha
  | t :: l, acc, ha, hl => by
    rw [List.foldl_cons]; refine fold_bit l _ ?_ fun u hu => hl u (by simp [hu]); have em : ∀ a b : Int, mulL 3 1000000 0 [a] [b] = [min (a * b) 1000000] := fun a b => by simp [mulL]
    rcases ha with rfl | rfl <;> rcases hl t (by simp) with e | e <;> rw [e, em] <;> decide
theorem NxOK.weight (h : NxOK k p n ts op vs) (ha : assignL 3 1000000 0 (suppTs k p n ts) op vs) : weightL 3 1000000 0 (suppTs k p n ts) op vs = [nxV k p n ts op vs (labelsL ts).length] ∧ (nxV k p n ts op vs (labelsL ts).length = 0 ∨ nxV k p n ts op vs (labelsL ts).length = 1) := by
  have hR := law_cap (p := 1000000) (by omega) 0; have hat := assign_at ha; rw [supp_lab] at hat; have hel : ∀ t ∈ suppTs k p n ts, InR 3 1000000 0 (elt t.x (widthI 3 0) (offL t.d (idxAt (labelsL ts) vs t.l))) := fun t ht => elt_inR (hat.ten t ht) (hat.off ht).1 (hat.off ht).2; obtain ⟨h1, h2⟩ := fold_prod (vs := vs) (ls := labelsL ts) hR (suppTs k p n ts) (oneL 3 1000000 0) (oneL_in r3) hel; have hbit := fold_bit (vs := vs) (ls := labelsL ts) (suppTs k p n ts) (oneL 3 1000000 0) (.inr rfl) fun t ht => by
    have hi := hel t ht; obtain ⟨b, hb, _⟩ := in_one (by omega) (by omega) hi; obtain ⟨u, hu, rfl⟩ := List.mem_map.1 ht; have hbx : b ∈ (suppT k p n u).x := elt_mem (by rw [hb]; simp); have hbx' : b ∈ bitsL k p n u (prodI u.d).toNat := hbx; rw [bits_map] at hbx'; obtain ⟨m, _, e⟩ := List.mem_map.1 hbx'; rw [hb, ← e]
    unfold bitAt
    split
    · exact .inl rfl
    · exact .inr rfl
  have e1 : weightL 3 1000000 0 (suppTs k p n ts) op vs = (suppTs k p n ts).foldl (fun a t => mulL 3 1000000 0 a (elt t.x (widthI 3 0) (offL t.d (idxAt (labelsL ts) vs t.l)))) (oneL 3 1000000 0) := by
    rw [weightL, if_pos ha, weightTo, supp_lab]
  obtain ⟨_, ht, _⟩ := h.tot (Nat.le_refl _); have e2 := tot_sum r3 hR ht (asgn (labelsL ts) vs); rw [h.done, sumO, h.prod hR _ (Nat.le_refl _)] at e2; have e3 : toA r3 (oneL 3 1000000 0) = (smL r3 hR).one := by rw [toA_eq r3 (oneL_in r3)]; rfl
  rw [e3, (smL r3 hR).mul1, ← e2] at h2; have e4 := congrArg Subtype.val h2; rw [toA_val r3 h1, toA_val r3 ht.inR] at e4; rw [e1]; rw [e4] at hbit ⊢; have e5 : nxV k p n ts op vs (labelsL ts).length = (totX 3 1000000 0 (nxT k p n ts vs (labelsL ts).length) (opI op (labelsL ts) (labelsL ts).length)).getD 0 0 := rfl; rw [e5]
  rcases hbit with e | e
  · rw [e]; exact ⟨rfl, .inl rfl⟩
  · rw [e]; exact ⟨rfl, .inr rfl⟩
end
end Go.Proofs.YtiefkcaplhnnmaaGreat
namespace Go.Proofs.YtiefkcaplhnnmaaGreat
set_option maxRecDepth 100000
open Go.RowKit
theorem drop_get {ls : List Int} {i : Nat} {y : Int} (h : y ∈ ls.drop i) : ∃ j, i ≤ j ∧ j < ls.length ∧ ls.getD j 0 = y := by
  obtain ⟨m, hm, e⟩ := getD_of_mem h; rw [List.length_drop] at hm; refine ⟨i + m, by omega, by omega, ?_⟩; rw [← e]
  simp [List.getD, List.getElem?_drop]
theorem take_get {ls : List Int} {i : Nat} {y : Int} (h : y ∈ ls.take i) : ∃ j, j < i ∧ j < ls.length ∧ ls.getD j 0 = y := by
  obtain ⟨m, hm, e⟩ := getD_of_mem h; rw [List.length_take] at hm; refine ⟨m, by omega, by omega, ?_⟩; rw [← e]; simp only [List.getD]; rw [List.getElem?_take, if_pos (by omega)]
theorem not_drop {ls : List Int} (hn : ls.Nodup) {i j : Nat} (hj : j < i) (hl : j < ls.length) : ls.getD j 0 ∉ ls.drop i := fun hm => by
  obtain ⟨m, h1, h2, e⟩ := drop_get hm; have h3 := find_at' hn h2; rw [e, find_at' hn hl] at h3
  omega
section
variable {k p n : Int} {ts : List Ten} {op vs : List Int}
theorem pre_tot (hnet : netL k p n ts op) (ht : totP k p n ts op) : ∀ {i : Nat}, i ≤ (labelsL ts).length → fitI ts (labelsL ts) vs i →
    netL k p n (tsI k n ts (labelsL ts) vs i) (opI op (labelsL ts) i) ∧ totP k p n (tsI k n ts (labelsL ts) vs i) (opI op (labelsL ts) i) ∧
    ∀ j, i ≤ j → j < (labelsL ts).length → dimOf (tsI k n ts (labelsL ts) vs i) ((labelsL ts).getD j 0) = dimOf ts ((labelsL ts).getD j 0)
  | 0, _, _ => by rw [tsI_zero, opI_zero]; exact ⟨hnet, ht, fun _ _ _ => rfl⟩
  | i + 1, hi, hfi => by
    obtain ⟨_, h2, h3⟩ := pre_tot hnet ht (i := i) (by omega) fun j hj => hfi j (by omega); have hn := netI hnet (labL_nodup ts) (i + 1) hi hfi; have hdi := h3 i (Nat.le_refl _) (by omega); have hf := hfi i (by omega); refine ⟨hn.1, ?_, hn.2⟩; have hn1 := hn.1; rw [tsI_step] at hn1 ⊢; exact tot_cut h2 (by rw [hdi]; exact hf) hn1
theorem pre_labs (hnet : netL k p n ts op) (ht : totP k p n ts op) : ∀ i, i ≤ (labelsL ts).length → fitI ts (labelsL ts) vs i → (labelsL ts).Perm ((labelsL ts).take i ++ labelsL (tsI k n ts (labelsL ts) vs i))
  | 0, _, _ => by rw [tsI_zero, List.take_zero, List.nil_append]
  | i + 1, hi, hfi => by
    have hfi' : fitI ts (labelsL ts) vs i := fun j hj => hfi j (by omega); have ih := pre_labs hnet ht i (by omega) hfi'; obtain ⟨h1, _, h3⟩ := pre_tot hnet ht (i := i) (by omega) hfi'; have hdi := h3 i (Nat.le_refl _) (by omega); have hm := mem_labels.1 (mem_getD (show i < (labelsL ts).length by omega)); have hx : (labelsL ts).getD i 0 ∈ labelsL (tsI k n ts (labelsL ts) vs i) := mem_labels.2 ⟨hm.1, by rw [hdi]; exact hm.2⟩; have hf := hfi i (by omega); have hp := sl_labels h1 hx (v := vs.getD i 0) (by rw [hdi]; exact hf); rw [← tsI_step] at hp; refine ih.trans ?_; rw [take_succ (by omega), List.append_assoc]; exact hp.append_left _
theorem pre_drop (hnet : netL k p n ts op) (ht : totP k p n ts op) {i : Nat} (hi : i ≤ (labelsL ts).length) (hf : fitI ts (labelsL ts) vs i) : (labelsL (tsI k n ts (labelsL ts) vs i)).Perm ((labelsL ts).drop i) := by
  have h := pre_labs hnet ht i hi hf; have e := List.take_append_drop i (labelsL ts); have h2 : ((labelsL ts).take i ++ labelsL (tsI k n ts (labelsL ts) vs i)).Perm ((labelsL ts).take i ++ (labelsL ts).drop i) := by rw [e]; exact h.symm
  exact (List.perm_append_left_iff _).1 h2
variable (hr : ringL k p n) (hR : RLaw k p n)
theorem pre_prod (hnet : netL k p n ts op) (ht : totP k p n ts op) {b : Int → Int} (hb : ∀ y ∈ labelsL ts, 0 ≤ b y ∧ b y < dimOf ts y) : ∀ i, i ≤ (labelsL ts).length → fitI ts (labelsL ts) vs i → (∀ j, j < i → b ((labelsL ts).getD j 0) = vs.getD j 0) →
    prodV hr hR (tsI k n ts (labelsL ts) vs i) b = prodV hr hR ts b
  | 0, _, _, _ => by rw [tsI_zero]
  | i + 1, hi, hfi, hv => by
    have hfi' : fitI ts (labelsL ts) vs i := fun j hj => hfi j (by omega); rw [← pre_prod hnet ht hb i (by omega) hfi' fun j hj => hv j (by omega)]; obtain ⟨h1, _, h3⟩ := pre_tot hnet ht (i := i) (by omega) hfi'; have hdi := h3 i (Nat.le_refl _) (by omega); have hf := hfi i (by omega); have hdm := net_dmap h1; have hat := hv i (by omega); rw [tsI_step]; have hsub : ∀ l : List Ten, (∀ t ∈ l, t ∈ tsI k n ts (labelsL ts) vs i) → prodV hr hR (l.map fun t => fix1 k n t ((labelsL ts).getD i 0) (vs.getD i 0)) b = prodV hr hR l b := fun l => by
      induction l with
      | nil => intro _; rfl
      | cons t l ih =>
        intro hl; have htm := hl t (by simp); rw [List.map_cons, prodV_cons, prodV_cons, ih fun u hu => hl u (by simp [hu]), val_fix hr (h1.2.2.1 t htm) (hdm t htm) (by rw [hdi]; exact hf) fun y hy _ => ?_]
        · rw [← hat, upd_self]
        · obtain ⟨j, h4, h5, rfl⟩ := drop_get ((pre_drop hnet ht (by omega) hfi').mem_iff.1 (net_label h1 htm hy)); rw [h3 j h4 h5]; exact hb _ (mem_getD h5)
    exact hsub _ fun _ h => h
/-- The total of a network that is sliced at its first labels is a sum over the labels that are left. -/
theorem pre_sum (hnet : netL k p n ts op) (ht : totP k p n ts op) {i : Nat} (hi : i ≤ (labelsL ts).length) (hf : fitI ts (labelsL ts) vs i) {a : Int → Int} (ha : ∀ j, j < i → a ((labelsL ts).getD j 0) = vs.getD j 0) :
    toA hr (totX k p n (tsI k n ts (labelsL ts) vs i) (opI op (labelsL ts) i)) = sumO (smL hr hR) (dimOf ts) ((labelsL ts).drop i) (prodV hr hR ts) a := by
  obtain ⟨h1, h2, h3⟩ := pre_tot hnet ht hi hf; have hp := pre_drop hnet ht hi hf; rw [tot_sum hr hR h2 a, sumO_dim (g := dimOf ts) (fun y hy => by obtain ⟨j, h4, h5, rfl⟩ := drop_get (hp.mem_iff.1 hy); exact h3 j h4 h5), sumO_perm _ _ hp]; refine sumO_congr _ _ fun b hb1 hb2 => pre_prod hr hR hnet ht (fun y hy => ?_) i hi hf (fun j hj => ?_)
  · by_cases c : y ∈ (labelsL ts).drop i
    · exact hb2 y c
    · rw [← List.take_append_drop i (labelsL ts)] at hy; obtain ⟨j, h4, h5, rfl⟩ := take_get ((List.mem_append.1 hy).resolve_right c); rw [hb1 _ c, ha j h4]; exact hf j h4
  · rw [hb1 _ (not_drop (labL_nodup ts) hj (by omega)), ha j hj]
theorem fold_val {ls : List Int} : ∀ (l : List Ten) (acc : List Int), InR k p n acc → (∀ t ∈ l, InR k p n (elt t.x (widthI k n) (offL t.d (idxAt ls vs t.l)))) →
    InR k p n (l.foldl (fun a t => mulL k p n a (elt t.x (widthI k n) (offL t.d (idxAt ls vs t.l)))) acc) ∧ toA hr (l.foldl (fun a t => mulL k p n a (elt t.x (widthI k n) (offL t.d (idxAt ls vs t.l)))) acc) = (smL hr hR).mul (toA hr acc) (prodV hr hR l (asgn ls vs))
  | [], acc, ha, _ => ⟨ha, by
      show toA hr acc = (smL hr hR).mul _ (smL hr hR).one
      rw [(smL hr hR).mulC, (smL hr hR).mul1]⟩
  | t :: l, acc, ha, hl => by
    have ht := hl t (by simp); obtain ⟨h1, h2⟩ := fold_val l (mulL k p n acc (elt t.x (widthI k n) (offL t.d (idxAt ls vs t.l)))) (mulL_in hr ha ht) fun u hu => hl u (by simp [hu]); refine ⟨h1, ?_⟩; rw [List.foldl_cons, h2, toA_mul hr hR ha ht, prodV_cons, (smL hr hR).mulA]
    rfl
/-- A weight is the product at the assignment. -/
theorem weight_val (ha : assignL k p n ts op vs) : InR k p n (weightL k p n ts op vs) ∧ toA hr (weightL k p n ts op vs) = prodV hr hR ts (asgn (labelsL ts) vs) := by
  have hat := assign_at ha; have hel : ∀ t ∈ ts, InR k p n (elt t.x (widthI k n) (offL t.d (idxAt (labelsL ts) vs t.l))) := fun t ht => elt_inR (hat.ten t ht) (hat.off ht).1 (hat.off ht).2; obtain ⟨h1, h2⟩ := fold_val hr hR (vs := vs) (ls := labelsL ts) ts (oneL k p n) (oneL_in hr) hel; have e3 : toA hr (oneL k p n) = (smL hr hR).one := by rw [toA_eq hr (oneL_in hr)]; rfl
  rw [e3, (smL hr hR).mul1] at h2; rw [weightL, if_pos ha, weightTo]; exact ⟨h1, h2⟩
end
end Go.Proofs.YtiefkcaplhnnmaaGreat
namespace Go.Proofs.YtiefkcaplhnnmaaGreat
set_option maxRecDepth 100000
open Go.RowKit
theorem ct_s_l45At (n : Int) (xs : List Int) (vb : Value) (w : World) (rb : BytesR xs vb (hp w)) (hxl : xs.length ≤ 1048576) (hn : 0 ≤ n ∧ n ≤ 1000) : Calls Tryz.prog 34 [vb, num n].toArray w (Ret w emp (CurO vb)) := by
  refine calls_in Tryz.func34 rfl Tryz.ntmps34 rfl (Sat.start w) ?_; have hle0 := rb.le; refine wp_sc (wp_sq (sq_v rfl (v_assign rfl) rfl (sq_end (qs_n (wp_sc (wp_sq (sq_v rfl (v_move rfl) rfl ?_))))))); refine sq_x rfl (x_call rfl en_73 (fun w s => ct_s_l01New _ _ w (rb.mono (s.get 0 rfl)) (by first | assumption | omega))) rfl ?_; rintro v7 h7 r7; refine sq_v rfl (v_assign rfl) rfl (sq_end ?_); obtain ⟨b7, i7, x7, rfl, hi7, rfl⟩ := r7
  skip
  refine qs_n (wp_sc (wp_sq (sq_v rfl (v_move rfl) rfl (sq_v rfl (v_move rfl) rfl (sq_v rfl (v_move rfl) rfl (sq_v rfl (v_len Tryz.underlying22 rfl rb.1.sl) rfl (sq_v rfl (v_min rfl rfl) rfl (sq_v rfl (v_nilCheck rfl) rfl (sq_v rfl (v_fieldAddr fd_99_1 ty_3 (by decide) rfl) rfl ?_))))))))); refine sq_m 0 rfl rfl (m_store1 0 ty_3 rfl rfl rfl rfl (Nat.le_of_ble_eq_true rfl)) rfl ?_; rintro _ _ ⟨rfl, rfl⟩; refine sq_end (qs_n (wp_sc (wp_sq (sq_v rfl (v_move rfl) rfl (sq_v rfl (v_move rfl) rfl (sq_v rfl (v_nilCheck rfl) rfl (sq_v rfl (v_fieldAddr fd_99_2 ty_3 (by decide) rfl) rfl (sq_v rfl (v_loadB 0 ty_3 rfl rfl rfl) rfl (sq_v rfl (v_mulw rfl rfl) rfl (sq_v rfl (v_move rfl) rfl ?_)))))))))); refine sq_v rfl (v_mul rfl rfl ((by unfold I64; omega))) rfl ?_; refine sq_v rfl (v_addw rfl rfl) rfl (sq_v rfl (v_addw rfl rfl) rfl (sq_v rfl (v_andW rfl rfl (by omega) (by omega)) rfl (sq_v rfl (v_nilCheck rfl) rfl (sq_v rfl (v_fieldAddr fd_99_2 ty_3 (by decide) rfl) rfl ?_)))); refine sq_m 0 rfl rfl (m_store1 0 ty_3 rfl rfl rfl rfl (Nat.le_of_ble_eq_true rfl)) rfl ?_; rintro _ _ ⟨rfl, rfl⟩; refine sq_end (qs_n (wp_sc (wp_sq (sq_v rfl (v_move rfl) rfl (sq_v rfl (v_assign rfl) rfl (sq_end (qs_n (wp_rt ?_)))))))); exact qs_ret1 rfl rfl (fin_t 0 (i := 1) rfl rfl rfl ⟨b7, _, _, rfl, by omega, rfl⟩)
theorem ct_s_l29Ring (xs : List Int) (vb vp : Value) (w : World) (h : PH) (hle : PLe h (hp w)) (rc : CurO vb vp h) (rb : BytesR xs vb (restP w h)) : Calls Tryz.prog 52 [vp].toArray w (Ret w h (fun u h' => ∃ k p n, u = ringV k p n ∧ ringL k p n ∧ (k = 1 ∨ k = 4 ∨ k = 5) ∧ CurO vb vp h')) := by
  refine calls_in Tryz.func52 rfl Tryz.ntmps52 rfl (Sat.start2 hle) ?_; have hle1 := rb.le; refine wp_sc (wp_sq ?_); refine sq_x rfl (x_alloc ty_24 rfl) rfl ?_; rintro _ _ ⟨b2, rfl, rfl⟩; refine sq_end (qs_n (wp_sc (wp_sq (sq_v rfl (v_move rfl) rfl ?_)))); refine sq_x rfl (x_buildS [num (1), num (4), num (5)] Tryz.underlying27 ty_3 (by decide) rfl rfl rfl (by decide) (by decide) (by intro v hv; simp at hv; rcases hv with rfl | rfl | rfl <;> rfl)) rfl ?_; intro v5 h5 (r5 : IntsO [1, 4, 5] v5 h5); refine sq_m 2 rfl rfl (x_call rfl en_72 (fun w s => ct_s_l01Pick _ _ _ _ _ w _ (s.get 2 rfl) rc (rb.mono (s.getR 2 3 rfl rfl (by decide))) (r5.toR.mono (s.getR 2 0 rfl rfl (by decide))) (by decide))) rfl ?_; rintro _ h6 ⟨x6, rfl, hx6, cu6⟩; refine sq_v rfl (v_assign rfl) rfl (sq_end (qs_n (wp_sc (wp_sc (wp_sq (sq_v rfl (v_move rfl) rfl (sq_v rfl (v_eql rfl rfl) rfl (sq_end (qs_n ?_))))))))); refine wp_cd rfl (fun c8 => ?_) (fun c8 => ?_)
  · refine wp_sc (wp_sq (sq_v rfl (v_move rfl) rfl (sq_v rfl (v_build [num x6, num 0, num 0] rfl (by kernel_rfl)) rfl ?_))); refine sq_m 1 rfl rfl (m_store 1 ty_24 rfl rfl rfl rfl (by simp [Value.oneCell']) rfl (Nat.le_of_ble_eq_true rfl)) rfl ?_; rintro _ _ ⟨rfl, rfl⟩; refine sq_end (qs_n (wp_rt (qs_r ?_))); exact qs_retc 1 rfl ty_24 rfl rfl rfl (fin_m (i := 3) 2 rfl rfl rfl ⟨_, _, _, rfl, .inl ⟨by omega, rfl, rfl⟩, by omega, cu6⟩)
  · refine wp_sk (qs_n (wp_sc (wp_sq (sq_v rfl (v_move rfl) rfl (sq_v rfl (v_move rfl) rfl ?_))))); refine sq_x rfl (x_buildS [num (1), num (3), num (9), num (50)] Tryz.underlying27 ty_3 (by decide) rfl rfl rfl (by decide) (by decide) (by intro v hv; simp at hv; rcases hv with rfl | rfl | rfl | rfl <;> rfl)) rfl ?_; intro v13 h13 (r13 : IntsO [1, 3, 9, 50] v13 h13); refine sq_m 3 rfl rfl (x_call rfl en_72 (fun w s => ct_s_l01Pick _ _ _ _ _ w _ (s.get 3 rfl) cu6 (rb.mono (s.getR 3 4 rfl rfl (by decide))) (r13.toR.mono (s.getR 3 0 rfl rfl (by decide))) (by decide))) rfl ?_; rintro _ h14 ⟨x14, rfl, hx14, cu14⟩; refine sq_v rfl (v_build [num x6, num x14, num 0] rfl (by kernel_rfl)) rfl ?_; refine sq_m 2 rfl rfl (m_store 2 ty_24 rfl rfl rfl rfl (by simp [Value.oneCell']) rfl (Nat.le_of_ble_eq_true rfl)) rfl ?_; rintro _ _ ⟨rfl, rfl⟩; refine sq_end (qs_n (wp_rt ?_)); have h6 : x6 = 4 ∨ x6 = 5 := by simp only [List.mem_cons, List.not_mem_nil, or_false] at hx6; omega
    exact qs_retc 2 rfl ty_24 rfl rfl rfl (fin_m (i := 4) 3 rfl rfl rfl ⟨_, _, _, rfl, .inr (.inr (.inl ⟨by omega, by simp only [List.mem_cons, List.not_mem_nil, or_false] at hx14; omega, rfl⟩)), by omega, cu14⟩)
end Go.Proofs.YtiefkcaplhnnmaaGreat
namespace Go.Proofs.YtiefkcaplhnnmaaGreat
set_option maxRecDepth 100000
open Go.RowKit
def ElemM (k p n : Int) (vb vp : Value) (u : Value) (h : PH) : Prop := ∃ hc hx e, CurO vb vp hc ∧ IntsO e u hx ∧ InR k p n e ∧ Made h [hc, hx]
set_option maxHeartbeats 1000000 in
theorem ct_s_l02Draw (k p n : Int) (xs : List Int) (vb vp : Value) (w : World) (h : PH) (hle : PLe h (hp w)) (rc : CurO vb vp h) (rb : BytesR xs vb (restP w h)) (hr : ringL k p n) : Calls Tryz.prog 122 [vp, ringV k p n].toArray w (Ret w h (ElemM k p n vb vp)) := by
  have htop := top_range hr; have hwr := width_range hr; refine calls_in Tryz.func122 rfl Tryz.ntmps122 rfl (Sat.start2 hle) ?_; have hle1 := rb.le; refine wp_sc (wp_sq ?_); refine sq_x rfl (x_box rfl rfl) rfl ?_; rintro _ _ ⟨b3, rfl, rfl⟩; refine sq_v rfl (v_assign rfl) rfl (sq_end (qs_n (wp_sc (wp_sc (wp_sq (sq_v rfl (v_move rfl) rfl ?_)))))); refine sq_m 1 rfl rfl (x_call rfl en_71 (fun w s => ct_s_l01Below _ _ _ _ w _ (s.get 1 rfl) rc (rb.mono (s.getR 1 2 rfl rfl (by decide))) (by omega))) rfl ?_; rintro _ h8 ⟨x8, rfl, hx8, hy8, cu8⟩; refine sq_end (qs_n (wp_bl (wp_sc (wp_sq (sq_v rfl (v_eql rfl rfl) rfl (sq_v rfl (v_assign rfl) rfl (sq_end (qs_n ?_)))))))); refine wp_cd rfl (fun c9 => ?_) (fun c9 => ?_)
  · refine wp_sc (wp_sq (sq_v rfl (v_loadNB 0 ty_24 rfl rfl rfl rfl) rfl ?_)); refine sq_x rfl (x_call rfl en_128 (fun w s => ct_s_l02Zero _ _ _ w (by first | assumption | omega))) rfl ?_; rintro v12 h12 r12; refine sq_v rfl (v_assign rfl) rfl (sq_end (qs_n (wp_rt (qs_br (qs_r ?_))))); refine qs_close [restP w h] [h8, h12] (fun _ s => s.pick [3, 2, 0] (by decide) rfl) (fun md => ?_); exact qs_ret1 rfl rfl (fin_m (i := 1) 0 rfl rfl rfl ⟨h8, h12, _, cu8, r12, zeroL_in hr, md⟩)
  · refine wp_sc (wp_sq (sq_v rfl (v_eql rfl rfl) rfl (sq_v rfl (v_assign rfl) rfl (sq_end (qs_n ?_))))); refine wp_cd rfl (fun c13 => ?_) (fun c13 => ?_)
    · refine wp_sc (wp_sq (sq_v rfl (v_loadNB 0 ty_24 rfl rfl rfl rfl) rfl ?_)); refine sq_x rfl (x_call rfl en_130 (fun w s => ct_s_l02One _ _ _ w (by first | assumption | omega))) rfl ?_; rintro v16 h16 r16; refine sq_v rfl (v_assign rfl) rfl (sq_end (qs_n (wp_rt (qs_br (qs_r ?_))))); refine qs_close [restP w h] [h8, h16] (fun _ s => s.pick [3, 2, 0] (by decide) rfl) (fun md => ?_); exact qs_ret1 rfl rfl (fin_m (i := 1) 0 rfl rfl rfl ⟨h8, h16, _, cu8, r16, oneL_in hr, md⟩)
    · refine wp_sk (qs_bn (qs_n (wp_sc (wp_sq (sq_v rfl (v_loadNB 0 ty_24 rfl rfl rfl rfl) rfl (sq_u rfl (x_callv rfl en_129 (fun w s => ct_s_l02Width _ _ _ w)) rfl ?_)))))); refine sq_x rfl (x_makeI Tryz.underlying27 ty_3 rfl rfl (by first | omega | (simp; omega) | (simp only [List.length_append, List.length_cons, List.length_nil]; omega) | (rw [List.length_set]; omega)) (by first | omega | (simp; omega) | (simp only [List.length_append, List.length_cons, List.length_nil]; omega) | (rw [List.length_set]; omega)) (by first | omega | (simp; omega) | (simp only [List.length_append, List.length_cons, List.length_nil]; omega) | (rw [List.length_set]; omega))) rfl ?_; intro v19 h19 r19; refine sq_v rfl (v_assign rfl) rfl (sq_end (qs_n (wp_sc (wp_sc (wp_sq (sq_v rfl (v_move rfl) rfl (sq_v rfl (v_len Tryz.underlying27 rfl r19.toR.sl) rfl (sq_v rfl (v_move rfl) rfl (sq_end (qs_n (wp_bl ?_))))))))))); refine wp_lp (σ := Nat × PH × PH × (List Int)) (fun z_ => [(0, vp), (3, .pointer (some ⟨b3, 0, none⟩)), (4, .slice none 0 0), (5, v19), (21, num (List.replicate (widthI k n : Int).toNat 0).length), (22, num z_.1)]) (fun z_ => [z_.2.2.1, box b3 [num k, num p, num n] 24, z_.2.1, (restP w h)]) (fun z_ => z_.1 ≤ (widthI k n).toNat ∧ z_.2.2.2.length = (widthI k n).toNat ∧ (∀ a ∈ z_.2.2.2, 0 ≤ a ∧ a ≤ topI k p n) ∧ CurO vb vp z_.2.1 ∧ IntsO z_.2.2.2 v19 z_.2.2.1) (fun z_ => (widthI k n).toNat - z_.1) (0, h8, h19, (List.replicate (widthI k n).toNat 0)) (⟨by (try dsimp only); omega, List.length_replicate, (fun a ha => by rw [(List.mem_replicate.1 ha).2]; omega), cu8, r19⟩) ⟨rfl, rfl, rfl, rfl, rfl, (by first | rfl | exact ksub rfl (by first | omega | (simp; done) | (simp; omega))), trivial⟩ (fun _ s => s) ?_; rintro ⟨i, hc, hx, ys⟩ ⟨hi, hyl, hyr, cu, q⟩; dsimp only at hi hyl hyr cu q ⊢; have hle_q := q.toR.le; have hrl : (List.replicate (widthI k n).toNat (0 : Int)).length = (widthI k n).toNat := List.length_replicate; refine wp_sc (wp_sq (sq_v rfl (v_lss rfl rfl) rfl (sq_end (qs_n (wp_sc ?_))))); refine wp_cd rfl (fun c23 => ?_) (fun c23 => ?_)
      · refine wp_sk (qs_n (wp_sc (wp_bl (wp_sc (wp_sq (sq_v rfl (v_move rfl) rfl (sq_v rfl (v_assign rfl) rfl (sq_end (qs_n (wp_sc (wp_sq (sq_v rfl (v_move rfl) rfl (sq_v rfl (v_move rfl) rfl (sq_v rfl (v_move rfl) rfl (sq_v rfl (v_loadNB 1 ty_24 rfl rfl rfl rfl) rfl (sq_u rfl (x_callv rfl en_136 (fun w s => ct_s_l02Top _ _ _ w (by first | assumption | omega))) rfl ?_)))))))))))))))); refine sq_v rfl (v_add rfl rfl ((by unfold I64; omega))) rfl ?_; refine sq_v rfl (v_min rfl rfl) rfl ?_; refine sq_m 2 rfl rfl (x_call rfl en_71 (fun w s => ct_s_l01Below _ _ _ _ w _ (s.get 2 rfl) cu (rb.mono (s.getR 2 3 rfl rfl (by decide))) (by omega))) rfl ?_; rintro _ h32 ⟨x32, rfl, hx32, hy32, cu32⟩; refine sq_v rfl (v_idxI Tryz.underlying27 ty_3 rfl rfl q.toR (by first | omega | (simp; omega) | (simp only [List.length_append, List.length_cons, List.length_nil]; omega) | (rw [List.length_set]; omega)) (by first | omega | (simp; omega) | (simp only [List.length_append, List.length_cons, List.length_nil]; omega) | (rw [List.length_set]; omega))) rfl ?_; refine sq_m 0 rfl rfl (m_storeI (k := i) 0 ty_3 rfl rfl rfl q (by first | omega | (simp; omega) | (simp only [List.length_append, List.length_cons, List.length_nil]; omega) | (rw [List.length_set]; omega))) rfl ?_; rintro _ h_q10_9 ⟨rfl, q10_9⟩; refine sq_end (qs_n (wp_sc (wp_sq (sq_v rfl (v_move rfl) rfl ?_)))); refine sq_m 2 rfl rfl (x_call rfl en_77 (fun w s => ct_s_l01Once _ _ _ _ w _ (s.get 2 rfl) cu32 (rb.mono (s.getR 2 3 rfl rfl (by decide))) (by first | assumption | omega))) rfl ?_; rintro _ h35 ⟨y35, rfl, cu35⟩; refine sq_end ?_; have hset : ∀ a ∈ ys.set i x32, 0 ≤ a ∧ a ≤ topI k p n := fun a ha => by rcases List.mem_or_eq_of_mem_set ha with h9 | rfl; exact hyr a h9; omega
        refine qs_n ?_; refine wp_cb _ rfl (fun c35 => ?_) (fun c35 => ?_)
        · refine wp_sq (sq_v rfl (v_move rfl) rfl (sq_v rfl (v_move rfl) rfl (sq_v rfl (v_loadNB 1 ty_24 rfl rfl rfl rfl) rfl (sq_u rfl (x_callv rfl en_136 (fun w s => ct_s_l02Top _ _ _ w (by first | assumption | omega))) rfl ?_)))); refine sq_v rfl (v_idxI Tryz.underlying27 ty_3 rfl rfl q10_9.toR (by first | omega | (simp; omega) | (simp only [List.length_append, List.length_cons, List.length_nil]; omega) | (rw [List.length_set]; omega)) (by first | omega | (simp; omega) | (simp only [List.length_append, List.length_cons, List.length_nil]; omega) | (rw [List.length_set]; omega))) rfl ?_; refine sq_m 0 rfl rfl (m_storeI (k := i) 0 ty_3 rfl rfl rfl q10_9 (by first | omega | (simp; omega) | (simp only [List.length_append, List.length_cons, List.length_nil]; omega) | (rw [List.length_set]; omega))) rfl ?_; rintro _ h_q12_5 ⟨rfl, q12_5⟩; refine sq_end (qs_bn (qs_n (wp_sq ?_))); refine sq_v rfl (v_add rfl rfl ((by unfold I64; omega))) rfl ?_; refine sq_v rfl (v_move rfl) rfl (sq_end ?_); exact qs_bk (i + 1, h35, h_q12_5, ((ys.set i x32).set i (topI k p n))) ⟨by (try dsimp only); omega, by (try dsimp only); rw [List.length_set, List.length_set]; exact hyl, (fun a ha => by rcases List.mem_or_eq_of_mem_set ha with h9 | rfl; exact hset a h9; omega), cu35, q12_5⟩ (by simp only; omega) ⟨rfl, rfl, rfl, rfl, rfl, (by first | rfl | exact ksub rfl (by first | omega | (simp; done) | (simp; omega))), trivial⟩ (fun _ s => s)
        · refine wp_sk (qs_bn (qs_n (wp_sq ?_))); refine sq_v rfl (v_add rfl rfl ((by unfold I64; omega))) rfl ?_; refine sq_v rfl (v_move rfl) rfl (sq_end ?_); exact qs_bk (i + 1, h35, h_q10_9, (ys.set i x32)) ⟨by (try dsimp only); omega, by (try dsimp only); rw [List.length_set]; exact hyl, hset, cu35, q10_9⟩ (by simp only; omega) ⟨rfl, rfl, rfl, rfl, rfl, (by first | rfl | exact ksub rfl (by first | omega | (simp; done) | (simp; omega))), trivial⟩ (fun _ s => s)
      · refine wp_ex (qs_x (qs_x (qs_bx (qs_n (wp_sc (wp_sq (sq_v rfl (v_move rfl) rfl (sq_v rfl (v_assign rfl) rfl (sq_end (qs_n (wp_rt ?_))))))))))); refine qs_close [restP w h] [hc, hx] (fun _ s => s.pick [3, 2, 0] (by decide) rfl) (fun md => ?_); exact qs_ret1 rfl rfl (fin_m (i := 1) 0 rfl rfl rfl ⟨hc, hx, ys, cu, q, ⟨hyl, hyr⟩, md⟩)
def dimG (x : Int) : Int := 1 + (x + 1).tmod 3
def LabsM (vb vp : Value) (u : Value) (h : PH) : Prop := ∃ hc ha hd va vd ls, u = .tuple [va, vd].toArray ∧ CurO vb vp hc ∧ IntsO ls va ha ∧ IntsO (ls.map dimG) vd hd ∧ (ls.Nodup ∧ ∀ x ∈ ls, 0 ≤ x ∧ x ≤ 5) ∧ ls.length ≤ 3 ∧ Made h [hc, ha, hd]
set_option maxHeartbeats 1000000 in
theorem ct_s_l05Labels (xs : List Int) (vb vp : Value) (w : World) (h : PH) (hle : PLe h (hp w)) (rc : CurO vb vp h) (rb : BytesR xs vb (restP w h)) : Calls Tryz.prog 112 [vp, num 6, num 3].toArray w (Ret w h (LabsM vb vp)) := by
  refine calls_in Tryz.func112 rfl Tryz.ntmps112 rfl (Sat.start2 hle) ?_; have hle1 := rb.le; refine wp_sc (wp_sq (sq_v rfl (v_assign rfl) rfl (sq_v rfl (v_assign rfl) rfl (sq_end (qs_n (wp_sc (wp_sq ?_))))))); refine sq_x rfl (x_build0 Tryz.underlying27 ty_3) rfl ?_; intro v12 h12 (r12 : IntsO [] v12 h12); refine sq_v rfl (v_assign rfl) rfl (sq_end (qs_n (wp_sc (wp_sq ?_)))); refine sq_x rfl (x_build0 Tryz.underlying27 ty_3) rfl ?_; intro v13 h13 (r13 : IntsO [] v13 h13); refine sq_v rfl (v_assign rfl) rfl (sq_end (qs_n (wp_sc (wp_sc (wp_sq (sq_v rfl (v_move rfl) rfl (sq_v rfl (v_move rfl) rfl ?_))))))); refine sq_v rfl (v_add rfl rfl ((by unfold I64; omega))) rfl ?_; refine sq_m 2 rfl rfl (x_call rfl en_71 (fun w s => ct_s_l01Below _ _ _ _ w _ (s.get 2 rfl) rc (rb.mono (s.getR 2 3 rfl rfl (by decide))) (by omega))) rfl ?_; rintro _ h17 ⟨x17, rfl, hx17, hy17, cu17⟩; refine sq_v rfl (v_assign rfl) rfl (sq_end (qs_n (wp_bl ?_))); refine wp_lp (σ := Int × PH × Value × PH × Value × PH × (List Int)) (fun z_ => [(0, vp), (1, num 6), (6, .slice none 0 0), (7, .slice none 0 0), (8, z_.2.2.1), (9, z_.2.2.2.2.1), (10, num z_.1)]) (fun z_ => [z_.2.2.2.1, z_.2.2.2.2.2.1, z_.2.1, (restP w h)]) (fun z_ => (0 ≤ z_.1 ∧ z_.1 + z_.2.2.2.2.2.2.length ≤ 3) ∧ (z_.2.2.2.2.2.2.Nodup ∧ ∀ x ∈ z_.2.2.2.2.2.2, 0 ≤ x ∧ x ≤ 5) ∧ CurO vb vp z_.2.1 ∧ IntsO z_.2.2.2.2.2.2 z_.2.2.1 z_.2.2.2.1 ∧ IntsO (z_.2.2.2.2.2.2.map dimG) z_.2.2.2.2.1 z_.2.2.2.2.2.1) (fun z_ => z_.1.toNat) (x17, h17, v12, h12, v13, h13, []) (⟨by (try dsimp only); simp; omega, ⟨List.nodup_nil, fun x hx => (List.not_mem_nil hx).elim⟩, cu17, r12, r13⟩) ⟨rfl, rfl, rfl, rfl, (by first | rfl | exact ksub rfl (by first | omega | (simp; done) | (simp; omega))), (by first | rfl | exact ksub rfl (by first | omega | (simp; done) | (simp; omega))), (by first | rfl | exact ksub rfl (by first | omega | (simp; done) | (simp; omega))), trivial⟩ (fun _ s => s.pick [1, 0, 2, 3] (by decide) rfl) ?_; rintro ⟨e, hc, va, ha, vd, hd, ls⟩ ⟨he, hls, cu, qa, qd⟩; dsimp only at he hls cu qa qd ⊢; have hle_qa := qa.toR.le; have hle_qd := qd.toR.le; have hml : (ls.map dimG).length = ls.length := List.length_map _; refine wp_sc (wp_sc (wp_sq (sq_v rfl (v_move rfl) rfl (sq_v rfl (v_gtr rfl rfl) rfl (sq_end (qs_n ?_)))))); refine wp_cd rfl (fun c19 => ?_) (fun c19 => ?_)
  · refine wp_sk (qs_n (wp_sc (wp_bl (wp_sc (wp_sq (sq_v rfl (v_move rfl) rfl (sq_v rfl (v_move rfl) rfl ?_))))))); refine sq_m 2 rfl rfl (x_call rfl en_71 (fun w s => ct_s_l01Below _ _ _ _ w _ (s.get 2 rfl) cu (rb.mono (s.getR 2 3 rfl rfl (by decide))) (by omega))) rfl ?_; rintro _ h24 ⟨x24, rfl, hx24, hy24, cu24⟩; refine sq_v rfl (v_assign rfl) rfl (sq_end (qs_n (wp_sc (wp_sq (sq_v rfl (v_move rfl) rfl (sq_v rfl (v_move rfl) rfl (sq_u rfl (x_callv rfl en_101 (fun w s => ct_s_l05Find _ _ _ w (qa.toR.mono (s.get 0 rfl)))) rfl (sq_v rfl (v_lss rfl rfl) rfl (sq_end ?_))))))))); have hge := findI_ge (xs := ls) (n := x24); refine qs_n ?_; refine wp_cd rfl (fun c28 => ?_) (fun c28 => ?_)
    · refine wp_sc (wp_sq (sq_v rfl (v_move rfl) rfl (sq_v rfl (v_move rfl) rfl ?_))); refine sq_x rfl (x_buildS [num (x24)] Tryz.underlying27 ty_3 (by decide) rfl rfl rfl (by decide) (by decide) (by intro v hv; simp at hv; rcases hv with rfl <;> rfl)) rfl ?_; intro v31 h31 (r31 : IntsO [x24] v31 h31); refine sq_m 1 rfl rfl (m_appI 1 0 Tryz.underlying27 ty_3 rfl rfl rfl rfl qa rfl r31.toR (by first | omega | (simp; omega) | (simp only [List.length_append, List.length_cons, List.length_nil]; omega) | (rw [List.length_set]; omega))) rfl ?_; intro v32 h_r32 r32; refine sq_v rfl (v_assign rfl) rfl (sq_end (qs_n (wp_sq (sq_v rfl (v_move rfl) rfl (sq_v rfl (v_move rfl) rfl ?_))))); refine sq_v rfl (v_add rfl rfl ((by unfold I64; omega))) rfl ?_; refine sq_v rfl (v_remG rfl rfl (by omega) rfl) rfl ?_; refine sq_v rfl (v_add (a := 1) (b := (x24 + 1).tmod 3) rfl rfl (by have h1 := Int.tmod_nonneg 3 (show 0 ≤ x24 + 1 by omega); have h2 := Int.tmod_lt_of_pos (x24 + 1) (show (0 : Int) < 3 by omega); unfold I64; omega)) rfl ?_; refine sq_x rfl (x_buildS [num (1 + (x24 + 1).tmod 3)] Tryz.underlying27 ty_3 (by decide) rfl rfl rfl (by decide) (by decide) (by intro v hv; simp at hv; rcases hv with rfl <;> rfl)) rfl ?_; intro v38 h38 (r38 : IntsO [1 + (x24 + 1).tmod 3] v38 h38); refine sq_m 3 rfl rfl (m_appI 3 0 Tryz.underlying27 ty_3 rfl rfl rfl rfl qd rfl r38.toR (by first | omega | (simp; omega) | (simp only [List.length_append, List.length_cons, List.length_nil]; omega) | (rw [List.length_set]; omega))) rfl ?_; intro v39 h_r39 r39; refine sq_v rfl (v_assign rfl) rfl (sq_end (qs_bn (qs_n (wp_sq (sq_v rfl (v_move rfl) rfl ?_))))); refine sq_v rfl (v_sub rfl rfl ((by unfold I64; omega))) rfl ?_; refine sq_v rfl (v_assign rfl) rfl (sq_end ?_); exact qs_bk ((e - 1), h24, v32, h_r32, v39, h_r39, (ls ++ [x24])) ⟨by (try dsimp only); simp; omega, ⟨List.nodup_append.2 ⟨hls.1, by simp, fun a ha b hb => by rw [List.mem_singleton.1 hb]; intro e9; have := hge.2 (e9 ▸ ha); omega⟩, fun x hx => by rcases List.mem_append.1 hx with h9 | h9; exact hls.2 x h9; rw [List.mem_singleton.1 h9]; omega⟩, cu24, r32, by (try dsimp only); rw [List.map_append]; exact r39⟩ (by simp only; omega) ⟨rfl, rfl, rfl, rfl, (by first | rfl | exact ksub rfl (by first | omega | (simp; done) | (simp; omega))), (by first | rfl | exact ksub rfl (by first | omega | (simp; done) | (simp; omega))), (by first | rfl | exact ksub rfl (by first | omega | (simp; done) | (simp; omega))), trivial⟩ (fun _ s => s.pick [2, 3, 4, 5] (by decide) rfl)
    · refine wp_sk (qs_bn (qs_n (wp_sq (sq_v rfl (v_move rfl) rfl ?_)))); refine sq_v rfl (v_sub rfl rfl ((by unfold I64; omega))) rfl ?_; refine sq_v rfl (v_assign rfl) rfl (sq_end ?_); exact qs_bk ((e - 1), h24, va, ha, vd, hd, ls) ⟨by (try dsimp only); omega, hls, cu24, qa, qd⟩ (by simp only; omega) ⟨rfl, rfl, rfl, rfl, (by first | rfl | exact ksub rfl (by first | omega | (simp; done) | (simp; omega))), (by first | rfl | exact ksub rfl (by first | omega | (simp; done) | (simp; omega))), (by first | rfl | exact ksub rfl (by first | omega | (simp; done) | (simp; omega))), trivial⟩ (fun _ s => s)
  · refine wp_ex (qs_x (qs_x (qs_bx (qs_n (wp_sc (wp_sq (sq_v rfl (v_move rfl) rfl (sq_v rfl (v_move rfl) rfl (sq_v rfl (v_assign rfl) rfl (sq_v rfl (v_assign rfl) rfl (sq_end (qs_n (wp_rt ?_))))))))))))); refine qs_close [restP w h] [hc, ha, hd] (fun _ s => s.pick [3, 2, 0, 1] (by decide) rfl) (fun md => ?_); exact qs_ret2 rfl rfl rfl (fin_m (i := 1) 0 rfl rfl rfl ⟨hc, ha, hd, va, vd, ls, rfl, cu, qa, qd, hls, by omega, md⟩)
end Go.Proofs.YtiefkcaplhnnmaaGreat
namespace Go.Proofs.YtiefkcaplhnnmaaGreat
set_option maxRecDepth 100000
open Go.RowKit
theorem swap_get {ys : List Int} {i k : Nat} (hi : i < ys.length) (hk : k < ys.length) (j : Nat) : ((ys.set i (ys.getD k 0)).set k (ys.getD i 0)).getD j 0 = if j = k then ys.getD i 0 else if j = i then ys.getD k 0 else ys.getD j 0 := by
  simp only [List.getD, List.getElem?_set, List.length_set]
  by_cases e1 : j = k
  · subst e1; simp [hk, hi]
  · by_cases e2 : j = i
    · subst e2; simp [show ¬ k = j by omega, hi, hk, e1]
    · simp [show ¬ k = j by omega, show ¬ i = j by omega, e1, e2]
theorem getD_inj {ys : List Int} (h : ys.Nodup) {i j : Nat} (hi : i < ys.length) (hj : j < ys.length) (e : ys.getD i 0 = ys.getD j 0) : i = j := by
  rw [List.Nodup, List.pairwise_iff_getElem] at h; have e1 : ys.getD i 0 = ys[i] := by simp [List.getD, hi]
  have e2 : ys.getD j 0 = ys[j] := by simp [List.getD, hj]
  rw [e1, e2] at e
  rcases Nat.lt_trichotomy i j with c | c | c
  · exact absurd e (h i j hi hj c)
  · exact c
  · exact absurd e.symm (h j i hj hi c)
theorem nodup_get {ys : List Int} (h : ∀ i j, i < ys.length → j < ys.length → ys.getD i 0 = ys.getD j 0 → i = j) : ys.Nodup := by
  rw [List.Nodup, List.pairwise_iff_getElem]; intro i j hi hj hij e; have e1 : ys.getD i 0 = ys[i] := by simp [List.getD, hi]
  have e2 : ys.getD j 0 = ys[j] := by simp [List.getD, hj]
  have := h i j hi hj (by rw [e1, e2]; exact e)
  omega
theorem swap_ok {ys : List Int} {i k : Nat} (hi : i < ys.length) (hk : k < ys.length) {S : Int → Prop} (hn : ys.Nodup) (hs : ∀ x ∈ ys, S x) : ((ys.set i (ys.getD k 0)).set k (ys.getD i 0)).Nodup ∧ ∀ x ∈ (ys.set i (ys.getD k 0)).set k (ys.getD i 0), S x := by
  have hg := swap_get hi hk; refine ⟨nodup_get fun p q hp hq e => ?_, fun x hx => ?_⟩
  · rw [List.length_set, List.length_set] at hp hq; rw [hg, hg] at e; have J : ∀ a b, a < ys.length → b < ys.length → ys.getD a 0 = ys.getD b 0 → a = b := fun a b ha hb h => getD_inj hn ha hb h
    by_cases a1 : p = k
    · by_cases b1 : q = k
      · omega
      · by_cases b2 : q = i
        · rw [if_pos a1, if_neg b1, if_pos b2] at e; have := J _ _ hi hk e; omega
        · rw [if_pos a1, if_neg b1, if_neg b2] at e; have := J _ _ hi hq e; omega
    · by_cases a2 : p = i
      · by_cases b1 : q = k
        · rw [if_neg a1, if_pos a2, if_pos b1] at e; have := J _ _ hk hi e; omega
        · by_cases b2 : q = i
          · omega
          · rw [if_neg a1, if_pos a2, if_neg b1, if_neg b2] at e; have := J _ _ hk hq e; omega
      · by_cases b1 : q = k
        · rw [if_neg a1, if_neg a2, if_pos b1] at e; have := J _ _ hp hi e; omega
        · by_cases b2 : q = i
          · rw [if_neg a1, if_neg a2, if_neg b1, if_pos b2] at e; have := J _ _ hp hk e; omega
          · rw [if_neg a1, if_neg a2, if_neg b1, if_neg b2] at e; exact J _ _ hp hq e
  · rcases List.mem_or_eq_of_mem_set hx with h | rfl
    · rcases List.mem_or_eq_of_mem_set h with h | rfl
      · exact hs x h
      · exact hs _ (mem_getD hk)
    · exact hs _ (mem_getD hi)
def ShufM (S : Int → Prop) (m : Nat) (vb vp : Value) (u : Value) (h : PH) : Prop := ∃ hc hx ys, CurO vb vp hc ∧ IntsO ys u hx ∧ ys.length = m ∧ ys.Nodup ∧ (∀ x ∈ ys, S x) ∧ Made h [hc, hx]
set_option maxHeartbeats 1000000 in
theorem ct_s_l06Shuffle (S : Int → Prop) (xs ls : List Int) (vb vp vl : Value) (w : World) (h : PH) (hle : PLe h (hp w)) (rc : CurO vb vp h) (rb : BytesR xs vb (restP w h)) (rl : IntsR ls vl (restP w h)) (hn : ls.Nodup) (hs : ∀ x ∈ ls, S x) (hl : ls.length ≤ 1000) : Calls Tryz.prog 75 [vp, vl].toArray w (Ret w h (ShufM S ls.length vb vp)) := by
  refine calls_in Tryz.func75 rfl Tryz.ntmps75 rfl (Sat.start2 hle) ?_; have hle1 := rb.le; have hle2 := rl.le; refine wp_sc (wp_sq (sq_v rfl (v_assign rfl) rfl (sq_end (qs_n (wp_sc (wp_sq (sq_v rfl (v_move rfl) rfl ?_))))))); refine sq_x rfl (x_call rfl en_113 (fun w s => ct_s_l05Ints _ _ w (rl.mono (s.get 1 rfl)) (by first | assumption | omega))) rfl ?_; rintro v10 h10 r10; refine sq_v rfl (v_assign rfl) rfl (sq_end (qs_n (wp_sc (wp_sc (wp_sq (sq_v rfl (v_move rfl) rfl (sq_v rfl (v_len Tryz.underlying27 rfl r10.toR.sl) rfl (sq_v rfl (v_move rfl) rfl (sq_end (qs_n (wp_bl ?_))))))))))); refine wp_lp (σ := Nat × PH × PH × (List Int)) (fun z_ => [(0, vp), (4, .slice none 0 0), (5, v10), (12, num ls.length), (13, num z_.1)]) (fun z_ => [z_.2.2.1, z_.2.1, (restP w h)]) (fun z_ => z_.1 ≤ ls.length ∧ z_.2.2.2.length = ls.length ∧ z_.2.2.2.Nodup ∧ (∀ x ∈ z_.2.2.2, S x) ∧ CurO vb vp z_.2.1 ∧ IntsO z_.2.2.2 v10 z_.2.2.1) (fun z_ => ls.length - z_.1) (0, h, h10, ls) (⟨by (try dsimp only); omega, rfl, hn, hs, rc, r10⟩) ⟨rfl, rfl, rfl, rfl, (by first | rfl | exact ksub rfl (by first | omega | (simp; done) | (simp; omega))), trivial⟩ (fun _ s => s) ?_; rintro ⟨i, hc, hx, ys⟩ ⟨hi, hyl, hyn, hys, cu, q⟩; dsimp only at hi hyl hyn hys cu q ⊢; have hle_q := q.toR.le; refine wp_sc (wp_sq (sq_v rfl (v_lss rfl rfl) rfl (sq_end (qs_n (wp_sc ?_))))); refine wp_cd rfl (fun c14 => ?_) (fun c14 => ?_)
  · refine wp_sk (qs_n (wp_sc (wp_bl (wp_sc (wp_sq (sq_v rfl (v_move rfl) rfl (sq_v rfl (v_assign rfl) rfl (sq_end (qs_n (wp_sc (wp_sq (sq_v rfl (v_move rfl) rfl (sq_v rfl (v_move rfl) rfl ?_))))))))))))); refine sq_v rfl (v_add rfl rfl ((by unfold I64; omega))) rfl ?_; refine sq_m 1 rfl rfl (x_call rfl en_71 (fun w s => ct_s_l01Below _ _ _ _ w _ (s.get 1 rfl) cu (rb.mono (s.getR 1 2 rfl rfl (by decide))) (by omega))) rfl ?_; rintro _ h19 ⟨x19, rfl, hx19, hy19, cu19⟩; refine sq_v rfl (v_assign rfl) rfl (sq_end (qs_n (wp_sc (wp_sq (sq_v rfl (v_move rfl) rfl (sq_v rfl (v_move rfl) rfl ?_)))))); refine sq_v rfl (v_idxI Tryz.underlying27 ty_3 rfl rfl q.toR (by first | omega | (simp; omega) | (simp only [List.length_append, List.length_cons, List.length_nil]; omega) | (rw [List.length_set]; omega)) (by first | omega | (simp; omega) | (simp only [List.length_append, List.length_cons, List.length_nil]; omega) | (rw [List.length_set]; omega))) rfl ?_; refine sq_v rfl (v_loadI (k := i) 0 ty_3 rfl rfl q.toR (by first | omega | (simp; omega) | (simp only [List.length_append, List.length_cons, List.length_nil]; omega) | (rw [List.length_set]; omega))) rfl ?_; refine sq_v rfl (v_assign rfl) rfl (sq_end (qs_n (wp_sc (wp_sq (sq_v rfl (v_move rfl) rfl (sq_v rfl (v_move rfl) rfl (sq_v rfl (v_move rfl) rfl (sq_v rfl (v_move rfl) rfl ?_)))))))); refine sq_v rfl (v_idxI Tryz.underlying27 ty_3 rfl rfl q.toR (by first | omega | (simp; omega) | (simp only [List.length_append, List.length_cons, List.length_nil]; omega) | (rw [List.length_set]; omega)) (by first | omega | (simp; omega) | (simp only [List.length_append, List.length_cons, List.length_nil]; omega) | (rw [List.length_set]; omega))) rfl ?_; refine sq_v rfl (v_loadI  0 ty_3 rfl rfl q.toR (by first | omega | (simp; omega) | (simp only [List.length_append, List.length_cons, List.length_nil]; omega) | (rw [List.length_set]; omega))) rfl ?_; refine sq_v rfl (v_idxI Tryz.underlying27 ty_3 rfl rfl q.toR (by first | omega | (simp; omega) | (simp only [List.length_append, List.length_cons, List.length_nil]; omega) | (rw [List.length_set]; omega)) (by first | omega | (simp; omega) | (simp only [List.length_append, List.length_cons, List.length_nil]; omega) | (rw [List.length_set]; omega))) rfl ?_; refine sq_m 0 rfl rfl (m_storeI (k := i) 0 ty_3 rfl rfl rfl q (by first | omega | (simp; omega) | (simp only [List.length_append, List.length_cons, List.length_nil]; omega) | (rw [List.length_set]; omega))) rfl ?_; rintro _ h_q7_7 ⟨rfl, q7_7⟩; refine sq_end (qs_n (wp_sq (sq_v rfl (v_move rfl) rfl (sq_v rfl (v_move rfl) rfl (sq_v rfl (v_move rfl) rfl ?_))))); refine sq_v rfl (v_idxI Tryz.underlying27 ty_3 rfl rfl q7_7.toR (by first | omega | (simp; omega) | (simp only [List.length_append, List.length_cons, List.length_nil]; omega) | (rw [List.length_set]; omega)) (by first | omega | (simp; omega) | (simp only [List.length_append, List.length_cons, List.length_nil]; omega) | (rw [List.length_set]; omega))) rfl ?_; refine sq_m 0 rfl rfl (m_storeI 0 ty_3 rfl rfl rfl q7_7 (by first | omega | (simp; omega) | (simp only [List.length_append, List.length_cons, List.length_nil]; omega) | (rw [List.length_set]; omega))) rfl ?_; rintro _ h_q8_4 ⟨rfl, q8_4⟩; refine sq_end ?_; have hsw := swap_ok (ys := ys) (i := i) (k := x19.toNat) (by omega) (by omega) hyn hys; refine qs_bn (qs_n (wp_sq ?_)); refine sq_v rfl (v_add rfl rfl ((by unfold I64; omega))) rfl ?_; refine sq_v rfl (v_move rfl) rfl (sq_end ?_); exact qs_bk (i + 1, h19, h_q8_4, ((ys.set i (ys.getD x19.toNat 0)).set x19.toNat (ys.getD i 0))) ⟨by (try dsimp only); omega, by (try dsimp only); rw [List.length_set, List.length_set]; exact hyl, hsw.1, hsw.2, cu19, q8_4⟩ (by simp only; omega) ⟨rfl, rfl, rfl, rfl, (by first | rfl | exact ksub rfl (by first | omega | (simp; done) | (simp; omega))), trivial⟩ (fun _ s => s)
  · refine wp_ex (qs_x (qs_x (qs_bx (qs_n (wp_sc (wp_sq (sq_v rfl (v_move rfl) rfl (sq_v rfl (v_assign rfl) rfl (sq_end (qs_n (wp_rt ?_))))))))))); refine qs_close [restP w h] [hc, hx] (fun _ s => s.pick [2, 1, 0] (by decide) rfl) (fun md => ?_); exact qs_ret1 rfl rfl (fin_m (i := 1) 0 rfl rfl rfl ⟨hc, hx, ys, cu, q, hyl, hyn, hys, md⟩)
end Go.Proofs.YtiefkcaplhnnmaaGreat
namespace Go.Proofs.YtiefkcaplhnnmaaGreat
set_option maxRecDepth 100000
open Go.RowKit
theorem dimG_in {x : Int} (h : 0 ≤ x ∧ x ≤ 5) : 1 ≤ dimG x ∧ dimG x ≤ 3 := by
  have h1 := Int.tmod_nonneg 3 (show 0 ≤ x + 1 by omega); have h2 := Int.tmod_lt_of_pos (x + 1) (show (0 : Int) < 3 by omega)
  unfold dimG
  omega
section
variable {ls : List Int}
theorem gen_dims (h : ∀ x ∈ ls, 0 ≤ x ∧ x ≤ 5) : dimsIn (ls.map dimG) := fun j hj => by
  rw [List.length_map] at hj; rw [map_getD hj]; have := dimG_in (h _ (mem_getD hj))
  omega
theorem gen_axes (hn : ls.Nodup) (h : ∀ x ∈ ls, 0 ≤ x ∧ x ≤ 5) (hl : ls.length ≤ 3) : axesL ls (ls.map dimG) := by
  refine ⟨by omega, by simp, fun j hj => ⟨?_, ?_, nodup_not_take hn hj⟩⟩
  · have := h _ (mem_getD hj); omega
  · rw [map_getD hj]; have := dimG_in (h _ (mem_getD hj)); omega
theorem gen_prod (h : ∀ x ∈ ls, 0 ≤ x ∧ x ≤ 5) (hl : ls.length ≤ 3) : 1 ≤ prodI (ls.map dimG) ∧ prodI (ls.map dimG) ≤ 27 := by
  have M : ∀ a b A B : Int, 1 ≤ a ∧ a ≤ A → 1 ≤ b ∧ b ≤ B → 1 ≤ a * b ∧ a * b ≤ A * B := fun a b A B ha hb => by
    have h1 : 1 * 1 ≤ a * b := Int.mul_le_mul ha.1 hb.1 (by omega) (by omega); have h2 : a * b ≤ A * B := Int.mul_le_mul ha.2 hb.2 (by omega) (by omega)
    omega
  match ls, h, hl with
  | [], _, _ => exact ⟨by decide, by decide⟩
  | [a], h, _ =>
    have ha := dimG_in (h a (by simp)); have := M 1 (dimG a) 1 3 (by omega) ha
    show 1 ≤ 1 * dimG a ∧ 1 * dimG a ≤ 27
    omega
  | [a, b], h, _ =>
    have ha := dimG_in (h a (by simp)); have hb := dimG_in (h b (by simp)); have h1 := M 1 (dimG a) 1 3 (by omega) ha; have h2 := M (1 * dimG a) (dimG b) 3 3 (by omega) hb
    show 1 ≤ 1 * dimG a * dimG b ∧ 1 * dimG a * dimG b ≤ 27
    omega
  | [a, b, c], h, _ =>
    have ha := dimG_in (h a (by simp)); have hb := dimG_in (h b (by simp)); have hc := dimG_in (h c (by simp)); have h1 := M 1 (dimG a) 1 3 (by omega) ha; have h2 := M (1 * dimG a) (dimG b) 3 3 (by omega) hb; have h3 := M (1 * dimG a * dimG b) (dimG c) 9 3 (by omega) hc
    show 1 ≤ 1 * dimG a * dimG b * dimG c ∧ 1 * dimG a * dimG b * dimG c ≤ 27
    omega
end
theorem putL_in {S : Int → Prop} {xs ys : List Int} {lo : Nat} (hx : ∀ a ∈ xs, S a) (hy : ∀ a ∈ ys, S a) : ∀ a ∈ putL xs lo ys, S a := fun a ha => by
  unfold putL at ha
  rcases List.mem_append.1 ha with h | h
  · rcases List.mem_append.1 h with h | h
    · exact hx a (List.mem_of_mem_take h)
    · exact hy a h
  · exact hx a (List.mem_of_mem_drop h)
def GenT (k p n : Int) (t : Ten) : Prop := tensorL k p n t.l t.d t.x ∧ (t.l.Nodup ∧ ∀ x ∈ t.l, 0 ≤ x ∧ x ≤ 5) ∧ t.d = t.l.map dimG ∧ t.l.length ≤ 3
def FillM (k p n : Int) (vb vp : Value) (u : Value) (h : PH) : Prop := ∃ hc ht t, CurO vb vp hc ∧ TenT t u ht ∧ GenT k p n t ∧ Made h [hc, ht]
set_option maxHeartbeats 2000000 in
theorem ct_s_l05Fill (k p n : Int) (xs ls : List Int) (vb vp va vd : Value) (w : World) (h : PH) (hle : PLe h (hp w)) (rc : CurO vb vp h) (rb : BytesR xs vb (restP w h)) (rl : IntsR ls va (restP w h)) (rd : IntsR (ls.map dimG) vd (restP w h)) (hr : ringL k p n) (hn : ls.Nodup) (hs : ∀ x ∈ ls, 0 ≤ x ∧ x ≤ 5) (hl : ls.length ≤ 3) :
    Calls Tryz.prog 92 [vp, ringV k p n, va, vd].toArray w (Ret w h (FillM k p n vb vp)) := by
  have hwr := width_range hr; have htop := top_range hr; have hpr := gen_prod hs hl; have hdi := gen_dims hs; have hdl : (ls.map dimG).length ≤ 12 := by rw [List.length_map]; omega
  obtain ⟨Z, hZ⟩ : ∃ Z, Z = (List.replicate (prodI (ls.map dimG)).toNat (zeroL k p n)).flatten := ⟨_, rfl⟩
  have hz := zeroL_in hr; have hZl : Z.length = (prodI (ls.map dimG)).toNat * (widthI k n).toNat := by rw [hZ, List.length_flatten, List.map_replicate, hz.1]; simp
  have hZr : ∀ a ∈ Z, 0 ≤ a ∧ a ≤ topI k p n := fun a ha => by
    rw [hZ] at ha; obtain ⟨l, hl1, hl2⟩ := List.mem_flatten.1 ha; rw [(List.mem_replicate.1 hl1).2] at hl2; exact hz.2 a hl2
  refine calls_in Tryz.func92 rfl Tryz.ntmps92 rfl (Sat.start2 hle) ?_; have hle1 := rb.le; have hle2 := rl.le; have hle3 := rd.le; refine wp_sc (wp_sq ?_); refine sq_x rfl (x_box rfl rfl) rfl ?_; rintro _ _ ⟨b5, rfl, rfl⟩; refine sq_x rfl (x_alloc ty_55 rfl) rfl ?_; rintro _ _ ⟨b8, rfl, rfl⟩; refine sq_end (qs_n (wp_sc (wp_sq (sq_v rfl (v_loadNB 1 ty_24 rfl rfl rfl rfl) rfl (sq_v rfl (v_move rfl) rfl (sq_v rfl (v_move rfl) rfl ?_)))))); refine sq_x rfl (x_call rfl en_99 (fun w s => ct_s_l05Zero _ _ _ _ _ _ _ w hr (rl.mono (s.get 3 rfl)) (rd.mono (s.get 3 rfl)) hdi (by omega) (by omega) hdl)) rfl ?_; rintro _ h14 ⟨va14, vb14, vc14, rfl, o14⟩; refine sq_x rfl (x_alloc ty_55 rfl) rfl ?_; rintro _ _ ⟨b9, rfl, rfl⟩; refine sq_m 0 rfl rfl (m_store 0 ty_55 rfl rfl rfl rfl (by simp [o14.toR.1.sl.one, o14.toR.2.1.sl.one, o14.toR.2.2.sl.one]) rfl (Nat.le_of_ble_eq_true rfl)) rfl ?_; rintro _ _ ⟨rfl, rfl⟩; refine sq_end ?_; obtain ⟨ha14, hb14, hc14, ra14, rb14, rc14, md14⟩ := o14; rw [← hZ] at rc14; refine qs_s [box b9 [va14, vb14, vc14] 55, box b8 [.slice none 0 0, .slice none 0 0, .slice none 0 0] 55, box b5 [num k, num p, num n] 24, h, (restP w h), ha14, hb14, hc14] (fun _ s => Sat.open (A := [box b9 [va14, vb14, vc14] 55, box b8 [.slice none 0 0, .slice none 0 0, .slice none 0 0] 55, box b5 [num k, num p, num n] 24, h, (restP w h)]) md14 (s.pick [1, 0, 2, 3, 4, 5] (by decide) rfl)) ?_
  skip
  refine qs_n (wp_sc (wp_sc (wp_sq (sq_v rfl (v_assign rfl) rfl (sq_end (qs_n (wp_bl ?_))))))); refine wp_lp (σ := Nat × PH × PH × (List Int)) (fun z_ => [(0, vp), (3, vd), (5, .pointer (some ⟨b5, 0, none⟩)), (8, .pointer (some ⟨b8, 0, none⟩)), (9, .pointer (some ⟨b9, 0, none⟩)), (10, num z_.1)]) (fun z_ => [box b9 [va14, vb14, vc14] 55, box b8 [.slice none 0 0, .slice none 0 0, .slice none 0 0] 55, box b5 [num k, num p, num n] 24, z_.2.1, (restP w h), ha14, hb14, z_.2.2.1]) (fun z_ => z_.1 ≤ (prodI (ls.map dimG)).toNat ∧ z_.2.2.2.length = (prodI (ls.map dimG)).toNat * (widthI k n).toNat ∧ (∀ a ∈ z_.2.2.2, 0 ≤ a ∧ a ≤ topI k p n) ∧ CurO vb vp z_.2.1 ∧ IntsO z_.2.2.2 vc14 z_.2.2.1) (fun z_ => (prodI (ls.map dimG)).toNat - z_.1) (0, h, hc14, Z) (⟨by (try dsimp only); omega, hZl, hZr, rc, rc14⟩) ⟨rfl, rfl, rfl, rfl, rfl, (by first | rfl | exact ksub rfl (by first | omega | (simp; done) | (simp; omega))), trivial⟩ (fun _ s => s) ?_; rintro ⟨i, hc, hx, ys⟩ ⟨hi, hyl, hyr, cu, q⟩; dsimp only at hi hyl hyr cu q ⊢; have hle_q := q.toR.le; have hyb : ys.length ≤ 1000000 := by have h9 : (prodI (ls.map dimG)).toNat * (widthI k n).toNat ≤ 27 * 6 := Nat.mul_le_mul (by omega) (by omega); omega
  refine wp_sc (wp_sc (wp_sq (sq_v rfl (v_move rfl) rfl (sq_v rfl (v_move rfl) rfl (sq_u rfl (x_callv rfl en_98 (fun w s => ct_s_l05Product _ _ _ w (rd.mono (s.get 4 rfl)) hdi (by omega))) rfl (sq_v rfl (v_lss rfl rfl) rfl (sq_end (qs_n ?_)))))))); refine wp_cd rfl (fun c18 => ?_) (fun c18 => ?_)
  · refine wp_sk (qs_n (wp_sc (wp_bl (wp_rk [false, false, false, true, false, false, false, false] 6 [(0, true), (1, true), (2, true), (3, true), (4, true), (5, false), (6, false)] mixed_ok (by kernel_rfl) (rk_v rfl rfl (v_loadNB 2 ty_24 rfl rfl rfl rfl) rfl (rk_v rfl rfl (v_loadNB 0 ty_55 rfl rfl rfl rfl) rfl (rk_v rfl rfl (v_move rfl) rfl (rk_v rfl rfl (v_move rfl) rfl (rk_v rfl rfl (v_loadNB 2 ty_24 rfl rfl rfl rfl) rfl ?_))))))))); have hb9 : (i : Int) * widthI k n + widthI k n ≤ ys.length := (by have h8 : (i + 1) * (widthI k n).toNat ≤ (prodI (ls.map dimG)).toNat * (widthI k n).toNat := Nat.mul_le_mul_right _ (by omega); have h7 : (((i + 1) * (widthI k n).toNat : Nat) : Int) = (i : Int) * widthI k n + widthI k n := (by rw [Int.natCast_mul, Int.toNat_of_nonneg (by omega)]; rw [show ((i + 1 : Nat) : Int) = (i : Int) + 1 by omega, Int.add_mul, Int.one_mul]); rw [hyl, ← h7]; omega)
    refine rk_m 3 rfl rfl rfl rfl (x_call rfl en_122 (fun w s => ct_s_l02Draw k p n xs vb vp w _ (s.get 3 rfl) cu (rb.mono (s.getR 3 4 rfl rfl (by decide))) hr)) rfl ?_; rintro v26 h26 ⟨hc26, hx26, e26, cu26, r26, hin26, md26⟩; refine rk_mt 7 rfl rfl rfl rfl (x_call rfl en_103 (fun w s => ct_s_l05Put k p n i ls (ls.map dimG) ys e26 va14 vb14 vc14 v26 w _ hr (s.get 7 rfl) (ra14.toR.mono (s.getR 7 5 rfl rfl (by decide))) (rb14.toR.mono (s.getR 7 6 rfl rfl (by decide))) q (r26.toR.mono ((md26.le hx26 (by simp)).trans (s.getR 7 3 rfl rfl (by decide)))) hin26.1 (by omega) hb9 hyb)) rfl ?_; rintro _ h27 r27; refine rk_end (qs_s [box b9 [va14, vb14, vc14] 55, box b8 [.slice none 0 0, .slice none 0 0, .slice none 0 0] 55, box b5 [num k, num p, num n] 24, (restP w h), ha14, hb14, h27, hc26, hx26] (fun _ s => Sat.open (A := [box b9 [va14, vb14, vc14] 55, box b8 [.slice none 0 0, .slice none 0 0, .slice none 0 0] 55, box b5 [num k, num p, num n] 24, (restP w h), ha14, hb14, h27]) md26 (s.pick [3, 0, 1, 2, 4, 5, 6, 7] (by decide) rfl)) ?_); have hlo : ((i : Int) * widthI k n).toNat + e26.length ≤ ys.length := by have h6 := hin26.1; have h5 : 0 ≤ (i : Int) * widthI k n := Int.mul_nonneg (by omega) (by omega); omega
    refine qs_bn (qs_n (wp_sq (sq_v rfl (v_move rfl) rfl ?_))); refine sq_v rfl (v_add rfl rfl ((by unfold I64; omega))) rfl ?_; refine sq_v rfl (v_assign rfl) rfl (sq_end ?_); exact qs_bk (i + 1, hc26, h27, (putL ys ((i : Int) * widthI k n).toNat e26)) ⟨by (try dsimp only); omega, by (try dsimp only); rw [putL_len hlo]; exact hyl, putL_in hyr hin26.2, cu26, r27⟩ (by simp only; omega) ⟨rfl, rfl, rfl, rfl, rfl, (by first | rfl | exact ksub rfl (by first | omega | (simp; done) | (simp; omega))), trivial⟩ (fun _ s => s.pick [0, 1, 2, 7, 3, 4, 5, 6] (by decide) rfl)
  · refine wp_ex (qs_x (qs_x (qs_bx (qs_n (wp_sc (wp_sq (sq_v rfl (v_loadNB 0 ty_55 rfl rfl rfl rfl) rfl ?_))))))); refine sq_m 1 rfl rfl (m_store 1 ty_55 rfl rfl rfl rfl (by simp [ra14.toR.sl.one, rb14.toR.sl.one, q.toR.sl.one]) rfl (Nat.le_of_ble_eq_true rfl)) rfl ?_; rintro _ _ ⟨rfl, rfl⟩; refine sq_end (qs_n (wp_rt ?_)); refine qs_close [restP w h, hc, _] [ha14, hb14, hx] (fun _ s => s.pick [4, 3, 1, 5, 6, 7] (by decide) rfl) (fun md1 => ?_); refine qs_close [restP w h, _] [hc, joinP [ha14, hb14, hx]] (fun _ s => s.pick [1, 3, 2, 0] (by decide) rfl) (fun md2 => ?_); have hsz : sizeI ls (ls.map dimG) = prodI (ls.map dimG) := sizeI_yes (gen_axes hn hs hl) (by omega); have hgt : tensorL k p n ls (ls.map dimG) ys := ⟨hr, by rw [hsz]; omega, by rw [hsz, hyl, Int.natCast_mul, Int.toNat_of_nonneg (by omega), Int.toNat_of_nonneg (by omega)], hyr⟩
    exact qs_retc 2 rfl ty_55 rfl rfl rfl (fin_m (i := 1) 0 rfl rfl rfl ⟨hc, _, ⟨ls, ls.map dimG, ys⟩, cu, ⟨_, _, _, rfl, ha14, hb14, hx, ra14, rb14, q, md1⟩, ⟨hgt, ⟨hn, hs⟩, rfl, hl⟩, md2⟩)
end Go.Proofs.YtiefkcaplhnnmaaGreat
namespace Go.Proofs.YtiefkcaplhnnmaaGreat
set_option maxRecDepth 100000
open Go.RowKit
set_option maxHeartbeats 1000000 in
theorem ct_s_l05Draw (k p n : Int) (xs : List Int) (vb vp : Value) (w : World) (h : PH) (hle : PLe h (hp w)) (rc : CurO vb vp h) (rb : BytesR xs vb (restP w h)) (hr : ringL k p n) :
    Calls Tryz.prog 74 [vp, ringV k p n].toArray w (Ret w h (FillM k p n vb vp)) := by
  refine calls_in Tryz.func74 rfl Tryz.ntmps74 rfl (Sat.start2 hle) ?_; have hle1 := rb.le; refine wp_sc (wp_sq ?_); refine sq_x rfl (x_box rfl rfl) rfl ?_; rintro _ _ ⟨b3, rfl, rfl⟩; refine sq_x rfl (x_alloc ty_55 rfl) rfl ?_; rintro _ _ ⟨b4, rfl, rfl⟩; refine sq_end (qs_n (wp_sc (wp_sq (sq_v rfl (v_move rfl) rfl ?_)))); refine sq_m 2 rfl rfl (x_call rfl en_112 (fun w s => ct_s_l05Labels xs vb vp w _ (s.get 2 rfl) rc (rb.mono (s.getR 2 3 rfl rfl (by decide))))) rfl ?_; rintro _ h9 ⟨hc9, ha9, hd9, va9, vd9, ls9, rfl, cu9, ra9, rd9, hls9, hl9, md9⟩; refine sq_v rfl (v_move rfl) rfl (sq_v rfl (v_extract rfl rfl) rfl (sq_v rfl (v_extract rfl rfl) rfl (sq_v rfl (v_assign rfl) rfl (sq_v rfl (v_assign rfl) rfl (sq_end (qs_s [box b4 [.slice none 0 0, .slice none 0 0, .slice none 0 0] 55, box b3 [num k, num p, num n] 24, (restP w h), hc9, ha9, hd9] (fun _ s => Sat.open (A := [box b4 [.slice none 0 0, .slice none 0 0, .slice none 0 0] 55, box b3 [num k, num p, num n] 24, (restP w h)]) md9 (s.pick [2, 0, 1, 3] (by decide) rfl)) ?_))))))
  skip
  refine qs_n (wp_sc (wp_sq (sq_v rfl (v_move rfl) rfl (sq_v rfl (v_loadNB 1 ty_24 rfl rfl rfl rfl) rfl (sq_v rfl (v_move rfl) rfl (sq_v rfl (v_move rfl) rfl ?_)))))); refine sq_m 3 rfl rfl (x_call rfl en_92 (fun w s => ct_s_l05Fill k p n xs ls9 vb vp va9 vd9 w _ (s.get 3 rfl) cu9 (rb.mono (s.getR 3 2 rfl rfl (by decide))) (ra9.toR.mono (s.getR 3 4 rfl rfl (by decide))) (rd9.toR.mono (s.getR 3 5 rfl rfl (by decide))) hr hls9.1 hls9.2 hl9)) rfl ?_; rintro _ h16 ⟨hc16, ht16, t16, cu16, ⟨a16, b16, c16, rfl, o16⟩, hg16, md16⟩; refine sq_m 0 rfl rfl (m_store 0 ty_55 rfl rfl rfl rfl (by simp [o16.toR.1.sl.one, o16.toR.2.1.sl.one, o16.toR.2.2.sl.one]) rfl (Nat.le_of_ble_eq_true rfl)) rfl ?_; rintro _ _ ⟨rfl, rfl⟩; refine sq_end (qs_n (wp_rt ?_)); exact qs_retc 0 rfl ty_55 rfl rfl rfl (fin_m (i := 2) 3 rfl rfl rfl ⟨hc16, ht16, t16, cu16, ⟨_, _, _, rfl, o16⟩, hg16, md16⟩)
def GenN (k p n : Int) (ts : List Ten) (op : List Int) : Prop := (∀ t ∈ ts, GenT k p n t) ∧ ts.length ≤ 4 ∧ op.Nodup ∧ ∀ x ∈ op, x ∈ labelsL ts
def NetGM (k p n : Int) (vb vp : Value) (u : Value) (h : PH) : Prop := ∃ hc hn ts op, CurO vb vp hc ∧ NetT k p n ts op u hn ∧ GenN k p n ts op ∧ Made h [hc, hn]
end Go.Proofs.YtiefkcaplhnnmaaGreat
namespace Go.Proofs.YtiefkcaplhnnmaaGreat
set_option maxRecDepth 100000
open Go.RowKit
theorem zeroL_get {k p n : Int} (hr : ringL k p n) {i : Nat} (hi : i < (widthI k n).toNat) : (zeroL k p n).getD i 0 = if k = 4 then p else 0 := by
  unfold zeroL
  split
  · rename_i e
    rw [width_1 (by omega) (by omega)] at hi; have : i = 0 := by simp at hi; omega
    subst this; rfl
  · simp [List.getD, hi]
theorem add1_zero {k p n a : Int} (hr : ringL k p n) (ha : 0 ≤ a ∧ a ≤ topI k p n) : add1 k p (if k = 4 then p else 0) a = a := by
  unfold add1
  split
  · rename_i h; rw [if_neg (by omega)]; omega
  · split
    · rename_i h0 h; rw [if_neg (by omega)]
      have : topI k p n = p := by unfold topI; rw [if_neg (by omega), if_pos (by omega)]
      omega
    · split
      · rename_i h1 h0 h
        have : topI k p n = p := by unfold topI; rw [if_neg (by omega), if_pos (by omega)]
        omega
      · split
        · rename_i h2 h1 h0 h; simp; omega
        · rename_i h3 h2 h1 h0
          have hk : k = 2 ∨ k = 7 ∨ k = 8 := by unfold ringL at hr; omega
          have := top_poly hr hk; rw [Int.zero_add]; exact Int.tmod_eq_of_lt ha.1 (by omega)
theorem add_zero {k p n : Int} (hr : ringL k p n) {x : List Int} (hx : InR k p n x) : addL k p (zeroL k p n) x = x := by
  have hl := zeroL_len k p n; refine ext_getD (by rw [addL_len, hl, hx.1]) fun i hi => ?_; rw [addL_len, hl] at hi; rw [addL_get (by rw [hl]; exact hi), zeroL_get hr hi]; exact add1_zero hr (hx.at hr i (by rw [hx.1]; exact hi))
theorem set_same {xs : List Int} {i : Nat} (h : i < xs.length) : xs.set i (xs.getD i 0) = xs := by
  refine ext_getD (by simp) fun j hj => ?_; rw [List.length_set] at hj
  by_cases e : i = j
  · subst e; simp [List.getD, hj]
  · simp [List.getD, List.getElem?_set_ne e]
theorem step_none {k p n : Int} {x y out : List Int} {i j : Nat} (hk : k = 7 ∧ (widthI k n).toNat ≤ 6 ∨ k = 8) (hp : 1 ≤ p) (ho : PolyIn k p n out) (hj : y.getD j 0 = 0) (hij : 4 ≤ i + j → k = 8 → i + j - 4 < out.length) : mulStep k p x y out i j = out := by
  have h0 : ∀ m, (out.getD m 0).tmod p = out.getD m 0 := fun m => by
    have := ho.at hp m; exact Int.tmod_eq_of_lt this.1 (by omega)
  unfold mulStep
  split
  · rename_i h
    rw [hj, Int.mul_zero, Int.add_zero, h0, set_same h]
  · split
    · rename_i h h8
      rw [hj, Int.mul_zero, Int.add_zero, h0]; have hw : out.length = 4 := by rw [ho.1, widthI, if_neg (by omega), if_pos h8]; rfl
      exact set_same (hij (by omega) h8)
    · rfl
theorem step_one {k p n : Int} {x y out : List Int} {i : Nat} (hi : i < out.length) (hj : y.getD 0 0 = 1) : mulStep k p x y out i 0 = out.set i ((out.getD i 0 + x.getD i 0).tmod p) := by
  unfold mulStep
  rw [Nat.add_zero, if_pos hi, hj, Int.mul_one]
theorem row_one {k p n : Int} {x y out : List Int} {i : Nat} (hk : k = 7 ∧ (widthI k n).toNat ≤ 6 ∨ k = 8) (hp : 2 ≤ p) (hx : PolyIn k p n x) (ho : PolyIn k p n out) (hi : i < out.length) (h1 : y.getD 0 0 = 1) (h0 : ∀ j, 0 < j → y.getD j 0 = 0) (hl : out.length ≤ 6) (hyl : y.length = out.length) :
    ∀ m, m + 1 ≤ y.length → mulRow k p x y i out (m + 1) = out.set i ((out.getD i 0 + x.getD i 0).tmod p)
  | 0, _ => by
    rw [mulRow_step]
    show mulStep k p x y (mulRow k p x y i out 0) i 0 = _
    rw [show mulRow k p x y i out 0 = out from rfl]; exact step_one (n := n) hi h1
  | m + 1, hm => by
    have ih := row_one hk hp hx ho hi h1 h0 hl hyl m (by omega); have hin : PolyIn k p n (out.set i ((out.getD i 0 + x.getD i 0).tmod p)) := ho.set _ (tmod_in (by have := (ho.at (by omega) i).1; have := (hx.at (by omega) i).1; omega) (by omega)); rw [mulRow_step, ih]; refine step_none hk (by omega) hin (h0 _ (by omega)) (fun h4 h8 => ?_); rw [List.length_set]; have hw : out.length = 4 := by rw [ho.1, widthI, if_neg (by omega), if_pos h8]; rfl
    omega
theorem to_one {k p n : Int} {x y : List Int} (hk : k = 7 ∧ (widthI k n).toNat ≤ 6 ∨ k = 8) (hp : 2 ≤ p) (hx : PolyIn k p n x) (h1 : y.getD 0 0 = 1) (h0 : ∀ j, 0 < j → y.getD j 0 = 0) (hl : x.length ≤ 6) (hl1 : 1 ≤ x.length) (hyl : y.length = x.length) :
    ∀ m, m ≤ x.length → mulTo k p x y (List.replicate x.length 0) m = x.take m ++ List.replicate (x.length - m) 0
  | 0, _ => by simp [mulTo]
  | m + 1, hm => by
    have ih := to_one hk hp hx h1 h0 hl hl1 hyl m (by omega); have hout : PolyIn k p n (x.take m ++ List.replicate (x.length - m) 0) := ⟨by rw [← hx.1]; simp; omega, fun a ha => by
      rcases List.mem_append.1 ha with h | h
      · exact hx.2 a (List.mem_of_mem_take h)
      · rw [List.eq_of_mem_replicate h]; omega⟩
    have hol : (x.take m ++ List.replicate (x.length - m) (0 : Int)).length = x.length := by simp; omega
    rw [mulTo_step, ih]; obtain ⟨q, hq⟩ : ∃ q, y.length = q + 1 := ⟨y.length - 1, by omega⟩
    rw [hq, row_one hk hp hx hout (by rw [hol]; omega) h1 h0 (by rw [hol]; exact hl) (by rw [hol]; exact hyl) q (by omega)]; have hz : (x.take m ++ List.replicate (x.length - m) (0 : Int)).getD m 0 = 0 := by
      have hlt : (x.take m).length = m := by simp; omega
      simp only [List.getD]; rw [List.getElem?_append_right (by omega), hlt, Nat.sub_self]
      simp [show 0 < x.length - m by omega]
    have hxm := hx.at (by omega : 1 ≤ p) m; rw [hz, Int.zero_add, Int.tmod_eq_of_lt hxm.1 (by omega)]; have hlt : (x.take m).length = m := by simp; omega
    obtain ⟨r, hr⟩ : ∃ r, x.length - m = r + 1 := ⟨x.length - m - 1, by omega⟩
    rw [List.set_append_right _ _ (by omega), hlt, Nat.sub_self, hr, List.replicate_succ, List.set_cons_zero, show x.length - (m + 1) = r by omega, List.take_succ_eq_append_getElem (by omega), List.append_assoc]
    congr 1
    simp [List.getD, show m < x.length by omega]
theorem one_poly {k p n : Int} (hk : k = 1 ∨ k = 2 ∨ k = 3 ∨ k = 7 ∨ k = 8) (hw : 1 ≤ (widthI k n).toNat) : (oneL k p n).getD 0 0 = 1 ∧ ∀ j, 0 < j → (oneL k p n).getD j 0 = 0 := by
  have e : oneL k p n = (List.replicate (widthI k n).toNat 0).set 0 1 := by unfold oneL; rw [if_neg (by omega), if_neg (by omega)]
  rw [e]; refine ⟨by simp [List.getD, show 0 < (widthI k n).toNat by omega], fun j hj => ?_⟩
  show ((List.replicate (widthI k n).toNat (0 : Int)).set 0 1)[j]?.getD 0 = 0
  rw [List.getElem?_set_ne (by omega)]
  cases h : (List.replicate (widthI k n).toNat (0 : Int))[j]? with
  | none => rfl
  | some z => exact List.eq_of_mem_replicate (List.mem_of_getElem? h)
theorem mul_one {k p n : Int} (hr : ringL k p n) {x : List Int} (hx : InR k p n x) : mulL k p n x (oneL k p n) = x := by
  have hlen := hx.len hr; have hx0 := hx.at hr 0 (by omega); have hwd : 1 ≤ (widthI k n).toNat := by have := hx.1; omega
  have hsing : k ≠ 7 → k ≠ 8 → x = [x.getD 0 0] := fun h7 h8 => by
    have h1 := hx.1; rw [width_1 h7 h8] at h1
    match x, h1 with
    | [a], _ => rfl
  unfold mulL
  by_cases h15 : k = 1 ∨ k = 5
  · rw [if_pos h15]; have h1 : (oneL k p n).getD 0 0 = topI k p n := by
      rcases h15 with h | h
      · rw [(one_poly (.inl h) hwd).1]; unfold topI; rw [if_pos h]
      · unfold oneL; rw [if_neg (by omega), if_pos (.inl h)]; rfl
    rw [h1, Int.min_eq_left hx0.2]; exact (hsing (by omega) (by omega)).symm
  · rw [if_neg h15]
    by_cases h2 : k = 2
    · rw [if_pos h2, (one_poly (.inr (.inl h2)) hwd).1, Int.mul_one]; have := top_poly hr (.inl h2); rw [Int.tmod_eq_of_lt hx0.1 (by omega)]; exact (hsing (by omega) (by omega)).symm
    · rw [if_neg h2]
      by_cases h3 : k = 3
      · rw [if_pos h3, (one_poly (.inr (.inr (.inl h3))) hwd).1, Int.mul_one]; have : topI k p n = p := by unfold topI; rw [if_neg (by omega), if_pos (by omega)]
        rw [Int.min_eq_left (by omega)]; exact (hsing (by omega) (by omega)).symm
      · rw [if_neg h3]
        by_cases h4 : k = 4
        · have e : (oneL k p n).getD 0 0 = 0 := by unfold oneL; rw [if_pos h4]; rfl
          have : topI k p n = p := by unfold topI; rw [if_neg (by omega), if_pos (by omega)]
          rw [if_pos h4, e, Int.add_zero, Int.min_eq_left (by omega)]; exact (hsing (by omega) (by omega)).symm
        · rw [if_neg h4]
          by_cases h6 : k = 6
          · have ht : topI k p n = 2 ^ n.toNat - 1 := by unfold topI; rw [if_neg (by omega), if_neg (by omega), if_pos h6]
            have e : (oneL k p n).getD 0 0 = 2 ^ n.toNat - 1 := by unfold oneL; rw [if_neg h4, if_pos (.inr h6), ht]; rfl
            have hc : ((2 ^ n.toNat : Nat) : Int) = (2 : Int) ^ n.toNat := by simp
            have hpos : 0 < 2 ^ n.toNat := Nat.two_pow_pos _; have e2 : ((2 : Int) ^ n.toNat - 1).toNat = 2 ^ n.toNat - 1 := by omega
            rw [if_pos h6, e, e2, Nat.and_two_pow_sub_one_eq_mod, Nat.mod_eq_of_lt (by omega), Int.toNat_of_nonneg hx0.1]; exact (hsing (by omega) (by omega)).symm
          · rw [if_neg h6]; have hk : k = 7 ∨ k = 8 := by unfold ringL at hr; omega
            have htp := top_poly hr (.inr hk); have ho := one_poly (p := p) (n := n) (k := k) (by omega) hwd; have hk' : k = 7 ∧ (widthI k n).toNat ≤ 6 ∨ k = 8 := by rcases hk with h | h; exact .inl ⟨h, by have := hx.1; omega⟩; exact .inr h
            have := to_one hk' htp.2.1 (hx.poly hr (.inr hk)) ho.1 ho.2 hlen.2.1 hlen.1 (by rw [oneL_len, hx.1]) x.length (Nat.le_refl _); rw [← hx.1, this]
            simp
end Go.Proofs.YtiefkcaplhnnmaaGreat
namespace Go.Proofs.YtiefkcaplhnnmaaGreat
set_option maxRecDepth 100000
open Go.RowKit
theorem at_off {f : Int → Int} {L ls : List Int} (hn : L.Nodup) (hl : ls.Nodup) (hs : ∀ l ∈ ls, l ∈ L) (m : Int) : atI f L ls m = offL (ls.map f) (idxAt L (idxL (L.map f) m) ls) := by
  unfold atI dotL; rw [stepsL_len]; exact dot_off hn (by simp) hl hs
structure ValOK (k p n : Int) (ts : List Ten) (op : List Int) : Prop where
  net : netL k p n ts op
  work : prodI (dimsFor ts (labelsL ts)) ≤ 65536
theorem ValOK.nd {k p n : Int} {ts : List Ten} {op : List Int} (_ : ValOK k p n ts op) : (labelsL ts).Nodup := labels_nodup ts 100
section
variable {k p n : Int} {ts : List Ten} {op : List Int} (h : ValOK k p n ts op)
include h
theorem ValOK.f : ∀ x ∈ labelsL ts, 1 ≤ dimOf ts x ∧ dimOf ts x ≤ 8 := fun x hx => by
  have h1 := mem_labels.1 hx; have h2 := dimOf_range (net_ax h.net) x
  omega
theorem ValOK.opn : op.Nodup := axes_nodup (sizeI_ge.1 h.net.2.2.2.2).1
theorem ValOK.sub : ∀ l ∈ op, l ∈ labelsL ts := fun l hl => by
  obtain ⟨j, hj, rfl⟩ := getD_of_mem hl; have := open_at h.net.2.2.2.2 hj; exact mem_labels.2 ⟨by omega, by omega⟩
theorem ValOK.at_k (m : Int) : 0 ≤ atI (dimOf ts) (labelsL ts) op m ∧ atI (dimOf ts) (labelsL ts) op m < prodI (dimsFor ts op) := at_in h.nd h.opn h.sub h.f m
theorem ValOK.dims : ∀ d ∈ dimsFor ts (labelsL ts), 1 ≤ d ∧ d ≤ 8 := map_dim h.f fun _ h => h
theorem ValOK.odims : ∀ d ∈ dimsFor ts op, 1 ≤ d ∧ d ≤ 8 := map_dim h.f h.sub
theorem ValOK.idx (m : Int) : AtOK k p n ts (labelsL ts) (idxL (dimsFor ts (labelsL ts)) m) := by
  have hi := idxL_in (fun d hd => (h.dims d hd).1) m; exact assign_at (op := op) ⟨h.net, hi.1, fun j hj => hi.2 j (by rw [← hi.1]; exact hj)⟩
end
noncomputable def valX (k p n : Int) (ts : List Ten) (op : List Int) : Nat → List Int
  | 0 => (List.replicate (prodI (dimsFor ts op)).toNat (zeroL k p n)).flatten
  | m + 1 => putL (valX k p n ts op m) (atI (dimOf ts) (labelsL ts) op m * widthI k n).toNat
      (addL k p (elt (valX k p n ts op m) (widthI k n) (atI (dimOf ts) (labelsL ts) op m)) (weightTo k p n (labelsL ts) (idxL (dimsFor ts (labelsL ts)) m) ts))
section
variable {k p n : Int} {ts : List Ten} {op : List Int} (h : ValOK k p n ts op)
include h
theorem ValOK.weight (m : Int) : InR k p n (weightTo k p n (labelsL ts) (idxL (dimsFor ts (labelsL ts)) m) ts) := by
  have := weight_in (h.idx m) ts.length (Nat.le_refl _)
  rwa [List.take_length] at this
theorem ValOK.all : ∀ m : Nat, AllR k p n (prodI (dimsFor ts op)) (valX k p n ts op m)
  | 0 => AllR.zero h.net.1 (by have := prodI_one fun d hd => (h.odims d hd).1; omega)
  | m + 1 => (ValOK.all m).put h.net.1 (h.at_k m).1 (h.at_k m).2 (addL_in h.net.1 ((ValOK.all m).el h.net.1 (h.at_k m).1 (h.at_k m).2) (h.weight m))
theorem ValOK.small (m : Nat) : (valX k p n ts op m).length ≤ 24576 := by
  have hw := width_range h.net.1; have := (h.all m).1; have h3 : prodI (dimsFor ts op) * widthI k n ≤ 4096 * 6 := Int.mul_le_mul (sizeI_ge.1 h.net.2.2.2.2).2 hw.2 (by omega) (by omega)
  omega
theorem ValOK.fits (m : Nat) : atI (dimOf ts) (labelsL ts) op m * widthI k n + widthI k n ≤ (valX k p n ts op m).length := by
  have hw := width_range h.net.1; have := (h.all m).1; have := (mul_room (show 0 ≤ widthI k n by omega) (h.at_k m).1 (h.at_k m).2).2
  omega
end
end Go.Proofs.YtiefkcaplhnnmaaGreat
