/-
  NetworkOk, in the program and in the reference, answers the same.
  Conditions: none.
-/
import Derived.Test.YtikeobneipjfnaaNet
import Derived.Test.YtikeobneipjfnaaArr
namespace Go.Proofs.Ytikeobneipjfnaa
set_option maxRecDepth 100000
open Go.RowKit

theorem one_sl (a : Option Addr) (n c : Nat) : (Value.slice a n c).oneCell' = true := rfl
theorem qs_dj {n : Nat} {w0 : World} {K : Env} {HS : List PH} {Q : Exit → Act → World → Prop} {e : Exit} {a b : PH} (i j : Nat) (hi : HS[i]? = some a) (hj : HS[j]? = some b) (hne : decide (i ≠ j) = true) (k : PDj a b → QS n w0 Q e K HS) : QS n w0 Q e K HS :=
  fun x w en s => k (sepL_get s.sep hi hj (of_decide_eq_true hne)) x w en s
theorem rep_getD (n k : Nat) : (List.replicate n (0 : Int)).getD k 0 = 0 := by
  simp only [List.getD, List.getElem?_replicate]
  split <;> rfl
theorem axes_ok {t : Ten} (h : axesL t.l t.d) : AxOK t := ⟨h.2.1, fun j hj => (h.2.2 j hj).2.1⟩
theorem dimOf_snoc : ∀ {ts : List Ten} (_ : ∀ t ∈ ts, AxOK t) (t : Ten) (x : Int), dimOf (ts ++ [t]) x = if dimOf ts x ≠ 0 then dimOf ts x else if x ∈ t.l then t.d.getD (findI t.l x).toNat 0 else 0
  | [], _, t, x => by simp [dimOf]
  | u :: r, h, t, x => by
    have ih := dimOf_snoc (ts := r) (fun t ht => h t (by simp [ht])) t x
    by_cases hx : x ∈ u.l
    · have hu := (h u (by simp)).2 _ (findI_get hx).1
      simp only [List.cons_append, dimOf, if_pos hx]
      rw [if_pos (by omega)]
    · simp only [List.cons_append, dimOf, if_neg hx]
      exact ih
theorem dimOf_range : ∀ {ts : List Ten} (_ : ∀ t ∈ ts, AxOK t) (x : Int), 0 ≤ dimOf ts x ∧ dimOf ts x ≤ 8
  | [], _, x => by simp [dimOf]
  | u :: r, h, x => by
    unfold dimOf
    split
    · rename_i hx
      have hu := (h u (by simp)).2 _ (findI_get hx).1
      omega
    · exact dimOf_range (fun t ht => h t (by simp [ht])) x
def consAt (ts : List Ten) (i j : Nat) : Prop := ∀ t, ts[i]? = some t → dimOf (ts.take i) (t.l.getD j 0) = 0 ∨ dimOf (ts.take i) (t.l.getD j 0) = t.d.getD j 0
def consL (ts : List Ten) : Prop := ∀ i, i < ts.length → ∀ t, ts[i]? = some t → ∀ j, j < t.l.length → consAt ts i j
def arrInv (ts : List Ten) (arr : List Int) : Prop := arr.length = 100 ∧ ∀ x, 0 ≤ x → x ≤ 99 → arr.getD x.toNat 0 = dimOf ts x
def arrMid (ts : List Ten) (t : Ten) (j : Nat) (arr : List Int) : Prop := arr.length = 100 ∧ ∀ x, 0 ≤ x → x ≤ 99 → arr.getD x.toNat 0 = if x ∈ t.l.take j then t.d.getD (findI t.l x).toNat 0 else dimOf ts x
theorem find_at {t : Ten} (h : axesL t.l t.d) {j : Nat} (hj : j < t.l.length) : findI t.l (t.l.getD j 0) = j := by
  refine idx_first (fun j' hj' e => (h.2.2 j hj).2.2 ?_) hj rfl
  rw [← e]
  have : (t.l.take j).getD j' 0 = t.l.getD j' 0 := by simp [List.getD, hj']
  rw [← this]
  exact mem_getD (by simp; omega)
theorem arrMid_step {ts : List Ten} {t : Ten} {j : Nat} {arr : List Int} (hax : axesL t.l t.d) (h : arrMid ts t j arr) (hj : j < t.l.length) : arrMid ts t (j + 1) (arr.set (t.l.getD j 0).toNat (t.d.getD j 0)) := by
  have hl := (hax.2.2 j hj).1
  refine ⟨by rw [List.length_set]; exact h.1, fun x h0 h1 => ?_⟩
  rw [take_succ hj]
  by_cases e : x = t.l.getD j 0
  · subst e
    rw [if_pos (by simp), find_at hax hj]
    have : (t.l.getD j 0).toNat < arr.length := by have := h.1; omega
    simp only [List.getD, List.getElem?_set, if_true, Int.toNat_natCast]
    simp only [List.getD] at this
    rw [if_pos this]
    rfl
  · have hne : (t.l.getD j 0).toNat ≠ x.toNat := by omega
    have h2 := h.2 x h0 h1
    have : (arr.set (t.l.getD j 0).toNat (t.d.getD j 0)).getD x.toNat 0 = arr.getD x.toNat 0 := by
      simp only [List.getD] at hne ⊢
      rw [List.getElem?_set_ne hne]
    rw [this, h2]
    have : (x ∈ t.l.take j ++ [t.l.getD j 0]) ↔ x ∈ t.l.take j := by simp only [List.mem_append, List.mem_singleton]; exact ⟨fun h => h.resolve_right e, .inl⟩
    simp only [this]
theorem arrMid_end {ts : List Ten} {i : Nat} {t : Ten} {arr : List Int} (ht : ts[i]? = some t) (hok : ∀ t ∈ ts, axesL t.l t.d) (h : arrMid (ts.take i) t t.l.length arr) (hc : ∀ j, j < t.l.length → consAt ts i j) : arrInv (ts.take (i + 1)) arr := by
  obtain ⟨hi, e⟩ := List.getElem?_eq_some_iff.1 ht
  refine ⟨h.1, fun x h0 h1 => ?_⟩
  rw [h.2 x h0 h1, List.take_length]
  have e2 : ts.take (i + 1) = ts.take i ++ [t] := by rw [List.take_succ_eq_append_getElem hi, e]
  rw [e2, dimOf_snoc (fun u hu => axes_ok (hok u (List.mem_of_mem_take hu)))]
  by_cases hx : x ∈ t.l
  · rw [if_pos hx, if_pos hx]
    have hg := findI_get hx
    have := hc _ hg.1 t ht
    rw [hg.2] at this
    split
    · omega
    · rfl
  · rw [if_neg hx, if_neg hx]
    split
    · rfl
    · omega
theorem ct_i_dimsOf (ts : List Ten) (v : Value) (w : World) (r : TensR ts v (hp w)) (hok : ∀ t ∈ ts, axesL t.l t.d) :
    Calls Try.prog 129 [v].toArray w (Ret w emp (fun u _ => ∃ arr ok, u = .tuple [.agg (ints arr).toArray, .bool ok].toArray ∧ arr.length = 100 ∧ (ok = true ↔ consL ts) ∧ (ok = true → arrInv ts arr))) := by
  have hx := r.le
  obtain ⟨cells, rr, hc⟩ := r.at
  refine calls_in Try.func129 rfl Try.ntmps129 rfl (Sat.start w) ?_
  refine wp_sc ?_
  refine wp_sq ?_
  refine sq_x rfl (x_alloc ty_155 rfl) rfl ?_; rintro _ _ ⟨b2, rfl, rfl⟩
  refine sq_v rfl (v_assign rfl) rfl ?_
  refine sq_end ?_
  refine qs_n ?_
  refine wp_sc ?_
  refine wp_sq ?_
  refine sq_x rfl (x_alloc ty_155 rfl) rfl ?_; rintro _ _ ⟨b4, rfl, rfl⟩
  refine sq_end ?_
  refine qs_n ?_
  refine wp_sc ?_
  refine wp_sc ?_
  refine wp_sq ?_
  refine sq_v rfl (v_move rfl) rfl ?_
  refine sq_v rfl (v_len Try.underlying46 rfl r.sl) rfl ?_
  refine sq_v rfl (v_move rfl) rfl ?_
  refine sq_end ?_
  refine qs_n ?_
  refine wp_bl ?_
  refine wp_lp (fun s : Nat × List Int => [(2, .pointer (some ⟨b2, 0, none⟩)), (4, .pointer (some ⟨b4, 0, none⟩)), (9, v), (10, num ts.length), (11, num s.1)]) (fun s => [box b4 (ints s.2) 155, box b2 (ints (List.replicate 100 0)) 155, hp w]) (fun s => s.1 ≤ ts.length ∧ arrInv (ts.take s.1) s.2 ∧ ∀ i, i < s.1 → ∀ t, ts[i]? = some t → ∀ j, j < t.l.length → consAt ts i j) (fun s => ts.length - s.1) (0, List.replicate 100 0) ⟨by omega, ⟨by simp, fun x h0 h1 => rep_getD _ _⟩, fun i hi => by omega⟩ ⟨rfl, rfl, rfl, rfl, rfl, trivial⟩ (fun _ s => s) ?_
  rintro ⟨i, arr⟩ ⟨hi, ha, hcons⟩
  dsimp only at hi ha hcons ⊢
  refine wp_sc ?_
  refine wp_sq ?_
  refine sq_v rfl (v_lss rfl rfl) rfl ?_
  refine sq_end ?_
  refine qs_n ?_
  refine wp_sc ?_
  refine wp_cd rfl (fun c12 => ?_) (fun c12 => ?_)
  · refine wp_sk ?_
    refine qs_n ?_
    refine wp_sc ?_
    refine wp_bl ?_
    refine wp_sc ?_
    refine wp_sq ?_
    obtain ⟨t, a, b, c, ht, hcs, r1, r2, r3⟩ := hc i (by omega); have hax := hok t (List.mem_of_getElem? ht); have hxl := r1.le
    refine sq_v rfl (v_indexAddr Try.underlying46 ty_28 rfl rfl rr (by decide) (by omega) (by omega)) rfl ?_
    refine sq_v rfl (v_loadNE 2 ty_28 rfl rfl rr (by have := rr.1; omega) rfl hcs) rfl ?_
    refine sq_x rfl (x_alloc ty_28 rfl) rfl ?_; rintro _ _ ⟨b6, rfl, rfl⟩
    refine sq_m 0 rfl rfl (m_store 0 ty_28 rfl rfl rfl rfl (by simp [r1.sl.one, r2.sl.one, r3.sl.one]) rfl (Nat.le_of_ble_eq_true rfl)) rfl ?_; rintro _ _ ⟨rfl, rfl⟩
    refine sq_end ?_
    refine qs_n ?_
    refine wp_sc ?_
    refine wp_sq ?_
    refine sq_v rfl (v_fieldAddr fd_28_0 ty_24 (by decide) rfl) rfl ?_
    refine sq_v rfl (v_loadB 0 ty_24 rfl rfl rfl) rfl ?_
    refine sq_v rfl (v_len Try.underlying24 rfl r1.sl) rfl ?_
    refine sq_v rfl (v_move rfl) rfl ?_
    refine sq_end ?_
    refine qs_n ?_
    refine wp_bl ?_
    refine wp_lp (fun s : Nat × List Int => [(2, .pointer (some ⟨b2, 0, none⟩)), (4, .pointer (some ⟨b4, 0, none⟩)), (6, .pointer (some ⟨b6, 0, none⟩)), (9, v), (10, num ts.length), (11, num i), (16, a), (17, num t.l.length), (18, num s.1)]) (fun s => [box b6 [a, b, c] 28, box b4 (ints s.2) 155, box b2 (ints (List.replicate 100 0)) 155, hp w]) (fun s => s.1 ≤ t.l.length ∧ arrMid (ts.take i) t s.1 s.2 ∧ ∀ j, j < s.1 → consAt ts i j) (fun s => t.l.length - s.1) (0, arr) ⟨by omega, ⟨ha.1, fun x h0 h1 => by simpa using ha.2 x h0 h1⟩, fun j hj => by omega⟩ ⟨rfl, rfl, rfl, rfl, rfl, rfl, rfl, rfl, rfl, trivial⟩ (fun _ s => s) ?_
    rintro ⟨j, arr'⟩ ⟨hj, ha', hcj⟩
    dsimp only at hj ha' hcj ⊢
    refine wp_sc ?_
    refine wp_sq ?_
    refine sq_v rfl (v_lss rfl rfl) rfl ?_
    refine sq_end ?_
    refine qs_n ?_
    refine wp_sc ?_
    refine wp_cd rfl (fun c19 => ?_) (fun c19 => ?_)
    · refine wp_sk ?_
      refine qs_n ?_
      refine wp_sc ?_
      refine wp_bl ?_
      refine wp_sc ?_
      refine wp_sq ?_
      refine sq_v rfl (v_move rfl) rfl ?_
      refine sq_v rfl (v_idxI Try.underlying24 ty_3 rfl rfl r1 (by omega) (by omega)) rfl ?_
      refine sq_v rfl (v_loadI (k := j) 3 ty_3 rfl rfl r1 (by omega)) rfl ?_
      refine sq_v rfl (v_assign rfl) rfl ?_
      refine sq_v rfl (v_assign rfl) rfl ?_
      refine sq_end ?_
      refine qs_n ?_
      refine wp_sc ?_
      refine wp_sc ?_
      refine wp_rj 15 [(0, true), (1, true), (2, true), (3, true), (4, true), (5, true), (6, true), (7, true), (8, true), (9, true), (10, true), (11, true), (12, true), (13, true), (14, true)] mixed_ok (by kernel_rfl) ?_
      refine rj_v rfl rfl (v_move rfl) rfl ?_
      have hl := (hax.2.2 j (by omega)).1; have hdl := hax.2.1; have hal := ha'.1; have hnm := (hax.2.2 j (by omega)).2.2; have hav : arr'.getD (t.l.getD j 0).toNat 0 = dimOf (ts.take i) (t.l.getD j 0) := (by rw [ha'.2 _ hl.1 hl.2, if_neg hnm])
      refine rj_v rfl rfl (v_indexAddrA Try.underlying155 ty_3 rfl rfl (by omega) (by omega)) rfl ?_
      refine rj_v rfl rfl (v_loadB 1 ty_3 rfl rfl (aget (k := (t.l.getD j 0).toNat) (by omega) rfl)) rfl ?_
      refine rj_v rfl rfl (v_neq rfl rfl) rfl ?_
      refine rj_bd 26 rfl (fun c26 => ?_) (fun c26 => ?_)
      · refine rj_v rfl rfl (v_move rfl) rfl ?_
        refine rj_v rfl rfl (v_move rfl) rfl ?_
        refine rj_v rfl rfl (v_indexAddrA Try.underlying155 ty_3 rfl rfl (by omega) (by omega)) rfl ?_
        refine rj_v rfl rfl (v_loadB 1 ty_3 rfl rfl (aget (k := (t.l.getD j 0).toNat) (by omega) rfl)) rfl ?_
        refine rj_v rfl rfl (v_fieldAddr fd_28_1 ty_24 (by decide) rfl) rfl ?_
        refine rj_v rfl rfl (v_loadB 0 ty_24 rfl rfl rfl) rfl ?_
        refine rj_v rfl rfl (v_move rfl) rfl ?_
        refine rj_v rfl rfl (v_idxI Try.underlying24 ty_3 rfl rfl r2 (by omega) (by omega)) rfl ?_
        refine rj_v rfl rfl (v_loadI (k := j) 3 ty_3 rfl rfl r2 (by omega)) rfl ?_
        refine rj_v rfl rfl (v_neq rfl rfl) rfl ?_
        refine rj_v rfl rfl (v_pickt rfl rfl) rfl ?_
        refine rj_end ?_
        refine qs_n ?_
        refine wp_cd rfl (fun c37 => ?_) (fun c37 => ?_)
        · refine wp_sc ?_
          refine wp_sq ?_
          refine sq_v rfl (v_loadNB 1 ty_155 rfl rfl (by rw [ints_length]; exact ha'.1) (by rw [List.drop_zero, List.take_of_length_le]; rw [ints_length, ha'.1]; omega)) rfl ?_
          refine sq_m 2 rfl rfl (m_storeW 2 ty_155 rfl rfl rfl (by rw [ints_length]; exact ha'.1) (ints_one arr') rfl rfl) rfl ?_; rintro _ _ ⟨rfl, rfl⟩
          refine sq_v rfl (v_assign rfl) rfl ?_
          refine sq_end ?_
          refine qs_n ?_
          refine wp_rt ?_
          refine qs_r ?_
          refine qs_br ?_
          refine qs_r ?_
          refine qs_r ?_
          refine qs_br ?_
          refine qs_br ?_
          refine qs_r ?_
          refine qs_r ?_
          refine qs_br ?_
          refine qs_r ?_
          exact qs_retct 2 rfl ty_155 rfl rfl rfl (by rw [ints_length]; exact ha'.1) (fin_e (i := 3) rfl ⟨arr', false, rfl, ha'.1, ⟨fun h => (by cases h), fun h => by exfalso; have := h i (by omega) t ht j (by omega) t ht; omega⟩, fun h => (by cases h)⟩)
        · refine wp_sk ?_
          refine qs_n ?_
          refine wp_sq ?_
          refine sq_v rfl (v_move rfl) rfl ?_
          refine sq_v rfl (v_fieldAddr fd_28_1 ty_24 (by decide) rfl) rfl ?_
          refine sq_v rfl (v_loadB 0 ty_24 rfl rfl rfl) rfl ?_
          refine sq_v rfl (v_move rfl) rfl ?_
          refine sq_v rfl (v_idxI Try.underlying24 ty_3 rfl rfl r2 (by omega) (by omega)) rfl ?_
          refine sq_v rfl (v_loadI (k := j) 3 ty_3 rfl rfl r2 (by omega)) rfl ?_
          refine sq_v rfl (v_indexAddrA Try.underlying155 ty_3 rfl rfl (by omega) (by omega)) rfl ?_
          refine sq_m 1 rfl rfl (m_storeA 1 ty_3 rfl rfl rfl (k := (t.l.getD j 0).toNat) (by omega) rfl) rfl ?_; rintro _ _ ⟨rfl, rfl⟩
          refine sq_end ?_
          refine qs_bn ?_
          refine qs_n ?_
          refine wp_sq ?_
          refine sq_v rfl (v_add rfl rfl ((by unfold I64; omega))) rfl ?_
          refine sq_v rfl (v_move rfl) rfl ?_
          refine sq_end ?_
          exact qs_bk (j + 1, arr'.set (t.l.getD j 0).toNat (t.d.getD j 0)) ⟨by simp only; omega, arrMid_step hax ha' (by omega), step_all hcj (fun t' ht' => by rw [ht] at ht'; cases ht'; omega)⟩ (by simp only; omega) ⟨rfl, rfl, rfl, rfl, rfl, rfl, rfl, rfl, rfl, trivial⟩ (fun _ s => s)
      · refine rj_v rfl rfl (v_move rfl) rfl ?_
        refine rj_s rfl rfl rfl ?_
        refine rj_s rfl rfl rfl ?_
        refine rj_s rfl rfl rfl ?_
        refine rj_s rfl rfl rfl ?_
        refine rj_s rfl rfl rfl ?_
        refine rj_s rfl rfl rfl ?_
        refine rj_s rfl rfl rfl ?_
        refine rj_s rfl rfl rfl ?_
        refine rj_s rfl rfl rfl ?_
        refine rj_v rfl rfl (v_pickf rfl rfl) rfl ?_
        refine rj_end ?_
        refine qs_n ?_
        refine wp_cf rfl ?_
        refine wp_sk ?_
        refine qs_n ?_
        refine wp_sq ?_
        refine sq_v rfl (v_move rfl) rfl ?_
        refine sq_v rfl (v_fieldAddr fd_28_1 ty_24 (by decide) rfl) rfl ?_
        refine sq_v rfl (v_loadB 0 ty_24 rfl rfl rfl) rfl ?_
        refine sq_v rfl (v_move rfl) rfl ?_
        refine sq_v rfl (v_idxI Try.underlying24 ty_3 rfl rfl r2 (by omega) (by omega)) rfl ?_
        refine sq_v rfl (v_loadI (k := j) 3 ty_3 rfl rfl r2 (by omega)) rfl ?_
        refine sq_v rfl (v_indexAddrA Try.underlying155 ty_3 rfl rfl (by omega) (by omega)) rfl ?_
        refine sq_m 1 rfl rfl (m_storeA 1 ty_3 rfl rfl rfl (k := (t.l.getD j 0).toNat) (by omega) rfl) rfl ?_; rintro _ _ ⟨rfl, rfl⟩
        refine sq_end ?_
        refine qs_bn ?_
        refine qs_n ?_
        refine wp_sq ?_
        refine sq_v rfl (v_add rfl rfl ((by unfold I64; omega))) rfl ?_
        refine sq_v rfl (v_move rfl) rfl ?_
        refine sq_end ?_
        exact qs_bk (j + 1, arr'.set (t.l.getD j 0).toNat (t.d.getD j 0)) ⟨by simp only; omega, arrMid_step hax ha' (by omega), step_all hcj (fun t' ht' => by rw [ht] at ht'; cases ht'; omega)⟩ (by simp only; omega) ⟨rfl, rfl, rfl, rfl, rfl, rfl, rfl, rfl, rfl, trivial⟩ (fun _ s => s)
    · refine wp_ex ?_
      refine qs_x ?_
      refine qs_x ?_
      refine qs_bx ?_
      refine qs_bn ?_
      refine qs_n ?_
      refine wp_sq ?_
      refine sq_v rfl (v_add rfl rfl ((by unfold I64; omega))) rfl ?_
      refine sq_v rfl (v_move rfl) rfl ?_
      refine sq_end ?_
      have e : j = t.l.length := by omega
      subst e
      exact qs_bk (i + 1, arr') ⟨by simp only; omega, arrMid_end ht hok ha' hcj, step_all hcons (fun t' ht' => by rw [ht] at ht'; cases ht'; exact hcj)⟩ (by simp only; omega) ⟨rfl, rfl, rfl, rfl, rfl, trivial⟩ (fun _ s => s.pick [1, 2, 3] (by decide) rfl)
  · refine wp_ex ?_
    refine qs_x ?_
    refine qs_x ?_
    refine qs_bx ?_
    refine qs_n ?_
    refine wp_sc ?_
    refine wp_sq ?_
    refine sq_v rfl (v_loadNB 0 ty_155 rfl rfl (by rw [ints_length]; exact ha.1) (by rw [List.drop_zero, List.take_of_length_le]; rw [ints_length, ha.1]; omega)) rfl ?_
    refine sq_m 1 rfl rfl (m_storeW 1 ty_155 rfl rfl rfl (by rw [ints_length]; exact ha.1) (ints_one arr) rfl rfl) rfl ?_; rintro _ _ ⟨rfl, rfl⟩
    refine sq_v rfl (v_assign rfl) rfl ?_
    refine sq_end ?_
    refine qs_n ?_
    refine wp_rt ?_
    have e : i = ts.length := by omega
    subst e
    exact qs_retct 1 rfl ty_155 rfl rfl rfl (by rw [ints_length]; exact ha.1) (fin_e (i := 2) rfl ⟨arr, true, rfl, ha.1, ⟨fun _ => hcons, fun _ => rfl⟩, fun _ => by simpa using ha⟩)

theorem map_getD {ls : List Int} {f : Int → Int} {i : Nat} (h : i < ls.length) : (ls.map f).getD i 0 = f (ls.getD i 0) := by simp [List.getD, h]
def arrOf (arr ls : List Int) : List Int := ls.map fun x => arr.getD x.toNat 0
theorem ct_i_axesOf (arr ls : List Int) (v : Value) (w : World) (r : IntsR ls v (hp w)) (ha : arr.length = 100) (hl : ∀ x ∈ ls, 0 ≤ x ∧ x ≤ 99) (hs : ls.length ≤ 1048576) :
    Calls Try.prog 130 [.agg (ints arr).toArray, v].toArray w (Ret w emp (fun u h => ∃ u1 u2, u = tenV u1 u2 (.slice none 0 0) ∧ IntsR ls u1 h ∧ IntsR (arrOf arr ls) u2 h)) := by
  have hx := r.le
  have hdl : (arrOf arr ls).length = ls.length := by simp [arrOf]
  refine calls_in Try.func130 rfl Try.ntmps130 rfl (Sat.start w) ?_
  refine wp_sc ?_
  refine wp_sq ?_
  refine sq_x rfl (x_box rfl rfl) rfl ?_; rintro _ _ ⟨b2, rfl, rfl⟩
  refine sq_x rfl (x_alloc ty_28 rfl) rfl ?_; rintro _ _ ⟨b4, rfl, rfl⟩
  refine sq_end ?_
  refine qs_n ?_
  refine wp_sc ?_
  refine wp_ra 7 (σ := Value × PH × Value × PH × Nat) (fun s => IntsO ls s.1 s.2.1 ∧ IntsO (List.replicate ls.length 0) s.2.2.1 s.2.2.2.1) (fun s => [(1, v), (2, .pointer (some ⟨b2, 0, none⟩)), (4, .pointer (some ⟨b4, 0, none⟩)), (5, .pointer (some ⟨s.2.2.2.2, 0, none⟩))]) (fun s => [box s.2.2.2.2 [s.1, s.2.2.1, .slice none 0 0] 28, s.2.1, s.2.2.2.1, box b4 [.slice none 0 0, .slice none 0 0, .slice none 0 0] 28, box b2 (ints arr) 155, hp w]) mixed_ok (by kernel_rfl) ?_ ?_
  · refine ra_v (i := 0) (by kernel_rfl) rfl rfl (v_move rfl) rfl ?_
    refine ra_v (i := 2) (by kernel_rfl) rfl rfl (v_move rfl) rfl ?_
    refine ra_v (i := 3) (by kernel_rfl) rfl rfl (v_len Try.underlying24 rfl r.sl) rfl ?_
    refine ra_3 (i := 1) (j := 4) (p := 6) (by kernel_rfl) ?_ ?_ ?_
    · refine ro_x rfl rfl (x_call rfl en_91 (fun w s => ct_i_copyInts _ _ w (r.mono (s.get 2 rfl)) (by omega))) rfl ?_; rintro v9 h9 r9
      refine ra_2 (i := 4) (j := 6) (by kernel_rfl) ?_ ?_
      · refine ro_x rfl rfl (x_makeI Try.underlying24 ty_3 rfl rfl (by omega) (by omega) (by omega)) rfl ?_; intro v12 h12 r12
        refine ra_rj [(5, true), (6, false), (7, false)] (by kernel_rfl) rfl ?_
        refine rj_v rfl rfl (v_build [v9, v12, .slice none 0 0] rfl (by obtain ⟨_, _, rfl⟩ := r9.toR.sl; obtain ⟨_, _, rfl⟩ := r12.toR.sl; kernel_rfl)) rfl ?_
        refine rj_x rfl rfl (x_alloc ty_28 rfl) rfl ?_; rintro _ _ ⟨b5, rfl, rfl⟩
        refine rj_m 0 rfl rfl rfl rfl (m_store 0 ty_28 rfl rfl rfl rfl (by simp [r9.toR.sl.one, r12.toR.sl.one, one_sl]) rfl (Nat.le_of_ble_eq_true rfl)) rfl ?_; rintro _ _ ⟨rfl, rfl⟩
        refine rj_end ?_
        exact qs_mid (v9, h9, v12, h12, b5) ⟨r9, by simpa using r12⟩ ⟨rfl, rfl, rfl, rfl, trivial⟩ (fun _ s => s.pick [0, 2, 1, 3, 4, 5] (by decide) rfl)
      · refine ro_x rfl rfl (x_alloc ty_28 rfl) rfl ?_; rintro _ _ ⟨b5, rfl, rfl⟩
        refine ra_rj [(4, false), (5, true), (7, false)] (by kernel_rfl) rfl ?_
        refine rj_x rfl rfl (x_makeI Try.underlying24 ty_3 rfl rfl (by omega) (by omega) (by omega)) rfl ?_; intro v12 h12 r12
        refine rj_v rfl rfl (v_build [v9, v12, .slice none 0 0] rfl (by obtain ⟨_, _, rfl⟩ := r9.toR.sl; obtain ⟨_, _, rfl⟩ := r12.toR.sl; kernel_rfl)) rfl ?_
        refine rj_m 1 rfl rfl rfl rfl (m_store 1 ty_28 rfl rfl rfl rfl (by simp [r9.toR.sl.one, r12.toR.sl.one, one_sl]) rfl (Nat.le_of_ble_eq_true rfl)) rfl ?_; rintro _ _ ⟨rfl, rfl⟩
        refine rj_end ?_
        exact qs_mid (v9, h9, v12, h12, b5) ⟨r9, by simpa using r12⟩ ⟨rfl, rfl, rfl, rfl, trivial⟩ (fun _ s => s.pick [1, 2, 0, 3, 4, 5] (by decide) rfl)
    · refine ro_x rfl rfl (x_makeI Try.underlying24 ty_3 rfl rfl (by omega) (by omega) (by omega)) rfl ?_; intro v12 h12 r12
      refine ra_2 (i := 1) (j := 6) (by kernel_rfl) ?_ ?_
      · refine ro_x rfl rfl (x_call rfl en_91 (fun w s => ct_i_copyInts _ _ w (r.mono (s.get 3 rfl)) (by omega))) rfl ?_; rintro v9 h9 r9
        refine ra_rj [(5, true), (6, false), (7, false)] (by kernel_rfl) rfl ?_
        refine rj_v rfl rfl (v_build [v9, v12, .slice none 0 0] rfl (by obtain ⟨_, _, rfl⟩ := r9.toR.sl; obtain ⟨_, _, rfl⟩ := r12.toR.sl; kernel_rfl)) rfl ?_
        refine rj_x rfl rfl (x_alloc ty_28 rfl) rfl ?_; rintro _ _ ⟨b5, rfl, rfl⟩
        refine rj_m 0 rfl rfl rfl rfl (m_store 0 ty_28 rfl rfl rfl rfl (by simp [r9.toR.sl.one, r12.toR.sl.one, one_sl]) rfl (Nat.le_of_ble_eq_true rfl)) rfl ?_; rintro _ _ ⟨rfl, rfl⟩
        refine rj_end ?_
        exact qs_mid (v9, h9, v12, h12, b5) ⟨r9, by simpa using r12⟩ ⟨rfl, rfl, rfl, rfl, trivial⟩ (fun _ s => s.pick [0, 1, 2, 3, 4, 5] (by decide) rfl)
      · refine ro_x rfl rfl (x_alloc ty_28 rfl) rfl ?_; rintro _ _ ⟨b5, rfl, rfl⟩
        refine ra_rj [(1, false), (5, true), (7, false)] (by kernel_rfl) rfl ?_
        refine rj_x rfl rfl (x_call rfl en_91 (fun w s => ct_i_copyInts _ _ w (r.mono (s.get 4 rfl)) (by omega))) rfl ?_; rintro v9 h9 r9
        refine rj_v rfl rfl (v_build [v9, v12, .slice none 0 0] rfl (by obtain ⟨_, _, rfl⟩ := r9.toR.sl; obtain ⟨_, _, rfl⟩ := r12.toR.sl; kernel_rfl)) rfl ?_
        refine rj_m 1 rfl rfl rfl rfl (m_store 1 ty_28 rfl rfl rfl rfl (by simp [r9.toR.sl.one, r12.toR.sl.one, one_sl]) rfl (Nat.le_of_ble_eq_true rfl)) rfl ?_; rintro _ _ ⟨rfl, rfl⟩
        refine rj_end ?_
        exact qs_mid (v9, h9, v12, h12, b5) ⟨r9, by simpa using r12⟩ ⟨rfl, rfl, rfl, rfl, trivial⟩ (fun _ s => s.pick [1, 0, 2, 3, 4, 5] (by decide) rfl)
    · refine ro_x rfl rfl (x_alloc ty_28 rfl) rfl ?_; rintro _ _ ⟨b5, rfl, rfl⟩
      refine ra_2 (i := 1) (j := 4) (by kernel_rfl) ?_ ?_
      · refine ro_x rfl rfl (x_call rfl en_91 (fun w s => ct_i_copyInts _ _ w (r.mono (s.get 3 rfl)) (by omega))) rfl ?_; rintro v9 h9 r9
        refine ra_rj [(4, false), (5, true), (7, false)] (by kernel_rfl) rfl ?_
        refine rj_x rfl rfl (x_makeI Try.underlying24 ty_3 rfl rfl (by omega) (by omega) (by omega)) rfl ?_; intro v12 h12 r12
        refine rj_v rfl rfl (v_build [v9, v12, .slice none 0 0] rfl (by obtain ⟨_, _, rfl⟩ := r9.toR.sl; obtain ⟨_, _, rfl⟩ := r12.toR.sl; kernel_rfl)) rfl ?_
        refine rj_m 2 rfl rfl rfl rfl (m_store 2 ty_28 rfl rfl rfl rfl (by simp [r9.toR.sl.one, r12.toR.sl.one, one_sl]) rfl (Nat.le_of_ble_eq_true rfl)) rfl ?_; rintro _ _ ⟨rfl, rfl⟩
        refine rj_end ?_
        exact qs_mid (v9, h9, v12, h12, b5) ⟨r9, by simpa using r12⟩ ⟨rfl, rfl, rfl, rfl, trivial⟩ (fun _ s => s.pick [2, 1, 0, 3, 4, 5] (by decide) rfl)
      · refine ro_x rfl rfl (x_makeI Try.underlying24 ty_3 rfl rfl (by omega) (by omega) (by omega)) rfl ?_; intro v12 h12 r12
        refine ra_rj [(1, false), (5, true), (7, false)] (by kernel_rfl) rfl ?_
        refine rj_x rfl rfl (x_call rfl en_91 (fun w s => ct_i_copyInts _ _ w (r.mono (s.get 4 rfl)) (by omega))) rfl ?_; rintro v9 h9 r9
        refine rj_v rfl rfl (v_build [v9, v12, .slice none 0 0] rfl (by obtain ⟨_, _, rfl⟩ := r9.toR.sl; obtain ⟨_, _, rfl⟩ := r12.toR.sl; kernel_rfl)) rfl ?_
        refine rj_m 2 rfl rfl rfl rfl (m_store 2 ty_28 rfl rfl rfl rfl (by simp [r9.toR.sl.one, r12.toR.sl.one, one_sl]) rfl (Nat.le_of_ble_eq_true rfl)) rfl ?_; rintro _ _ ⟨rfl, rfl⟩
        refine rj_end ?_
        exact qs_mid (v9, h9, v12, h12, b5) ⟨r9, by simpa using r12⟩ ⟨rfl, rfl, rfl, rfl, trivial⟩ (fun _ s => s.pick [2, 0, 1, 3, 4, 5] (by decide) rfl)
  · rintro ⟨v9, h9, v12, h12, b5⟩ ⟨r9, r12⟩
    dsimp only at r9 r12 ⊢
    refine qs_n ?_
    refine wp_sc ?_
    refine wp_sc ?_
    refine wp_sq ?_
    refine sq_v rfl (v_move rfl) rfl ?_
    refine sq_v rfl (v_len Try.underlying24 rfl r.sl) rfl ?_
    refine sq_v rfl (v_move rfl) rfl ?_
    refine sq_end ?_
    refine qs_n ?_
    refine wp_bl ?_
    refine wp_lp (fun s : Nat × PH => [(2, .pointer (some ⟨b2, 0, none⟩)), (4, .pointer (some ⟨b4, 0, none⟩)), (5, .pointer (some ⟨b5, 0, none⟩)), (14, v), (15, num ls.length), (16, num s.1)]) (fun s => [box b5 [v9, v12, .slice none 0 0] 28, h9, s.2, box b4 [.slice none 0 0, .slice none 0 0, .slice none 0 0] 28, box b2 (ints arr) 155, hp w]) (fun s => s.1 ≤ ls.length ∧ IntsO ((arrOf arr ls).take s.1 ++ List.replicate ((arrOf arr ls).length - s.1) 0) v12 s.2) (fun s => ls.length - s.1) (0, h12) ⟨by omega, by simpa [hdl] using r12⟩ ⟨rfl, rfl, rfl, rfl, rfl, rfl, trivial⟩ (fun _ s => s) ?_
    rintro ⟨i, hh⟩ ⟨hi, ro⟩
    dsimp only at hi ro ⊢
    have hll : ((arrOf arr ls).take i ++ List.replicate ((arrOf arr ls).length - i) 0).length = ls.length := by simp; omega
    refine wp_sc ?_
    refine wp_sq ?_
    refine sq_v rfl (v_lss rfl rfl) rfl ?_
    refine sq_end ?_
    refine qs_n ?_
    refine wp_sc ?_
    refine wp_cd rfl (fun c17 => ?_) (fun c17 => ?_)
    · refine wp_sk ?_
      refine qs_n ?_
      refine wp_sc ?_
      refine wp_bl ?_
      refine wp_sc ?_
      refine wp_sq ?_
      refine sq_v rfl (v_move rfl) rfl ?_
      refine sq_v rfl (v_idxI Try.underlying24 ty_3 rfl rfl r (by omega) (by omega)) rfl ?_
      refine sq_v rfl (v_loadI (k := i) 5 ty_3 rfl rfl r (by omega)) rfl ?_
      refine sq_v rfl (v_assign rfl) rfl ?_
      refine sq_v rfl (v_assign rfl) rfl ?_
      refine sq_end ?_
      refine qs_n ?_
      refine wp_rj 7 [(0, true), (1, true), (2, true), (3, true), (4, true), (5, true), (6, true), (7, false)] mixed_ok (by kernel_rfl) ?_
      refine rj_v rfl rfl (v_fieldAddr fd_28_1 ty_24 (by decide) rfl) rfl ?_
      refine rj_v rfl rfl (v_loadB 0 ty_24 rfl rfl rfl) rfl ?_
      refine rj_v rfl rfl (v_move rfl) rfl ?_
      refine rj_v rfl rfl (v_move rfl) rfl ?_
      have hli := hl _ (mem_getD (by omega : i < ls.length))
      refine rj_v rfl rfl (v_indexAddrA Try.underlying155 ty_3 rfl rfl (by omega) (by omega)) rfl ?_
      refine rj_v rfl rfl (v_loadB 4 ty_3 rfl rfl (aget (k := (ls.getD i 0).toNat) (by omega) rfl)) rfl ?_
      refine rj_v rfl rfl (v_idxI Try.underlying24 ty_3 rfl rfl ro.toR (by omega) (by omega)) rfl ?_
      refine rj_m 2 rfl rfl rfl rfl (m_storeI 2 ty_3 rfl rfl rfl ro (by omega)) rfl ?_; rintro _ h_ro8 ⟨rfl, ro8⟩
      refine rj_end ?_
      refine qs_bn ?_
      refine qs_n ?_
      refine wp_sq ?_
      refine sq_v rfl (v_add rfl rfl ((by unfold I64; omega))) rfl ?_
      refine sq_v rfl (v_move rfl) rfl ?_
      refine sq_end ?_
      exact qs_bk (i + 1, h_ro8) ⟨by simp only; omega, by simp only; rw [← set_prefix (by omega), arrOf, map_getD (by omega)]; exact ro8⟩ (by simp only; omega) ⟨rfl, rfl, rfl, rfl, rfl, rfl, trivial⟩ (fun _ s => s)
    · refine wp_ex ?_
      refine qs_x ?_
      refine qs_x ?_
      refine qs_bx ?_
      refine qs_n ?_
      refine wp_sc ?_
      refine wp_sq ?_
      refine sq_v rfl (v_loadNB 0 ty_28 rfl rfl rfl rfl) rfl ?_
      refine sq_m 3 rfl rfl (m_store 3 ty_28 rfl rfl rfl rfl (by simp [r9.toR.sl.one, ro.toR.sl.one, one_sl]) rfl (Nat.le_of_ble_eq_true rfl)) rfl ?_; rintro _ _ ⟨rfl, rfl⟩
      refine sq_end ?_
      refine qs_n ?_
      refine wp_rt ?_
      have e : (arrOf arr ls).length - i = 0 := by omega
      rw [e, List.take_of_length_le (by omega), List.replicate_zero, List.append_nil] at ro
      refine qs_dj 1 2 rfl rfl rfl (fun hdj => ?_)
      refine qs_s [PUn h9 hh, box b4 _ _, hp w] (fun _ s => Sat.merge (s.pick [1, 2, 3, 5] (by decide) rfl)) ?_
      exact qs_retc 1 rfl ty_28 rfl rfl rfl (fun w' s => ⟨_, PUn h9 hh, rfl, s.updE (i := 2) rfl (.inr ⟨0, rfl, by decide⟩), v9, v12, rfl, r9.toR.mono (PLe.un_l _ _), ro.toR.mono (PLe.un_r hdj)⟩)
end Go.Proofs.Ytikeobneipjfnaa
