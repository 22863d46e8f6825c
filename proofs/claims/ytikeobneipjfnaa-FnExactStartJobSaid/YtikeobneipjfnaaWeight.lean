/-
  The weight of an assignment of a network, in the program and in the reference: the same numbers.
  Conditions: none.
-/
import Derived.Test.YtikeobneipjfnaaOffset
import Derived.Test.YtikeobneipjfnaaLabels
import Derived.Test.YtikeobneipjfnaaLaw1
namespace Go.Proofs.Ytikeobneipjfnaa
set_option maxRecDepth 100000
open Go.RowKit
theorem dimOf_append : ∀ {a b : List Ten} (_ : ∀ t ∈ a, AxOK t) (x : Int), dimOf (a ++ b) x = if dimOf a x ≠ 0 then dimOf a x else dimOf b x
  | [], b, _, x => by simp [dimOf]
  | u :: r, b, h, x => by
    have ih := dimOf_append (a := r) (b := b) (fun t ht => h t (by simp [ht])) x
    by_cases hx : x ∈ u.l
    · have hu := (h u (by simp)).2 _ (findI_get hx).1
      simp only [List.cons_append, dimOf, if_pos hx]
      rw [if_pos (by omega)]
    · simp only [List.cons_append, dimOf, if_neg hx]
      exact ih
/-- In a network in order, each label's dimension is that of its axis. -/
theorem net_dim {k p n : Int} {ts : List Ten} {op : List Int} (h : netL k p n ts op) {t : Ten} (ht : t ∈ ts) {x : Int} (hx : x ∈ t.l) : dimOf ts x = t.d.getD (findI t.l x).toNat 0 := by
  obtain ⟨i, hi⟩ := List.getElem?_of_mem ht
  have hlt := (List.getElem?_eq_some_iff.1 hi).1
  have hg := findI_get hx
  have hc := h.2.2.2.1 i hlt t hi _ hg.1 t hi
  rw [hg.2] at hc
  have e : ts = ts.take i ++ (t :: ts.drop (i + 1)) := by rw [← drop_at hi, List.take_append_drop]
  have hax := net_ax h
  conv => lhs; rw [e]
  rw [dimOf_append (fun u hu => hax u (List.mem_of_mem_take hu))]
  split
  · omega
  · rw [dimOf, if_pos hx]
theorem net_label {k p n : Int} {ts : List Ten} {op : List Int} (h : netL k p n ts op) {t : Ten} (ht : t ∈ ts) {x : Int} (hx : x ∈ t.l) : x ∈ labelsL ts := by
  have hg := findI_get hx
  have ha := (net_axes h t ht).2.2 _ hg.1
  unfold axP at ha
  rw [hg.2] at ha
  have hd := net_dim h ht hx
  exact mem_labels.2 ⟨by omega, by have := ha.2.1; omega⟩
theorem nodup_map {α β : Type} {f : α → β} (hf : ∀ a b, f a = f b → a = b) {l : List α} (h : l.Nodup) : (l.map f).Nodup :=
  List.pairwise_map.2 (h.imp fun hne e => hne (hf _ _ e))
theorem labels_nodup (ts : List Ten) (m : Nat) : (labelsTo ts m).Nodup :=
  List.Pairwise.filter _ (nodup_map (f := fun (i : Nat) => (i : Int)) (fun a b e => by have e' : (a : Int) = b := e; omega) List.nodup_range)
theorem axes_nodup {ls ds : List Int} (h : axesL ls ds) : ls.Nodup := by
  rw [List.Nodup, List.pairwise_iff_getElem]
  intro i j hi hj hij e
  have := (h.2.2 j hj).2.2
  refine this ?_
  simp only [List.getD, List.getElem?_eq_getElem hj, Option.getD_some]
  rw [← e]
  exact List.mem_iff_getElem.2 ⟨i, by simp; omega, by simp⟩
theorem assign_idx {k p n : Int} {ts : List Ten} {op vs : List Int} (h : assignL k p n ts op vs) {t : Ten} (ht : t ∈ ts) : idxIn t.d (idxAt (labelsL ts) vs t.l) := by
  have hax := net_axes h.1 t ht
  refine ⟨by simp [idxAt, hax.2.1], fun j hj => ?_⟩
  have hj' : j < t.l.length := by rw [hax.2.1]; exact hj
  have hx := mem_getD hj'
  have hg := findI_get (net_label h.1 ht hx)
  have hd := net_dim h.1 ht hx
  have hfj : findI t.l (t.l.getD j 0) = j := find_at hax hj'
  rw [hfj, Int.toNat_natCast] at hd
  have hv := h.2.2 _ (by rw [h.2.1, dimsFor, List.length_map]; exact hg.1)
  rw [dimsFor, map_getD hg.1, hg.2, hd] at hv
  rw [idxAt, map_getD hj']
  exact hv
theorem assign_small {k p n : Int} {ts : List Ten} {op vs : List Int} (h : assignL k p n ts op vs) : ∀ b ∈ vs, 0 ≤ b ∧ b ≤ 1048576 := all_of fun j hj => by
  have := h.2.2 j hj
  have hl := h.2.1
  rw [dimsFor, List.length_map] at hl
  rw [dimsFor, map_getD (by omega)] at this
  have hr := dimOf_range (net_ax h.1) ((labelsL ts).getD j 0)
  omega
/-! ### elements -/
theorem oneL_in {k p n : Int} (h : ringL k p n) : InR k p n (oneL k p n) := by
  refine ⟨oneL_len k p n, fun a ha => ?_⟩
  have ht := top_range h
  unfold oneL at ha
  split at ha
  · simp at ha; omega
  · split at ha
    · simp at ha; omega
    · have h1 : 1 ≤ topI k p n := by
        have h3 := fun hk => top_cap (k := k) (p := p) (n := n) h hk
        have h2 := fun hk => top_poly (k := k) (p := p) (n := n) h hk
        unfold ringL at h
        have h1 := fun hk => top_1 (k := k) (p := p) (n := n) hk
        rcases h with h | h | h | h | h | h
        · have := h1 h.1; omega
        · have := h2 (.inl h.1); omega
        · have := h3 h.1; omega
        · omega
        · have := h2 (.inr (.inl h.1)); omega
        · have := h2 (.inr (.inr h.1)); omega
      rcases List.mem_or_eq_of_mem_set ha with ha | ha
      · have := List.eq_of_mem_replicate ha; omega
      · omega
theorem elt_mem {xs : List Int} {w i a : Int} (h : a ∈ elt xs w i) : a ∈ xs := List.mem_of_mem_drop (List.mem_of_mem_take h)
theorem elt_inR {k p n : Int} {t : Ten} (h : tensorL k p n t.l t.d t.x) {i : Int} (h0 : 0 ≤ i) (h1 : i < prodI t.d) : InR k p n (elt t.x (widthI k n) i) := by
  have hw := width_range h.1
  refine ⟨?_, fun a ha => h.2.2.2 a (elt_mem ha)⟩
  have hsz := h.2.2.1
  have hs := sizeI_ge.1 h.2.1
  rw [sizeI_yes hs.1 hs.2] at hsz
  have := Int.mul_le_mul_of_nonneg_right (show i + 1 ≤ prodI t.d by omega) (show 0 ≤ widthI k n by omega)
  have h2 := Int.mul_nonneg h0 (show 0 ≤ widthI k n by omega)
  rw [Int.add_mul, Int.one_mul] at this
  simp only [elt, List.length_take, List.length_drop]
  omega
theorem elt_fits {k p n : Int} {t : Ten} (h : tensorL k p n t.l t.d t.x) {i : Int} (h1 : i < prodI t.d) : i * widthI k n + widthI k n ≤ t.x.length ∧ t.x.length ≤ 17592186044416 := by
  have hw := width_range h.1
  have hsz := h.2.2.1
  have hs := sizeI_ge.1 h.2.1
  rw [sizeI_yes hs.1 hs.2] at hsz
  have := Int.mul_le_mul_of_nonneg_right (show i + 1 ≤ prodI t.d by omega) (show 0 ≤ widthI k n by omega)
  rw [Int.add_mul, Int.one_mul] at this
  have h3 : prodI t.d * widthI k n ≤ 4096 * 6 := Int.mul_le_mul hs.2 hw.2 (by omega) (by omega)
  omega
theorem steps_in {labels ls ds : List Int} (hd : ∀ d ∈ ds, 1 ≤ d) : ∀ a ∈ stepsL labels ls ds, 0 ≤ a ∧ a ≤ prodI ds := fun a ha => by
  simp only [stepsL, List.mem_map] at ha
  obtain ⟨x, _, rfl⟩ := ha
  exact strOf_range hd x
/-! ### weights -/
noncomputable def weightTo (k p n : Int) (labels vs : List Int) (ts : List Ten) : List Int := ts.foldl (fun a t => mulL k p n a (elt t.x (widthI k n) (offL t.d (idxAt labels vs t.l)))) (oneL k p n)
theorem weight_step {k p n : Int} {labels vs : List Int} {ts : List Ten} {i : Nat} {t : Ten} (h : ts[i]? = some t) : weightTo k p n labels vs (ts.take (i + 1)) = mulL k p n (weightTo k p n labels vs (ts.take i)) (elt t.x (widthI k n) (offL t.d (idxAt labels vs t.l))) := by
  rw [take_ten h, weightTo, List.foldl_append]; rfl
/-- What is asked of the numbers at the labels. -/
structure AtOK (k p n : Int) (ts : List Ten) (labels vs : List Int) : Prop where
  ring : ringL k p n
  ten : ∀ t ∈ ts, tensorL k p n t.l t.d t.x
  nodup : labels.Nodup
  mem : ∀ t ∈ ts, ∀ x ∈ t.l, x ∈ labels
  idx : ∀ t ∈ ts, idxIn t.d (idxAt labels vs t.l)
  len : vs.length = labels.length
  few : labels.length ≤ 100
  small : ∀ b ∈ vs, 0 ≤ b ∧ b ≤ 1048576
theorem AtOK.off {k p n : Int} {ts : List Ten} {labels vs : List Int} (h : AtOK k p n ts labels vs) {t : Ten} (ht : t ∈ ts) : 0 ≤ offL t.d (idxAt labels vs t.l) ∧ offL t.d (idxAt labels vs t.l) < prodI t.d := by
  have := offL_in (fun d hd => (dims_mem (axes_dims (tensor_axes (h.ten t ht))) d hd).1) (h.idx t ht)
  omega
theorem AtOK.dot {k p n : Int} {ts : List Ten} {labels vs : List Int} (h : AtOK k p n ts labels vs) {t : Ten} (ht : t ∈ ts) : dotL (stepsL labels t.l t.d) vs = offL t.d (idxAt labels vs t.l) := by
  have hax := tensor_axes (h.ten t ht)
  rw [dotL, stepsL_len, dot_off h.nodup hax.2.1 (axes_nodup hax) (h.mem t ht)]
theorem weight_in {k p n : Int} {ts : List Ten} {labels vs : List Int} (h : AtOK k p n ts labels vs) : ∀ i, i ≤ ts.length → InR k p n (weightTo k p n labels vs (ts.take i))
  | 0, _ => by simpa [weightTo] using oneL_in h.ring
  | i + 1, hi => by
    have ht : ts[i]? = some ts[i] := List.getElem?_eq_getElem (by omega)
    have hm := List.mem_of_getElem? ht
    rw [weight_step ht]
    exact mulL_in h.ring (weight_in h i (by omega)) (elt_inR (h.ten _ hm) (h.off hm).1 (h.off hm).2)
theorem idxAt_step {labels vs ls : List Int} {j : Nat} (h : j < ls.length) : idxAt labels vs (ls.take (j + 1)) = idxAt labels vs (ls.take j) ++ [vs.getD (findI labels (ls.getD j 0)).toNat 0] := by
  rw [take_succ h, idxAt, List.map_append]; rfl
set_option maxHeartbeats 1000000 in
theorem ct_s_l12Weight (k p n : Int) (ts : List Ten) (labels vs : List Int) (vt vo v u : Value) (w : World) (r : TensR ts vt (hp w)) (rl : IntsR labels v (hp w)) (rv : IntsR vs u (hp w)) (hat : AtOK k p n ts labels vs) :
    Calls Try.prog 128 [netV k p n vt vo, v, u].toArray w (Ret w emp (IntsO (weightTo k p n labels vs ts))) := by
  have hring := hat.ring
  have hw := width_range hring
  have hlen := hat.len
  have hfew := hat.few
  refine calls_in Try.func128 rfl Try.ntmps128 rfl (Sat.start w) ?_
  have hle0 := r.le
  obtain ⟨cs_r, rr_r, hc_r⟩ := r.at
  have hle1 := rl.le
  have hle2 := rv.le
  refine wp_sc ?_
  refine wp_sq ?_
  refine sq_x rfl (x_box rfl rfl) rfl ?_; rintro _ _ ⟨b3, rfl, rfl⟩
  refine sq_v rfl (v_assign rfl) rfl ?_
  refine sq_end ?_
  refine qs_n ?_
  refine wp_sc ?_
  refine wp_sq ?_
  refine sq_v rfl (v_fieldAddr fd_48_0 ty_30 (by decide) rfl) rfl ?_
  refine sq_v rfl (v_loadNB 0 ty_30 rfl rfl rfl rfl) rfl ?_
  refine sq_x rfl (x_call rfl en_173 (fun w s => ct_s_l02One _ _ _ w (by first | assumption | omega))) rfl ?_; rintro v15 h15 r15
  refine sq_v rfl (v_assign rfl) rfl ?_
  refine sq_end ?_
  refine qs_n ?_
  refine wp_sc ?_
  refine wp_sc ?_
  refine wp_sq ?_
  refine sq_v rfl (v_fieldAddr fd_48_1 ty_46 (by decide) rfl) rfl ?_
  refine sq_v rfl (v_loadB 1 ty_46 rfl rfl rfl) rfl ?_
  refine sq_v rfl (v_len Try.underlying46 rfl r.sl) rfl ?_
  refine sq_v rfl (v_move rfl) rfl ?_
  refine sq_end ?_
  refine qs_n ?_
  refine wp_bl ?_
  refine wp_lp (σ := Nat × Value × PH) (fun z_ => [(1, v), (2, u), (3, .pointer (some ⟨b3, 0, none⟩)), (6, .slice none 0 0), (7, z_.2.1), (17, vt), (18, num ts.length), (19, num z_.1)]) (fun z_ => [z_.2.2, box b3 [num k, num p, num n, vt, vo] 48, hp w]) (fun z_ => z_.1 ≤ ts.length ∧ IntsO (weightTo k p n labels vs (ts.take z_.1)) z_.2.1 z_.2.2) (fun z_ => ts.length - z_.1) (0, v15, h15) (⟨by (try dsimp only); omega, by (try dsimp only); simpa [weightTo] using r15⟩) ⟨rfl, rfl, rfl, rfl, (by first | rfl | exact ksub rfl (by first | omega | (simp; done) | (simp; omega))), rfl, rfl, (by first | rfl | exact ksub rfl (by first | omega | (simp; done) | (simp; omega))), trivial⟩ (fun _ s => s) ?_
  rintro ⟨i, wv, wh⟩ ⟨hi, q⟩
  dsimp only at hi q ⊢
  have hle_q := q.toR.le
  have hwi := weight_in hat i hi
  refine wp_sc ?_
  refine wp_sq ?_
  refine sq_v rfl (v_lss rfl rfl) rfl ?_
  refine sq_end ?_
  refine qs_n ?_
  refine wp_sc ?_
  refine wp_cd rfl (fun c20 => ?_) (fun c20 => ?_)
  · refine wp_sk ?_
    refine qs_n ?_
    refine wp_sc ?_
    refine wp_bl ?_
    refine wp_sc ?_
    refine wp_sq ?_
    obtain ⟨t21, a21, b21, c21, ht21, hcs21, rl21, rd21, rx21⟩ := hc_r (i) (by first | omega | (rw [List.length_set]; omega))
    refine sq_v rfl (v_indexAddr Try.underlying46 ty_28 rfl rfl rr_r (by decide) (by omega) (by omega)) rfl ?_
    refine sq_v rfl (v_loadNE 2 ty_28 rfl rfl rr_r (by have := rr_r.1; omega) rfl hcs21) rfl ?_
    refine sq_x rfl (x_alloc ty_28 rfl) rfl ?_; rintro _ _ ⟨b9, rfl, rfl⟩
    refine sq_m 0 rfl rfl (m_store 0 ty_28 rfl rfl rfl rfl (by simp [rl21.sl.one, rd21.sl.one, rx21.sl.one]) rfl (Nat.le_of_ble_eq_true rfl)) rfl ?_; rintro _ _ ⟨rfl, rfl⟩
    refine sq_end ?_
    have htm := List.mem_of_getElem? ht21
    have hten := hat.ten _ htm
    have hoff := hat.off htm
    have hdm := dims_mem (axes_dims (tensor_axes hten))
    have hpl := (sizeI_ge.1 hten.2.1).2
    have hll := (tensor_axes hten).2.1
    have hl12 := (tensor_axes hten).1
    have hfit := elt_fits hten hoff.2
    have hel := elt_inR hten hoff.1 hoff.2
    refine qs_n ?_
    refine wp_sc ?_
    refine wp_sq ?_
    refine sq_x rfl (x_build0 Try.underlying24 ty_3) rfl ?_; intro v23 h23 (r23 : IntsO [] v23 h23)
    refine sq_v rfl (v_assign rfl) rfl ?_
    refine sq_end ?_
    refine qs_n ?_
    refine wp_sc ?_
    refine wp_sc ?_
    refine wp_sq ?_
    refine sq_v rfl (v_fieldAddr fd_28_0 ty_24 (by decide) rfl) rfl ?_
    refine sq_v rfl (v_loadB 1 ty_24 rfl rfl rfl) rfl ?_
    refine sq_v rfl (v_len Try.underlying24 rfl rl21.sl) rfl ?_
    refine sq_v rfl (v_move rfl) rfl ?_
    refine sq_end ?_
    refine qs_n ?_
    refine wp_bl ?_
    refine wp_lp (σ := Nat × Value × PH) (fun z_ => [(1, v), (2, u), (3, .pointer (some ⟨b3, 0, none⟩)), (6, .slice none 0 0), (7, wv), (9, .pointer (some ⟨b9, 0, none⟩)), (10, z_.2.1), (17, vt), (18, num ts.length), (19, num i), (20, .bool (decide ((i : Int) < ts.length))), (22, .agg [a21, b21, c21].toArray), (23, v23), (24, .pointer (some ⟨b9, 0, none⟩)), (25, a21), (26, num t21.l.length), (27, num z_.1)]) (fun z_ => [z_.2.2, box b9 [a21, b21, c21] 28, wh, box b3 [num k, num p, num n, vt, vo] 48, hp w]) (fun z_ => z_.1 ≤ t21.l.length ∧ IntsO (idxAt labels vs (t21.l.take z_.1)) z_.2.1 z_.2.2) (fun z_ => t21.l.length - z_.1) (0, v23, h23) (⟨by (try dsimp only); omega, by (try dsimp only); simpa [idxAt] using r23⟩) ⟨rfl, rfl, rfl, rfl, rfl, rfl, (by first | rfl | exact ksub rfl (by first | omega | (simp; done) | (simp; omega))), rfl, rfl, rfl, rfl, rfl, rfl, rfl, rfl, rfl, (by first | rfl | exact ksub rfl (by first | omega | (simp; done) | (simp; omega))), trivial⟩ (fun _ s => s) ?_
    rintro ⟨j, xv, xh⟩ ⟨hj, qx⟩
    dsimp only at hj qx ⊢
    have hle_qx := qx.toR.le
    have hixl : (idxAt labels vs (t21.l.take j)).length = j := by simp [idxAt]; omega
    refine wp_sc ?_
    refine wp_sq ?_
    refine sq_v rfl (v_lss rfl rfl) rfl ?_
    refine sq_end ?_
    refine qs_n ?_
    refine wp_sc ?_
    refine wp_cd rfl (fun c28 => ?_) (fun c28 => ?_)
    · refine wp_sk ?_
      refine qs_n ?_
      refine wp_sc ?_
      refine wp_bl ?_
      refine wp_sc ?_
      refine wp_sq ?_
      refine sq_v rfl (v_idxI Try.underlying24 ty_3 rfl rfl rl21 (by first | omega | (simp only [List.length_cons, List.length_nil]; omega) | (simp only [List.length_append, List.length_cons, List.length_nil]; omega) | (rw [List.length_set]; omega) | (rw [List.length_replicate]; omega) | (simp; omega)) (by first | omega | (simp only [List.length_cons, List.length_nil]; omega) | (simp only [List.length_append, List.length_cons, List.length_nil]; omega) | (rw [List.length_set]; omega) | (rw [List.length_replicate]; omega) | (simp; omega))) rfl ?_
      refine sq_v rfl (v_loadI (k := j) 4 ty_3 rfl rfl rl21 (by first | omega | (simp only [List.length_cons, List.length_nil]; omega) | (simp only [List.length_append, List.length_cons, List.length_nil]; omega) | (rw [List.length_set]; omega) | (rw [List.length_replicate]; omega) | (simp; omega))) rfl ?_
      refine sq_v rfl (v_assign rfl) rfl ?_
      refine sq_end ?_
      have hmx := hat.mem _ htm _ (mem_getD (show j < t21.l.length by omega))
      have hgx := findI_get hmx
      have hgx0 := findI_ge.2 hmx
      refine qs_n ?_
      refine wp_sq ?_
      refine sq_v rfl (v_move rfl) rfl ?_
      refine sq_v rfl (v_move rfl) rfl ?_
      refine sq_v rfl (v_move rfl) rfl ?_
      refine sq_v rfl (v_move rfl) rfl ?_
      refine sq_u rfl (x_callv rfl en_123 (fun w s => ct_s_l05Find _ _ _ w (rl.mono (s.get 4 rfl)))) rfl ?_
      refine sq_v rfl (v_idxI Try.underlying24 ty_3 rfl rfl rv (by first | omega | (simp only [List.length_cons, List.length_nil]; omega) | (simp only [List.length_append, List.length_cons, List.length_nil]; omega) | (rw [List.length_set]; omega) | (rw [List.length_replicate]; omega) | (simp; omega)) (by first | omega | (simp only [List.length_cons, List.length_nil]; omega) | (simp only [List.length_append, List.length_cons, List.length_nil]; omega) | (rw [List.length_set]; omega) | (rw [List.length_replicate]; omega) | (simp; omega))) rfl ?_
      refine sq_v rfl (v_loadI  4 ty_3 rfl rfl rv (by first | omega | (simp only [List.length_cons, List.length_nil]; omega) | (simp only [List.length_append, List.length_cons, List.length_nil]; omega) | (rw [List.length_set]; omega) | (rw [List.length_replicate]; omega) | (simp; omega))) rfl ?_
      refine sq_x rfl (x_buildS [num (vs.getD (findI labels (t21.l.getD j 0) : Int).toNat 0)] Try.underlying24 ty_3 (by decide) rfl rfl rfl (by decide) (by decide) (by intro v hv; simp at hv; rcases hv with rfl <;> rfl)) rfl ?_; intro v38 h38 (r38 : IntsO [vs.getD (findI labels (t21.l.getD j 0) : Int).toNat 0] v38 h38)
      refine sq_m 1 rfl rfl (m_appI 1 0 Try.underlying24 ty_3 rfl rfl rfl rfl qx rfl r38.toR (by first | omega | (simp only [List.length_cons, List.length_nil]; omega) | (simp only [List.length_append, List.length_cons, List.length_nil]; omega) | (rw [List.length_set]; omega) | (rw [List.length_replicate]; omega) | (simp; omega))) rfl ?_; intro v39 h_r39 r39
      refine sq_v rfl (v_assign rfl) rfl ?_
      refine sq_end ?_
      refine qs_bn ?_
      refine qs_n ?_
      refine wp_sq ?_
      refine sq_v rfl (v_add rfl rfl ((by unfold I64; omega))) rfl ?_
      refine sq_v rfl (v_move rfl) rfl ?_
      refine sq_end ?_
      exact qs_bk (j + 1, v39, h_r39) ⟨by (try dsimp only); omega, by (try dsimp only); rw [idxAt_step (by omega)]; exact r39⟩ (by simp only; omega) ⟨rfl, rfl, rfl, rfl, rfl, rfl, (by first | rfl | exact ksub rfl (by first | omega | (simp; done) | (simp; omega))), rfl, rfl, rfl, rfl, rfl, rfl, rfl, rfl, rfl, (by first | rfl | exact ksub rfl (by first | omega | (simp; done) | (simp; omega))), trivial⟩ (fun _ s => s.pick [1, 2, 3, 4, 5] (by decide) rfl)
    · refine wp_ex ?_
      refine qs_x ?_
      refine qs_x ?_
      refine qs_bx ?_
      refine qs_n ?_
      refine wp_rj 13 [(0, true), (1, true), (2, true), (3, true), (4, true), (5, true), (6, true), (7, true), (8, true), (9, false), (10, false), (11, false), (12, true)] mixed_ok (by kernel_rfl) ?_
      refine rj_v rfl rfl (v_fieldAddr fd_48_0 ty_30 (by decide) rfl) rfl ?_
      refine rj_v rfl rfl (v_loadNB 3 ty_30 rfl rfl rfl rfl) rfl ?_
      refine rj_v rfl rfl (v_move rfl) rfl ?_
      refine rj_v rfl rfl (v_fieldAddr fd_48_0 ty_30 (by decide) rfl) rfl ?_
      refine rj_v rfl rfl (v_loadNB 3 ty_30 rfl rfl rfl rfl) rfl ?_
      refine rj_v rfl rfl (v_loadNB 1 ty_28 rfl rfl rfl rfl) rfl ?_
      refine rj_v rfl rfl (v_fieldAddr fd_28_1 ty_24 (by decide) rfl) rfl ?_
      refine rj_v rfl rfl (v_loadB 1 ty_24 rfl rfl rfl) rfl ?_
      refine rj_v rfl rfl (v_move rfl) rfl ?_
      rw [List.take_of_length_le (show t21.l.length ≤ j by omega)] at qx; have hidx := hat.idx _ htm
      refine rj_u rfl rfl (x_callv rfl en_124 (fun w s => ct_s_l05Offset _ _ _ _ w (rd21.mono (s.get 4 rfl)) (qx.toR.mono (s.get 0 rfl)) (by first | assumption | omega) (by first | assumption | omega) (by first | assumption | omega))) rfl ?_
      refine rj_x rfl rfl (x_call rfl en_127 (fun w s => ct_s_l05Get _ _ _ _ _ _ _ _ w (by first | assumption | omega) (rx21.mono (s.get 4 rfl)) (by first | assumption | omega) (by first | assumption | omega) (by first | assumption | omega))) rfl ?_; rintro v51 h51 r51
      refine rj_x rfl rfl (x_call rfl en_207 (fun w s => ct_s_l02Mul _ _ _ _ _ _ _ w (by first | assumption | omega) (q.toR.mono (s.get 3 rfl)) (r51.toR.mono (s.get 0 rfl)) (by first | assumption | omega) (by first | assumption | omega))) rfl ?_; rintro v52 h52 r52
      refine rj_v rfl rfl (v_assign rfl) rfl ?_
      refine rj_end ?_
      refine qs_bn ?_
      refine qs_n ?_
      refine wp_sq ?_
      refine sq_v rfl (v_add rfl rfl ((by unfold I64; omega))) rfl ?_
      refine sq_v rfl (v_move rfl) rfl ?_
      refine sq_end ?_
      exact qs_bk (i + 1, v52, h52) ⟨by (try dsimp only); omega, by (try dsimp only); rw [weight_step ht21]; exact r52⟩ (by simp only; omega) ⟨rfl, rfl, rfl, rfl, (by first | rfl | exact ksub rfl (by first | omega | (simp; done) | (simp; omega))), rfl, rfl, (by first | rfl | exact ksub rfl (by first | omega | (simp; done) | (simp; omega))), trivial⟩ (fun _ s => s.pick [0, 5, 6] (by decide) rfl)
  · refine wp_ex ?_
    refine qs_x ?_
    refine qs_x ?_
    refine qs_bx ?_
    refine qs_n ?_
    refine wp_sc ?_
    refine wp_sq ?_
    refine sq_v rfl (v_move rfl) rfl ?_
    refine sq_v rfl (v_assign rfl) rfl ?_
    refine sq_end ?_
    refine qs_n ?_
    refine wp_rt ?_
    exact qs_ret1 rfl rfl (fin_t 0 (i := 2) rfl rfl rfl (by rw [List.take_of_length_le (by omega)] at q; exact q))
open Classical in
noncomputable def weightL (k p n : Int) (ts : List Ten) (op vs : List Int) : List Int := if assignL k p n ts op vs then weightTo k p n (labelsL ts) vs ts else []
theorem assign_at {k p n : Int} {ts : List Ten} {op vs : List Int} (h : assignL k p n ts op vs) : AtOK k p n ts (labelsL ts) vs :=
  ⟨h.1.1, h.1.2.2.1, labels_nodup ts 100, fun t ht x hx => net_label h.1 ht hx, fun t ht => assign_idx h ht, by have := h.2.1; rwa [dimsFor, List.length_map] at this, labels_len ts 100, assign_small h⟩
end Go.Proofs.Ytikeobneipjfnaa
