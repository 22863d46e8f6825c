/-
  Parts of the proof of FnMarginals: laws of heaps, contracts of functions.
  Conditions: none.
-/
import Derived.Test.YtdkgaejmgnojhaaGreatQFnMarginals3
namespace Go.Proofs.YtdkgaejmgnojhaaGreat
open Go.RowKit

def joinP (l : List PH) : PH := l.foldr PUn emp
theorem PDj.join {h : PH} : ∀ {l : List PH}, (∀ x ∈ l, PDj h x) → PDj h (joinP l)
  | [], _ => PDj.symm (PDj.emp h)
  | x :: r, hl => PDj.symm (PDj.un (PDj.symm (hl x (by simp))) (PDj.symm (PDj.join (fun y hy => hl y (by simp [hy])))))
theorem PLe.join : ∀ {l : List PH}, sepL l → ∀ h ∈ l, PLe h (joinP l)
  | [], _, h, hm => by simp at hm
  | x :: r, hs, h, hm => by
    rcases List.mem_cons.1 hm with rfl | hm
    · exact PLe.un_l _ _
    · exact (PLe.join hs.2 h hm).trans (PLe.un_r (PDj.join hs.1))
theorem joinP_dom : ∀ {l : List PH} {k : Nat} {o : Obj}, joinP l k = some o → ∃ h ∈ l, h k = some o
  | [], k, o, e => by simp [joinP, emp] at e
  | x :: r, k, o, e => by
    have e' : PUn x (joinP r) k = some o := e
    unfold PUn at e'
    split at e'
    · rename_i y hy; cases e'; exact ⟨x, by simp, hy⟩
    · obtain ⟨h, hm, he⟩ := joinP_dom e'; exact ⟨h, by simp [hm], he⟩
/-- 'h' is made of the parts 'l'. -/
structure Made (h : PH) (l : List PH) : Prop where
  sep : sepL l
  le : ∀ x ∈ l, PLe x h
  dom : ∀ k o, h k = some o → ∃ x ∈ l, x k = some o
theorem Made.join {l : List PH} (h : sepL l) : Made (joinP l) l := ⟨h, PLe.join h, fun _ _ e => joinP_dom e⟩
theorem sepL_append : ∀ {a b : List PH}, sepL (a ++ b) ↔ sepL a ∧ sepL b ∧ ∀ x ∈ a, ∀ y ∈ b, PDj x y
  | [], b => by simp [sepL]
  | x :: r, b => by
    simp only [List.cons_append, sepL, sepL_append (a := r), List.mem_append, List.mem_cons]
    constructor
    · rintro ⟨h1, h2, h3, h4⟩; exact ⟨⟨fun y hy => h1 y (.inl hy), h2⟩, h3, fun y hy z hz => by
        rcases hy with rfl | hy
        · exact h1 z (.inr hz)
        · exact h4 y hy z hz⟩
    · rintro ⟨⟨h1, h2⟩, h3, h4⟩; exact ⟨fun y hy => hy.elim (h1 y) (h4 x (.inl rfl) y), h2, h3, fun y hy z hz => h4 y (.inr hy) z hz⟩
section
variable {w0 w : World} {HS : List PH}
/-- A part made of many is parted; the many go to the end. -/
theorem Sat.open {h : PH} {l A : List PH} (m : Made h l) (s : Sat w0 (h :: A) w) : Sat w0 (A ++ l) w := by
  refine ⟨s.os, s.tape, s.output, s.size, sepL_append.2 ⟨s.sep.2, m.sep, fun x hx y hy => ?_⟩, fun x hx => ?_⟩
  · exact ((s.sep.1 x hx).mono (m.le y hy)).symm
  · rcases List.mem_append.1 hx with hx | hx
    · exact s.le x (by simp [hx])
    · exact (m.le x hx).trans (s.le h (by simp))
/-- The parts at the end made one. -/
theorem Sat.close {A l : List PH} (s : Sat w0 (A ++ l) w) : Sat w0 (joinP l :: A) w ∧ Made (joinP l) l := by
  have h := sepL_append.1 s.sep; refine ⟨⟨s.os, s.tape, s.output, s.size, ⟨fun x hx => ?_, h.1⟩, fun x hx => ?_⟩, Made.join h.2.1⟩
  · exact (PDj.join (fun y hy => h.2.2 x hx y hy)).symm
  · rcases List.mem_cons.1 hx with rfl | hx
    · intro k o e; obtain ⟨y, hy, e'⟩ := joinP_dom e; exact s.le y (by simp [hy]) k o e'
    · exact s.le x (by simp [hx])
end
section
variable {P : Program} {n : Nat} {w0 : World} {K : Env} {Q : Exit → Act → World → Prop} {ops : Array Oper} {rest : List Oper}
end
end Go.Proofs.YtdkgaejmgnojhaaGreat
namespace Go.Proofs.YtdkgaejmgnojhaaGreat
set_option maxRecDepth 100000
open Go.RowKit

theorem take_ten {ts : List Ten} {i : Nat} {t : Ten} (h : ts[i]? = some t) : ts.take (i + 1) = ts.take i ++ [t] := by
  obtain ⟨hi, e⟩ := List.getElem?_eq_some_iff.1 h; rw [List.take_succ_eq_append_getElem hi, e]
def iota (k : Int) (m : Nat) : List Int := (List.range m).map fun (j : Nat) => k + j
theorem iota_len (k : Int) (m : Nat) : (iota k m).length = m := by simp [iota]
end Go.Proofs.YtdkgaejmgnojhaaGreat
namespace Go.Proofs.YtdkgaejmgnojhaaGreat
set_option maxRecDepth 100000
open Go.RowKit
theorem dimOf_append : ∀ {a b : List Ten} (_ : ∀ t ∈ a, AxOK t) (x : Int), dimOf (a ++ b) x = if dimOf a x ≠ 0 then dimOf a x else dimOf b x
  | [], b, _, x => by simp [dimOf]
  | u :: r, b, h, x => by
    have ih := dimOf_append (a := r) (b := b) (fun t ht => h t (by simp [ht])) x
    by_cases hx : x ∈ u.l
    · have hu := (h u (by simp)).2 _ (findI_get hx).1; simp only [List.cons_append, dimOf, if_pos hx]; rw [if_pos (by omega)]
    · simp only [List.cons_append, dimOf, if_neg hx]; exact ih
/-- In a network in order, each label's dimension is that of its axis. -/
theorem net_dim {k p n : Int} {ts : List Ten} {op : List Int} (h : netL k p n ts op) {t : Ten} (ht : t ∈ ts) {x : Int} (hx : x ∈ t.l) : dimOf ts x = t.d.getD (findI t.l x).toNat 0 := by
  obtain ⟨i, hi⟩ := List.getElem?_of_mem ht; have hlt := (List.getElem?_eq_some_iff.1 hi).1; have hg := findI_get hx; have hc := h.2.2.2.1 i hlt t hi _ hg.1 t hi; rw [hg.2] at hc; have e : ts = ts.take i ++ (t :: ts.drop (i + 1)) := by rw [← drop_at hi, List.take_append_drop]
  have hax := net_ax h
  conv => lhs; rw [e]
  rw [dimOf_append (fun u hu => hax u (List.mem_of_mem_take hu))]
  split
  · omega
  · rw [dimOf, if_pos hx]
theorem net_label {k p n : Int} {ts : List Ten} {op : List Int} (h : netL k p n ts op) {t : Ten} (ht : t ∈ ts) {x : Int} (hx : x ∈ t.l) : x ∈ labelsL ts := by
  have hg := findI_get hx; have ha := (net_axes h t ht).2.2 _ hg.1
  unfold axP at ha
  rw [hg.2] at ha; have hd := net_dim h ht hx; exact mem_labels.2 ⟨by omega, by have := ha.2.1; omega⟩
theorem nodup_map {α β : Type} {f : α → β} (hf : ∀ a b, f a = f b → a = b) {l : List α} (h : l.Nodup) : (l.map f).Nodup :=
  List.pairwise_map.2 (h.imp fun hne e => hne (hf _ _ e))
theorem labels_nodup (ts : List Ten) (m : Nat) : (labelsTo ts m).Nodup :=
  List.Pairwise.filter _ (nodup_map (f := fun (i : Nat) => (i : Int)) (fun a b e => by have e' : (a : Int) = b := e; omega) List.nodup_range)
theorem axes_nodup {ls ds : List Int} (h : axesL ls ds) : ls.Nodup := by
  rw [List.Nodup, List.pairwise_iff_getElem]; intro i j hi hj hij e; have := (h.2.2 j hj).2.2; refine this ?_; simp only [List.getD, List.getElem?_eq_getElem hj, Option.getD_some]; rw [← e]; exact List.mem_iff_getElem.2 ⟨i, by simp; omega, by simp⟩
theorem assign_idx {k p n : Int} {ts : List Ten} {op vs : List Int} (h : assignL k p n ts op vs) {t : Ten} (ht : t ∈ ts) : idxIn t.d (idxAt (labelsL ts) vs t.l) := by
  have hax := net_axes h.1 t ht; refine ⟨by simp [idxAt, hax.2.1], fun j hj => ?_⟩; have hj' : j < t.l.length := by rw [hax.2.1]; exact hj
  have hx := mem_getD hj'; have hg := findI_get (net_label h.1 ht hx); have hd := net_dim h.1 ht hx; have hfj : findI t.l (t.l.getD j 0) = j := find_at hax hj'; rw [hfj, Int.toNat_natCast] at hd; have hv := h.2.2 _ (by rw [h.2.1, dimsFor, List.length_map]; exact hg.1); rw [dimsFor, map_getD hg.1, hg.2, hd] at hv; rw [idxAt, map_getD hj']; exact hv
theorem assign_small {k p n : Int} {ts : List Ten} {op vs : List Int} (h : assignL k p n ts op vs) : ∀ b ∈ vs, 0 ≤ b ∧ b ≤ 1048576 := all_of fun j hj => by
  have := h.2.2 j hj; have hl := h.2.1; rw [dimsFor, List.length_map] at hl; rw [dimsFor, map_getD (by omega)] at this; have hr := dimOf_range (net_ax h.1) ((labelsL ts).getD j 0)
  omega
theorem oneL_in {k p n : Int} (h : ringL k p n) : InR k p n (oneL k p n) := by
  refine ⟨oneL_len k p n, fun a ha => ?_⟩; have ht := top_range h
  unfold oneL at ha
  split at ha
  · simp at ha; omega
  · split at ha
    · simp at ha; omega
    · have h1 : 1 ≤ topI k p n := by
        have h3 := fun hk => top_cap (k := k) (p := p) (n := n) h hk; have h2 := fun hk => top_poly (k := k) (p := p) (n := n) h hk
        unfold ringL at h
        have h1 := fun hk => top_1 (k := k) (p := p) (n := n) hk
        rcases h with h | h | h | h | h | h
        · have := h1 h.1; omega
        · have := h2 (.inl h.1); omega
        · have := h3 h.1; omega
        · omega
        · have := h2 (.inr (.inl h.1)); omega
        · have := h2 (.inr (.inr h.1)); omega
      rcases List.mem_or_eq_of_mem_set ha with ha | ha
      · have := List.eq_of_mem_replicate ha; omega
      · omega
theorem elt_mem {xs : List Int} {w i a : Int} (h : a ∈ elt xs w i) : a ∈ xs := List.mem_of_mem_drop (List.mem_of_mem_take h)
theorem elt_inR {k p n : Int} {t : Ten} (h : tensorL k p n t.l t.d t.x) {i : Int} (h0 : 0 ≤ i) (h1 : i < prodI t.d) : InR k p n (elt t.x (widthI k n) i) := by
  have hw := width_range h.1; refine ⟨?_, fun a ha => h.2.2.2 a (elt_mem ha)⟩; have hsz := h.2.2.1; have hs := sizeI_ge.1 h.2.1; rw [sizeI_yes hs.1 hs.2] at hsz; have := Int.mul_le_mul_of_nonneg_right (show i + 1 ≤ prodI t.d by omega) (show 0 ≤ widthI k n by omega); have h2 := Int.mul_nonneg h0 (show 0 ≤ widthI k n by omega); rw [Int.add_mul, Int.one_mul] at this; simp only [elt, List.length_take, List.length_drop]
  omega
theorem elt_fits {k p n : Int} {t : Ten} (h : tensorL k p n t.l t.d t.x) {i : Int} (h1 : i < prodI t.d) : i * widthI k n + widthI k n ≤ t.x.length ∧ t.x.length ≤ 17592186044416 := by
  have hw := width_range h.1; have hsz := h.2.2.1; have hs := sizeI_ge.1 h.2.1; rw [sizeI_yes hs.1 hs.2] at hsz; have := Int.mul_le_mul_of_nonneg_right (show i + 1 ≤ prodI t.d by omega) (show 0 ≤ widthI k n by omega); rw [Int.add_mul, Int.one_mul] at this; have h3 : prodI t.d * widthI k n ≤ 4096 * 6 := Int.mul_le_mul hs.2 hw.2 (by omega) (by omega)
  omega
theorem steps_in {labels ls ds : List Int} (hd : ∀ d ∈ ds, 1 ≤ d) : ∀ a ∈ stepsL labels ls ds, 0 ≤ a ∧ a ≤ prodI ds := fun a ha => by
  simp only [stepsL, List.mem_map] at ha; obtain ⟨x, _, rfl⟩ := ha; exact strOf_range hd x
noncomputable def weightTo (k p n : Int) (labels vs : List Int) (ts : List Ten) : List Int := ts.foldl (fun a t => mulL k p n a (elt t.x (widthI k n) (offL t.d (idxAt labels vs t.l)))) (oneL k p n)
theorem weight_step {k p n : Int} {labels vs : List Int} {ts : List Ten} {i : Nat} {t : Ten} (h : ts[i]? = some t) : weightTo k p n labels vs (ts.take (i + 1)) = mulL k p n (weightTo k p n labels vs (ts.take i)) (elt t.x (widthI k n) (offL t.d (idxAt labels vs t.l))) := by
  rw [take_ten h, weightTo, List.foldl_append]; rfl
/-- What is asked of the numbers at the labels. -/
structure AtOK (k p n : Int) (ts : List Ten) (labels vs : List Int) : Prop where
  ring : ringL k p n
  ten : ∀ t ∈ ts, tensorL k p n t.l t.d t.x
  nodup : labels.Nodup
  mem : ∀ t ∈ ts, ∀ x ∈ t.l, x ∈ labels
  idx : ∀ t ∈ ts, idxIn t.d (idxAt labels vs t.l)
  len : vs.length = labels.length
  few : labels.length ≤ 100
  small : ∀ b ∈ vs, 0 ≤ b ∧ b ≤ 1048576
theorem AtOK.off {k p n : Int} {ts : List Ten} {labels vs : List Int} (h : AtOK k p n ts labels vs) {t : Ten} (ht : t ∈ ts) : 0 ≤ offL t.d (idxAt labels vs t.l) ∧ offL t.d (idxAt labels vs t.l) < prodI t.d := by
  have := offL_in (fun d hd => (dims_mem (axes_dims (tensor_axes (h.ten t ht))) d hd).1) (h.idx t ht)
  omega
theorem weight_in {k p n : Int} {ts : List Ten} {labels vs : List Int} (h : AtOK k p n ts labels vs) : ∀ i, i ≤ ts.length → InR k p n (weightTo k p n labels vs (ts.take i))
  | 0, _ => by simpa [weightTo] using oneL_in h.ring
  | i + 1, hi => by
    have ht : ts[i]? = some ts[i] := List.getElem?_eq_getElem (by omega); have hm := List.mem_of_getElem? ht; rw [weight_step ht]; exact mulL_in h.ring (weight_in h i (by omega)) (elt_inR (h.ten _ hm) (h.off hm).1 (h.off hm).2)
theorem idxAt_step {labels vs ls : List Int} {j : Nat} (h : j < ls.length) : idxAt labels vs (ls.take (j + 1)) = idxAt labels vs (ls.take j) ++ [vs.getD (findI labels (ls.getD j 0)).toNat 0] := by
  rw [take_succ h, idxAt, List.map_append]; rfl
set_option maxHeartbeats 1000000 in
theorem ct_s_l12Weight (k p n : Int) (ts : List Ten) (labels vs : List Int) (vt vo v u : Value) (w : World) (r : TensR ts vt (hp w)) (rl : IntsR labels v (hp w)) (rv : IntsR vs u (hp w)) (hat : AtOK k p n ts labels vs) :
    Calls Tryz.prog 68 [netV k p n vt vo, v, u].toArray w (Ret w emp (IntsO (weightTo k p n labels vs ts))) := by
  have hring := hat.ring; have hw := width_range hring; have hlen := hat.len; have hfew := hat.few; refine calls_in Tryz.func68 rfl Tryz.ntmps68 rfl (Sat.start w) ?_; have hle0 := r.le; obtain ⟨cs_r, rr_r, hc_r⟩ := r.at; have hle1 := rl.le; have hle2 := rv.le; refine wp_sc (wp_sq ?_); refine sq_x rfl (x_box rfl rfl) rfl ?_; rintro _ _ ⟨b3, rfl, rfl⟩; refine sq_v rfl (v_assign rfl) rfl (sq_end (qs_n (wp_sc (wp_sq (sq_v rfl (v_fieldAddr fd_28_0 ty_24 (by decide) rfl) rfl (sq_v rfl (v_loadNB 0 ty_24 rfl rfl rfl rfl) rfl ?_)))))); refine sq_x rfl (x_call rfl en_100 (fun w s => ct_s_l02One _ _ _ w (by first | assumption | omega))) rfl ?_; rintro v15 h15 r15; refine sq_v rfl (v_assign rfl) rfl (sq_end (qs_n (wp_sc (wp_sc (wp_sq (sq_v rfl (v_fieldAddr fd_28_1 ty_25 (by decide) rfl) rfl (sq_v rfl (v_loadB 1 ty_25 rfl rfl rfl) rfl (sq_v rfl (v_len Tryz.underlying25 rfl r.sl) rfl (sq_v rfl (v_move rfl) rfl (sq_end (qs_n (wp_bl ?_)))))))))))); refine wp_lp (σ := Nat × Value × PH) (fun z_ => [(1, v), (2, u), (3, .pointer (some ⟨b3, 0, none⟩)), (6, .slice none 0 0), (7, z_.2.1), (17, vt), (18, num ts.length), (19, num z_.1)]) (fun z_ => [z_.2.2, box b3 [num k, num p, num n, vt, vo] 28, hp w]) (fun z_ => z_.1 ≤ ts.length ∧ IntsO (weightTo k p n labels vs (ts.take z_.1)) z_.2.1 z_.2.2) (fun z_ => ts.length - z_.1) (0, v15, h15) (⟨by (try dsimp only); omega, by (try dsimp only); simpa [weightTo] using r15⟩) ⟨rfl, rfl, rfl, rfl, (by first | rfl | exact ksub rfl (by first | omega | (simp; done) | (simp; omega))), rfl, rfl, (by first | rfl | exact ksub rfl (by first | omega | (simp; done) | (simp; omega))), trivial⟩ (fun _ s => s) ?_; rintro ⟨i, wv, wh⟩ ⟨hi, q⟩; dsimp only at hi q ⊢; have hle_q := q.toR.le; have hwi := weight_in hat i hi; refine wp_sc (wp_sq (sq_v rfl (v_lss rfl rfl) rfl (sq_end (qs_n (wp_sc ?_))))); refine wp_cd rfl (fun c20 => ?_) (fun c20 => ?_)
  · refine wp_sk (qs_n (wp_sc (wp_bl (wp_sc (wp_sq ?_))))); obtain ⟨t21, a21, b21, c21, ht21, hcs21, rl21, rd21, rx21⟩ := hc_r (i) (by first | omega | (rw [List.length_set]; omega)); refine sq_v rfl (v_indexAddr Tryz.underlying25 ty_40 rfl rfl rr_r (by decide) (by omega) (by omega)) rfl ?_; refine sq_v rfl (v_loadNE 2 ty_40 rfl rfl rr_r (by have := rr_r.1; omega) rfl hcs21) rfl ?_; refine sq_x rfl (x_alloc ty_40 rfl) rfl ?_; rintro _ _ ⟨b9, rfl, rfl⟩; refine sq_m 0 rfl rfl (m_store 0 ty_40 rfl rfl rfl rfl (by simp [rl21.sl.one, rd21.sl.one, rx21.sl.one]) rfl (Nat.le_of_ble_eq_true rfl)) rfl ?_; rintro _ _ ⟨rfl, rfl⟩; refine sq_end ?_; have htm := List.mem_of_getElem? ht21; have hten := hat.ten _ htm; have hoff := hat.off htm; have hdm := dims_mem (axes_dims (tensor_axes hten)); have hpl := (sizeI_ge.1 hten.2.1).2; have hll := (tensor_axes hten).2.1; have hl12 := (tensor_axes hten).1; have hfit := elt_fits hten hoff.2; have hel := elt_inR hten hoff.1 hoff.2; refine qs_n (wp_sc (wp_sq ?_)); refine sq_x rfl (x_build0 Tryz.underlying26 ty_3) rfl ?_; intro v23 h23 (r23 : IntsO [] v23 h23); refine sq_v rfl (v_assign rfl) rfl (sq_end (qs_n (wp_sc (wp_sc (wp_sq (sq_v rfl (v_fieldAddr fd_40_0 ty_26 (by decide) rfl) rfl (sq_v rfl (v_loadB 1 ty_26 rfl rfl rfl) rfl (sq_v rfl (v_len Tryz.underlying26 rfl rl21.sl) rfl (sq_v rfl (v_move rfl) rfl (sq_end (qs_n (wp_bl ?_)))))))))))); refine wp_lp (σ := Nat × Value × PH) (fun z_ => [(1, v), (2, u), (3, .pointer (some ⟨b3, 0, none⟩)), (6, .slice none 0 0), (7, wv), (9, .pointer (some ⟨b9, 0, none⟩)), (10, z_.2.1), (17, vt), (18, num ts.length), (19, num i), (20, .bool (decide ((i : Int) < ts.length))), (22, .agg [a21, b21, c21].toArray), (23, v23), (24, .pointer (some ⟨b9, 0, none⟩)), (25, a21), (26, num t21.l.length), (27, num z_.1)]) (fun z_ => [z_.2.2, box b9 [a21, b21, c21] 40, wh, box b3 [num k, num p, num n, vt, vo] 28, hp w]) (fun z_ => z_.1 ≤ t21.l.length ∧ IntsO (idxAt labels vs (t21.l.take z_.1)) z_.2.1 z_.2.2) (fun z_ => t21.l.length - z_.1) (0, v23, h23) (⟨by (try dsimp only); omega, by (try dsimp only); simpa [idxAt] using r23⟩) ⟨rfl, rfl, rfl, rfl, rfl, rfl, (by first | rfl | exact ksub rfl (by first | omega | (simp; done) | (simp; omega))), rfl, rfl, rfl, rfl, rfl, rfl, rfl, rfl, rfl, (by first | rfl | exact ksub rfl (by first | omega | (simp; done) | (simp; omega))), trivial⟩ (fun _ s => s) ?_; rintro ⟨j, xv, xh⟩ ⟨hj, qx⟩; dsimp only at hj qx ⊢; have hle_qx := qx.toR.le; have hixl : (idxAt labels vs (t21.l.take j)).length = j := by simp [idxAt]; omega
    refine wp_sc (wp_sq (sq_v rfl (v_lss rfl rfl) rfl (sq_end (qs_n (wp_sc ?_))))); refine wp_cd rfl (fun c28 => ?_) (fun c28 => ?_)
    · refine wp_sk (qs_n (wp_sc (wp_bl (wp_sc (wp_sq ?_))))); refine sq_v rfl (v_idxI Tryz.underlying26 ty_3 rfl rfl rl21 (by first | omega | (simp; omega) | (simp only [List.length_append, List.length_cons, List.length_nil]; omega) | (rw [List.length_set]; omega)) (by first | omega | (simp; omega) | (simp only [List.length_append, List.length_cons, List.length_nil]; omega) | (rw [List.length_set]; omega))) rfl ?_; refine sq_v rfl (v_loadI (k := j) 4 ty_3 rfl rfl rl21 (by first | omega | (simp; omega) | (simp only [List.length_append, List.length_cons, List.length_nil]; omega) | (rw [List.length_set]; omega))) rfl ?_; refine sq_v rfl (v_assign rfl) rfl (sq_end ?_); have hmx := hat.mem _ htm _ (mem_getD (show j < t21.l.length by omega)); have hgx := findI_get hmx; have hgx0 := findI_ge.2 hmx; refine qs_n (wp_sq (sq_v rfl (v_move rfl) rfl (sq_v rfl (v_move rfl) rfl (sq_v rfl (v_move rfl) rfl (sq_v rfl (v_move rfl) rfl (sq_u rfl (x_callv rfl en_63 (fun w s => ct_s_l05Find _ _ _ w (rl.mono (s.get 4 rfl)))) rfl ?_)))))); refine sq_v rfl (v_idxI Tryz.underlying26 ty_3 rfl rfl rv (by first | omega | (simp; omega) | (simp only [List.length_append, List.length_cons, List.length_nil]; omega) | (rw [List.length_set]; omega)) (by first | omega | (simp; omega) | (simp only [List.length_append, List.length_cons, List.length_nil]; omega) | (rw [List.length_set]; omega))) rfl ?_; refine sq_v rfl (v_loadI  4 ty_3 rfl rfl rv (by first | omega | (simp; omega) | (simp only [List.length_append, List.length_cons, List.length_nil]; omega) | (rw [List.length_set]; omega))) rfl ?_; refine sq_x rfl (x_buildS [num ((vs.getD (findI labels (t21.l.getD j 0) : Int).toNat 0))] Tryz.underlying26 ty_3 (by decide) rfl rfl rfl (by decide) (by decide) (by intro v hv; simp at hv; rcases hv with rfl <;> rfl)) rfl ?_; intro v38 h38 (r38 : IntsO [(vs.getD (findI labels (t21.l.getD j 0) : Int).toNat 0)] v38 h38); refine sq_m 1 rfl rfl (m_appI 1 0 Tryz.underlying26 ty_3 rfl rfl rfl rfl qx rfl r38.toR (by first | omega | (simp; omega) | (simp only [List.length_append, List.length_cons, List.length_nil]; omega) | (rw [List.length_set]; omega))) rfl ?_; intro v39 h_r39 r39; refine sq_v rfl (v_assign rfl) rfl (sq_end (qs_bn (qs_n (wp_sq ?_)))); refine sq_v rfl (v_add rfl rfl ((by unfold I64; omega))) rfl ?_; refine sq_v rfl (v_move rfl) rfl (sq_end ?_); exact qs_bk (j + 1, v39, h_r39) ⟨by (try dsimp only); omega, by (try dsimp only); rw [idxAt_step (by omega)]; exact r39⟩ (by simp only; omega) ⟨rfl, rfl, rfl, rfl, rfl, rfl, (by first | rfl | exact ksub rfl (by first | omega | (simp; done) | (simp; omega))), rfl, rfl, rfl, rfl, rfl, rfl, rfl, rfl, rfl, (by first | rfl | exact ksub rfl (by first | omega | (simp; done) | (simp; omega))), trivial⟩ (fun _ s => s.pick [1, 2, 3, 4, 5] (by decide) rfl)
    · refine wp_ex (qs_x (qs_x (qs_bx (qs_n (wp_rj 13 [(0, true), (1, true), (2, true), (3, true), (4, true), (5, true), (6, true), (7, true), (8, true), (9, false), (10, false), (11, false), (12, true)] mixed_ok (by kernel_rfl) (rj_v rfl rfl (v_fieldAddr fd_28_0 ty_24 (by decide) rfl) rfl (rj_v rfl rfl (v_loadNB 3 ty_24 rfl rfl rfl rfl) rfl (rj_v rfl rfl (v_move rfl) rfl (rj_v rfl rfl (v_fieldAddr fd_28_0 ty_24 (by decide) rfl) rfl (rj_v rfl rfl (v_loadNB 3 ty_24 rfl rfl rfl rfl) rfl (rj_v rfl rfl (v_loadNB 1 ty_40 rfl rfl rfl rfl) rfl (rj_v rfl rfl (v_fieldAddr fd_40_1 ty_26 (by decide) rfl) rfl (rj_v rfl rfl (v_loadB 1 ty_26 rfl rfl rfl) rfl (rj_v rfl rfl (v_move rfl) rfl ?_)))))))))))))); rw [List.take_of_length_le (show t21.l.length ≤ j by omega)] at qx; have hidx := hat.idx _ htm; refine rj_u rfl rfl (x_callv rfl en_64 (fun w s => ct_s_l05Offset _ _ _ _ w (rd21.mono (s.get 4 rfl)) (qx.toR.mono (s.get 0 rfl)) (by first | assumption | omega) (by first | assumption | omega) (by first | assumption | omega))) rfl ?_; refine rj_x rfl rfl (x_call rfl en_67 (fun w s => ct_s_l05Get _ _ _ _ _ _ _ _ w (by first | assumption | omega) (rx21.mono (s.get 4 rfl)) (by first | assumption | omega) (by first | assumption | omega) (by first | assumption | omega))) rfl ?_; rintro v51 h51 r51; refine rj_x rfl rfl (x_call rfl en_101 (fun w s => ct_s_l02Mul _ _ _ _ _ _ _ w (by first | assumption | omega) (q.toR.mono (s.get 3 rfl)) (r51.toR.mono (s.get 0 rfl)) (by first | assumption | omega) (by first | assumption | omega))) rfl ?_; rintro v52 h52 r52; refine rj_v rfl rfl (v_assign rfl) rfl (rj_end (qs_bn (qs_n (wp_sq ?_)))); refine sq_v rfl (v_add rfl rfl ((by unfold I64; omega))) rfl ?_; refine sq_v rfl (v_move rfl) rfl (sq_end ?_); exact qs_bk (i + 1, v52, h52) ⟨by (try dsimp only); omega, by (try dsimp only); rw [weight_step ht21]; exact r52⟩ (by simp only; omega) ⟨rfl, rfl, rfl, rfl, (by first | rfl | exact ksub rfl (by first | omega | (simp; done) | (simp; omega))), rfl, rfl, (by first | rfl | exact ksub rfl (by first | omega | (simp; done) | (simp; omega))), trivial⟩ (fun _ s => s.pick [0, 5, 6] (by decide) rfl)
  · refine wp_ex (qs_x (qs_x (qs_bx (qs_n (wp_sc (wp_sq (sq_v rfl (v_move rfl) rfl (sq_v rfl (v_assign rfl) rfl (sq_end (qs_n (wp_rt ?_))))))))))); exact qs_ret1 rfl rfl (fin_t 0 (i := 2) rfl rfl rfl (by rw [List.take_of_length_le (by omega)] at q; exact q))
theorem assign_at {k p n : Int} {ts : List Ten} {op vs : List Int} (h : assignL k p n ts op vs) : AtOK k p n ts (labelsL ts) vs :=
  ⟨h.1.1, h.1.2.2.1, labels_nodup ts 100, fun t ht x hx => net_label h.1 ht hx, fun t ht => assign_idx h ht, by have := h.2.1; rwa [dimsFor, List.length_map] at this, labels_len ts 100, assign_small h⟩
end Go.Proofs.YtdkgaejmgnojhaaGreat
namespace Go.Proofs.YtdkgaejmgnojhaaGreat
set_option maxRecDepth 100000
open Go.RowKit
def digI (ds : List Int) (n : Int) (i : Nat) : Int := n / prodI (ds.drop (i + 1)) % ds.getD i 0
def idxL (ds : List Int) (n : Int) : List Int := (List.range ds.length).map fun i => digI ds n i
theorem idxL_len (ds : List Int) (n : Int) : (idxL ds n).length = ds.length := by simp [idxL]
theorem idxL_get {ds : List Int} {n : Int} {i : Nat} (h : i < ds.length) : (idxL ds n).getD i 0 = digI ds n i := by simp [idxL, List.getD, h]
theorem idxL_zero (ds : List Int) : idxL ds 0 = List.replicate ds.length 0 := by
  apply ext_getD (by simp [idxL_len])
  intro j hj; rw [idxL_len] at hj; rw [idxL_get hj, rep_getD]
  simp [digI]
theorem idxL_in {ds : List Int} (hd : ∀ d ∈ ds, 1 ≤ d) (n : Int) : idxIn ds (idxL ds n) := ⟨idxL_len ds n, fun j hj => by
  rw [idxL_get hj]; have := hd _ (mem_getD hj); exact ⟨Int.emod_nonneg _ (by omega), Int.emod_lt_of_pos _ (by omega)⟩⟩
theorem prod_at {ds : List Int} {i : Nat} (h : i < ds.length) : prodI (ds.drop i) = prodI (ds.drop (i + 1)) * ds.getD i 0 := by
  rw [drop_cons h, prodI_cons, Int.mul_comm]
theorem div_at {ds : List Int} (hd : ∀ d ∈ ds, 1 ≤ d) (n : Int) {i : Nat} (h : i < ds.length) : n / prodI (ds.drop i) = n / prodI (ds.drop (i + 1)) / ds.getD i 0 := by
  rw [prod_at h, ← Int.ediv_ediv_of_nonneg (by have := (prodI_drop hd (i + 1)).1; omega)]
theorem horn_idx {ds : List Int} (hd : ∀ d ∈ ds, 1 ≤ d) {n : Int} (h0 : 0 ≤ n) (h1 : n < prodI ds) : ∀ m, m ≤ ds.length → hornTo ds (idxL ds n) m = n / prodI (ds.drop m)
  | 0, _ => by
    rw [hornTo, List.drop_zero, Int.ediv_eq_zero_of_lt h0 h1]
  | m + 1, hm => by
    rw [hornTo, horn_idx hd h0 h1 m (by omega), idxL_get (by omega), div_at hd n (by omega), digI]; have := Int.ediv_mul_add_emod (n / prodI (ds.drop (m + 1))) (ds.getD m 0)
    omega
theorem offL_idx {ds : List Int} (hd : ∀ d ∈ ds, 1 ≤ d) {n : Int} (h0 : 0 ≤ n) (h1 : n < prodI ds) : offL ds (idxL ds n) = n := by
  rw [offL_end (idxL_len ds n).symm, horn_idx hd h0 h1 _ (Nat.le_refl _), List.drop_length]
  simp [prodI]
theorem mix_down {A B : List Int} {k : Nat} (h : A.length = B.length) (hk : k < A.length) : (mixL A B (k + 1)).set k (B.getD k 0) = mixL A B k := by
  apply ext_getD
  · rw [List.length_set, mix_len h (by omega), mix_len h (by omega)]
  · intro j hj; rw [List.length_set, mix_len h (by omega)] at hj
    by_cases e : j = k
    · subst e; rw [mix_get (by omega) (Nat.le_refl _)]; simp only [List.getD]; rw [List.getElem?_set_self (by rw [mix_len h (by omega)]; omega)]; rfl
    · have hs : ((mixL A B (k + 1)).set k (B.getD k 0)).getD j 0 = (mixL A B (k + 1)).getD j 0 := by simp only [List.getD]; rw [List.getElem?_set_ne (by omega)]
      rw [hs]
      by_cases hj2 : k ≤ j
      · rw [mix_get (by omega) (by omega), mix_get (by omega) hj2]
      · simp only [mixL, List.getD]; rw [List.getElem?_append_left (by simp; omega), List.getElem?_append_left (by simp; omega), List.getElem?_take, List.getElem?_take, if_pos (by omega), if_pos (by omega)]
theorem mix_low {A B : List Int} {k j : Nat} (hk : k ≤ A.length) (hj : j < k) : (mixL A B k).getD j 0 = A.getD j 0 := by
  simp only [mixL, List.getD]; rw [List.getElem?_append_left (by simp; omega), List.getElem?_take, if_pos hj]
theorem mix_full {A B : List Int} {k : Nat} (h : A.length = B.length) (hk : k ≤ A.length) (e : ∀ j, j < k → A.getD j 0 = B.getD j 0) : mixL A B k = B := by
  apply ext_getD (by rw [mix_len h hk, h])
  intro j hj; rw [mix_len h hk] at hj
  by_cases hjk : j < k
  · rw [mix_low hk hjk, e j hjk]
  · rw [mix_get hk (by omega)]
set_option maxHeartbeats 1000000 in
theorem ct_s_l05Index (ds : List Int) (n : Int) (v : Value) (w : World) (r : IntsR ds v (hp w)) (hd : ∀ d ∈ ds, 1 ≤ d ∧ d ≤ 8) (hn : 0 ≤ n ∧ n ≤ 1000000000000) (hl : ds.length ≤ 1000000) :
    Calls Tryz.prog 62 [v, num n].toArray w (Ret w emp (IntsO (idxL ds n))) := by
  have hd1 : ∀ d ∈ ds, 1 ≤ d := fun d h => (hd d h).1; have hil := idxL_len ds n; refine calls_in Tryz.func62 rfl Tryz.ntmps62 rfl (Sat.start w) ?_; have hle0 := r.le; refine wp_sc (wp_sq (sq_v rfl (v_assign rfl) rfl (sq_end (qs_n (wp_sc (wp_sq (sq_v rfl (v_move rfl) rfl (sq_v rfl (v_len Tryz.underlying26 rfl r.sl) rfl ?_)))))))); refine sq_x rfl (x_makeI Tryz.underlying26 ty_3 rfl rfl (by first | omega | (simp; omega) | (simp only [List.length_append, List.length_cons, List.length_nil]; omega) | (rw [List.length_set]; omega)) (by first | omega | (simp; omega) | (simp only [List.length_append, List.length_cons, List.length_nil]; omega) | (rw [List.length_set]; omega)) (by first | omega | (simp; omega) | (simp only [List.length_append, List.length_cons, List.length_nil]; omega) | (rw [List.length_set]; omega))) rfl ?_; intro v9 h9 r9; refine sq_v rfl (v_assign rfl) rfl (sq_end (qs_n (wp_sc (wp_sc (wp_sq (sq_v rfl (v_move rfl) rfl (sq_v rfl (v_len Tryz.underlying26 rfl r.sl) rfl ?_))))))); refine sq_v rfl (v_sub rfl rfl ((by unfold I64; omega))) rfl ?_; refine sq_v rfl (v_assign rfl) rfl (sq_end (qs_n (wp_bl ?_))); refine wp_lp (σ := Nat × Int × PH) (fun z_ => [(0, v), (1, num z_.2.1), (4, .slice none 0 0), (5, v9), (6, num ((z_.1 : Int) - 1))]) (fun z_ => [z_.2.2, hp w]) (fun z_ => z_.1 ≤ ds.length ∧ z_.2.1 = n / prodI (ds.drop z_.1) ∧ IntsO (mixL (List.replicate ds.length 0) (idxL ds n) z_.1) v9 z_.2.2) (fun z_ => z_.1) (ds.length, n, h9) (⟨by (try dsimp only); omega, by (try dsimp only); simp [prodI], by (try dsimp only); rw [mix_end (by simp [idxL_len]) (by simp)]; simpa using r9⟩) ⟨rfl, (by first | rfl | exact ksub rfl (by first | omega | (simp; done) | (simp; omega))), rfl, rfl, (by first | rfl | exact ksub rfl (by first | omega | (simp; done) | (simp; omega))), trivial⟩ (fun _ s => s) ?_; rintro ⟨m, q, g⟩ ⟨hm, hq, q9⟩; dsimp only at hm hq q9 ⊢; have hle_q9 := q9.toR.le; have hpd := (prodI_drop hd1 m).1; have hq0 : 0 ≤ q ∧ q ≤ n := by rw [hq]; exact ⟨Int.ediv_nonneg hn.1 (by omega), Int.ediv_le_self _ hn.1⟩
  have hml : (mixL (List.replicate ds.length 0) (idxL ds n) m).length = ds.length := by rw [mix_len (by simp [idxL_len]) (by simp; omega)]; simp
  have em : ((m : Int) - 1).toNat = m - 1 := by omega
  refine wp_sc (wp_sc (wp_sq (sq_v rfl (v_move rfl) rfl (sq_v rfl (v_geq rfl rfl) rfl (sq_end (qs_n ?_)))))); refine wp_cd rfl (fun c14 => ?_) (fun c14 => ?_)
  · refine wp_sk (qs_n (wp_sc (wp_bl (wp_sc (wp_sq (sq_v rfl (v_move rfl) rfl (sq_v rfl (v_move rfl) rfl (sq_v rfl (v_move rfl) rfl (sq_v rfl (v_move rfl) rfl (sq_v rfl (v_move rfl) rfl ?_)))))))))); refine sq_v rfl (v_idxI Tryz.underlying26 ty_3 rfl rfl r (by first | omega | (simp; omega) | (simp only [List.length_append, List.length_cons, List.length_nil]; omega) | (rw [List.length_set]; omega)) (by first | omega | (simp; omega) | (simp only [List.length_append, List.length_cons, List.length_nil]; omega) | (rw [List.length_set]; omega))) rfl ?_; refine sq_v rfl (v_loadI  1 ty_3 rfl rfl r (by first | omega | (simp; omega) | (simp only [List.length_append, List.length_cons, List.length_nil]; omega) | (rw [List.length_set]; omega))) rfl ?_; have hdm := hd _ (mem_getD (show ((m : Int) - 1).toNat < ds.length by omega)); refine sq_v rfl (v_rem rfl rfl (by omega)) rfl ?_; refine sq_v rfl (v_idxI Tryz.underlying26 ty_3 rfl rfl q9.toR (by first | omega | (simp; omega) | (simp only [List.length_append, List.length_cons, List.length_nil]; omega) | (rw [List.length_set]; omega)) (by first | omega | (simp; omega) | (simp only [List.length_append, List.length_cons, List.length_nil]; omega) | (rw [List.length_set]; omega))) rfl ?_; refine sq_m 0 rfl rfl (m_storeI 0 ty_3 rfl rfl rfl q9 (by first | omega | (simp; omega) | (simp only [List.length_append, List.length_cons, List.length_nil]; omega) | (rw [List.length_set]; omega))) rfl ?_; rintro _ h_q5_9 ⟨rfl, q5_9⟩; refine sq_end (qs_n (wp_sq (sq_v rfl (v_move rfl) rfl (sq_v rfl (v_move rfl) rfl (sq_v rfl (v_move rfl) rfl ?_))))); refine sq_v rfl (v_idxI Tryz.underlying26 ty_3 rfl rfl r (by first | omega | (simp; omega) | (simp only [List.length_append, List.length_cons, List.length_nil]; omega) | (rw [List.length_set]; omega)) (by first | omega | (simp; omega) | (simp only [List.length_append, List.length_cons, List.length_nil]; omega) | (rw [List.length_set]; omega))) rfl ?_; refine sq_v rfl (v_loadI  1 ty_3 rfl rfl r (by first | omega | (simp; omega) | (simp only [List.length_append, List.length_cons, List.length_nil]; omega) | (rw [List.length_set]; omega))) rfl ?_; have hqq : q.tdiv (ds.getD ((m : Int) - 1).toNat 0) = n / prodI (ds.drop (m - 1)) := (by rw [em, Int.tdiv_eq_ediv_of_nonneg hq0.1, div_at hd1 n (show m - 1 < ds.length by omega), hq, show m - 1 + 1 = m by omega]); have hq1 := (prodI_drop hd1 (m - 1)).1; have hq2 : 0 ≤ n / prodI (ds.drop (m - 1)) ∧ n / prodI (ds.drop (m - 1)) ≤ n := ⟨Int.ediv_nonneg hn.1 (by omega), Int.ediv_le_self _ hn.1⟩
    refine sq_v rfl (v_quo rfl rfl (by omega) (by unfold I64; omega)) rfl ?_; refine sq_v rfl (v_assign rfl) rfl (sq_end ?_); have hrr : q.tmod (ds.getD (m - 1) 0) = (idxL ds n).getD (m - 1) 0 := by rw [Int.tmod_eq_emod_of_nonneg hq0.1, idxL_get (by omega), digI, hq, show m - 1 + 1 = m by omega]
    have e := mix_down (A := List.replicate ds.length 0) (B := idxL ds n) (k := m - 1) (by simp [idxL_len]) (by simp; omega); rw [show m - 1 + 1 = m by omega] at e; rw [em, hrr, e] at q5_9; refine qs_bn (qs_n (wp_sq (sq_v rfl (v_move rfl) rfl ?_))); refine sq_v rfl (v_sub rfl rfl ((by unfold I64; omega))) rfl ?_; refine sq_v rfl (v_assign rfl) rfl (sq_end ?_); exact qs_bk (m - 1, q.tdiv (ds.getD ((m : Int) - 1).toNat 0), h_q5_9) ⟨by (try dsimp only); omega, hqq, q5_9⟩ (by simp only; omega) ⟨rfl, (by first | rfl | exact ksub rfl (by first | omega | (simp; done) | (simp; omega))), rfl, rfl, (by first | rfl | exact ksub rfl (by first | omega | (simp; done) | (simp; omega))), trivial⟩ (fun _ s => s)
  · refine wp_ex (qs_x (qs_x (qs_bx (qs_n (wp_sc (wp_sq (sq_v rfl (v_move rfl) rfl (sq_v rfl (v_assign rfl) rfl (sq_end (qs_n (wp_rt ?_))))))))))); exact qs_ret1 rfl rfl (fin_t 0 (i := 1) rfl rfl rfl (by rw [show m = 0 by omega, mix_zero] at q9; exact q9))
theorem div_up {P n : Int} (hP : 1 ≤ P) (_hn : 0 ≤ n) (h : (n + 1) % P = 0) : (n + 1) / P = n / P + 1 := by
  have h1 := Int.ediv_mul_add_emod (n + 1) P; have e : n = (P - 1) + ((n + 1) / P - 1) * P := by rw [Int.sub_mul, Int.one_mul]; omega
  have h2 : n / P = (P - 1) / P + ((n + 1) / P - 1) := by
    conv => lhs; rw [e]
    exact Int.add_mul_ediv_right _ _ (by omega)
  rw [Int.ediv_eq_zero_of_lt (show 0 ≤ P - 1 by omega) (show P - 1 < P by omega)] at h2
  omega
theorem mod_up {x d : Int} (hd : 1 ≤ d) (h : x % d + 1 < d) : (x + 1) % d = x % d + 1 ∧ (x + 1) / d = x / d := by
  have h1 := Int.ediv_mul_add_emod x d; have h0 := Int.emod_nonneg x (show d ≠ 0 by omega); have e : x + 1 = (x % d + 1) + (x / d) * d := by omega
  constructor
  · conv => lhs; rw [e]
    rw [Int.add_mul_emod_self_right, Int.emod_eq_of_lt (by omega) h]
  · conv => lhs; rw [e]
    rw [Int.add_mul_ediv_right _ _ (by omega), Int.ediv_eq_zero_of_lt (by omega) h]
    omega
theorem mod_over {x d : Int} (hd : 1 ≤ d) (h : d ≤ x % d + 1) : (x + 1) % d = 0 := by
  have h1 := Int.ediv_mul_add_emod x d; have h0 := Int.emod_lt_of_pos x (show 0 < d by omega); have e : x + 1 = (x / d + 1) * d := by rw [Int.add_mul]; omega
  rw [e, Int.mul_emod_left]
theorem dig_yes {ds : List Int} (hd : ∀ d ∈ ds, 1 ≤ d) {n : Int} (hn : 0 ≤ n) {i : Nat} (hi : i < ds.length) (hP : (n + 1) % prodI (ds.drop (i + 1)) = 0) (h : digI ds n i + 1 < ds.getD i 0) :
    digI ds (n + 1) i = digI ds n i + 1 ∧ ∀ t, t ≤ i → (n + 1) / prodI (ds.drop (i - t)) = n / prodI (ds.drop (i - t)) := by
  have hp := (prodI_drop hd (i + 1)).1; have hdi := hd _ (mem_getD hi); have h1 := div_up hp hn hP; have h2 := mod_up hdi h; refine ⟨by unfold digI; rw [h1]; exact h2.1, fun t => ?_⟩
  induction t with
  | zero => intro _; rw [Nat.sub_zero, div_at hd _ hi, div_at hd _ hi, h1]; exact h2.2
  | succ t ih =>
    intro ht; rw [div_at hd (n + 1) (show i - (t + 1) < ds.length by omega), div_at hd n (show i - (t + 1) < ds.length by omega), show i - (t + 1) + 1 = i - t by omega, ih (by omega)]
theorem dig_same {ds : List Int} (hd : ∀ d ∈ ds, 1 ≤ d) {n : Int} (hn : 0 ≤ n) {i : Nat} (hi : i < ds.length) (hP : (n + 1) % prodI (ds.drop (i + 1)) = 0) (h : digI ds n i + 1 < ds.getD i 0) (j : Nat) (hj : j < i) : digI ds n j = digI ds (n + 1) j := by
  have := (dig_yes hd hn hi hP h).2 (i - (j + 1)) (by omega); rw [show i - (i - (j + 1)) = j + 1 by omega] at this
  unfold digI
  rw [this]
theorem dig_lt {ds : List Int} (hd : ∀ d ∈ ds, 1 ≤ d) {n : Int} (hn : 0 ≤ n) (h1 : n < prodI ds) {i : Nat} (hi : i < ds.length) (hP : (n + 1) % prodI (ds.drop (i + 1)) = 0) (h : digI ds n i + 1 < ds.getD i 0) : n + 1 < prodI ds := by
  have := (dig_yes hd hn hi hP h).2 i (Nat.le_refl i); rw [Nat.sub_self, List.drop_zero, Int.ediv_eq_zero_of_lt hn h1] at this; have hp := prodI_one hd
  by_cases e : n + 1 < prodI ds
  · exact e
  · have := (Int.le_ediv_iff_mul_le (show 0 < prodI ds by omega) (a := 1) (b := n + 1)).2 (by omega)
    omega
theorem dig_no {ds : List Int} (hd : ∀ d ∈ ds, 1 ≤ d) {n : Int} (hn : 0 ≤ n) {i : Nat} (hi : i < ds.length) (hP : (n + 1) % prodI (ds.drop (i + 1)) = 0) (h : ¬ digI ds n i + 1 < ds.getD i 0) :
    digI ds (n + 1) i = 0 ∧ (n + 1) % prodI (ds.drop i) = 0 := by
  have hp := (prodI_drop hd (i + 1)).1; have hdi := hd _ (mem_getD hi); have h1 := div_up hp hn hP; have h2 := mod_over hdi (x := n / prodI (ds.drop (i + 1))) (by unfold digI at h; omega); rw [← h1] at h2; refine ⟨h2, ?_⟩; have a := Int.dvd_of_emod_eq_zero h2; have e := Int.ediv_mul_add_emod (n + 1) (prodI (ds.drop (i + 1))); rw [hP] at e; have : prodI (ds.drop (i + 1)) * ds.getD i 0 ∣ prodI (ds.drop (i + 1)) * ((n + 1) / prodI (ds.drop (i + 1))) := Int.mul_dvd_mul_left _ a; rw [← prod_at hi, Int.mul_comm (prodI (ds.drop (i + 1))), show (n + 1) / prodI (ds.drop (i + 1)) * prodI (ds.drop (i + 1)) = n + 1 by omega] at this; exact Int.emod_eq_zero_of_dvd this
theorem idx_yes {ds : List Int} (hd : ∀ d ∈ ds, 1 ≤ d) {n : Int} (hn : 0 ≤ n) {m : Nat} (h1 : 1 ≤ m) (hm : m ≤ ds.length) (hP : (n + 1) % prodI (ds.drop m) = 0) (h : digI ds n (m - 1) + 1 < ds.getD (m - 1) 0) :
    (mixL (idxL ds n) (idxL ds (n + 1)) m).set (m - 1) (digI ds n (m - 1) + 1) = idxL ds (n + 1) := by
  obtain ⟨k, rfl⟩ : ∃ k, m = k + 1 := ⟨m - 1, by omega⟩
  rw [Nat.add_sub_cancel] at h ⊢; have hl1 := idxL_len ds n; have hl2 := idxL_len ds (n + 1); have hy := dig_yes hd hn (show k < ds.length by omega) hP h; rw [← hy.1, ← idxL_get (show k < ds.length by omega), mix_down (by omega) (by omega)]; refine mix_full (by omega) (by omega) fun j hj => ?_; rw [idxL_get (by omega), idxL_get (by omega)]; exact dig_same hd hn (show k < ds.length by omega) hP h j hj
theorem idx_no {ds : List Int} (hd : ∀ d ∈ ds, 1 ≤ d) {n : Int} (hn : 0 ≤ n) {m : Nat} (h1 : 1 ≤ m) (hm : m ≤ ds.length) (hP : (n + 1) % prodI (ds.drop m) = 0) (h : ¬ digI ds n (m - 1) + 1 < ds.getD (m - 1) 0) :
    (mixL (idxL ds n) (idxL ds (n + 1)) m).set (m - 1) 0 = mixL (idxL ds n) (idxL ds (n + 1)) (m - 1) ∧ (n + 1) % prodI (ds.drop (m - 1)) = 0 := by
  obtain ⟨k, rfl⟩ : ∃ k, m = k + 1 := ⟨m - 1, by omega⟩
  rw [Nat.add_sub_cancel] at h ⊢; have hl1 := idxL_len ds n; have hl2 := idxL_len ds (n + 1); have hy := dig_no hd hn (show k < ds.length by omega) hP h; refine ⟨?_, hy.2⟩; rw [← mix_down (A := idxL ds n) (B := idxL ds (n + 1)) (k := k) (by omega) (by omega), idxL_get (show k < ds.length by omega), hy.1]
theorem idx_end {P n : Int} (hn : 0 ≤ n) (_h1 : n < P) (h : (n + 1) % P = 0) : ¬ n + 1 < P := fun hlt => by
  rw [Int.emod_eq_of_lt (by omega) hlt] at h
  omega
set_option maxHeartbeats 1000000 in
theorem ct_i_nextIndex (ds : List Int) (n : Int) (u v : Value) (w : World) (h : PH) (hle : PLe h (hp w)) (r : IntsR ds u (restP w h)) (ri : IntsO (idxL ds n) v h) (hd : ∀ d ∈ ds, 1 ≤ d ∧ d ≤ 8) (hn : 0 ≤ n ∧ n < prodI ds) (hl : ds.length ≤ 1000000) :
    Calls Tryz.prog 77 [u, v].toArray w (Ret w h (fun x h' => x = .bool (decide (n + 1 < prodI ds)) ∧ IntsO (idxL ds (n + 1)) v h')) := by
  have hd1 : ∀ d ∈ ds, 1 ≤ d := fun d h => (hd d h).1; have hil := idxL_len ds n; have hil2 := idxL_len ds (n + 1); refine calls_in Tryz.func77 rfl Tryz.ntmps77 rfl (Sat.start2 hle) ?_; have hle0 := r.le; have hle1 := ri.toR.le; refine wp_sc (wp_sq (sq_v rfl (v_assign rfl) rfl (sq_end (qs_n (wp_sc (wp_sc (wp_sq (sq_v rfl (v_move rfl) rfl (sq_v rfl (v_len Tryz.underlying26 rfl r.sl) rfl ?_))))))))); refine sq_v rfl (v_sub rfl rfl ((by unfold I64; omega))) rfl ?_; refine sq_v rfl (v_assign rfl) rfl (sq_end (qs_n (wp_bl ?_))); refine wp_lp (σ := Nat × PH) (fun z_ => [(0, u), (1, v), (4, .bool false), (5, num ((z_.1 : Int) - 1))]) (fun z_ => [z_.2, (restP w h)]) (fun z_ => z_.1 ≤ ds.length ∧ (n + 1) % prodI (ds.drop z_.1) = 0 ∧ IntsO (mixL (idxL ds n) (idxL ds (n + 1)) z_.1) v z_.2) (fun z_ => z_.1) (ds.length, h) (⟨by (try dsimp only); omega, by (try dsimp only); simp [prodI, Int.emod_one], by (try dsimp only); rw [mix_end (by omega) (by omega)]; exact ri⟩) ⟨rfl, rfl, rfl, (by first | rfl | exact ksub rfl (by first | omega | (simp; done) | (simp; omega))), trivial⟩ (fun _ s => s) ?_; rintro ⟨m, g⟩ ⟨hm, hP, q⟩; dsimp only at hm hP q ⊢; have hle_q := q.toR.le; have hml := mix_len (A := idxL ds n) (B := idxL ds (n + 1)) (k := m) (by omega) (by omega); have em : ((m : Int) - 1).toNat = m - 1 := by omega
  refine wp_sc (wp_sc (wp_sq (sq_v rfl (v_move rfl) rfl (sq_v rfl (v_geq rfl rfl) rfl (sq_end (qs_n ?_)))))); refine wp_cd rfl (fun c10 => ?_) (fun c10 => ?_)
  · refine wp_sk (qs_n (wp_sc (wp_bl (wp_sc (wp_sq (sq_v rfl (v_move rfl) rfl (sq_v rfl (v_move rfl) rfl ?_))))))); have hk : m - 1 < ds.length := (by omega); have hdm := hd _ (mem_getD hk); have hlow : (mixL (idxL ds n) (idxL ds (n + 1)) m).getD ((m : Int) - 1).toNat 0 = digI ds n (m - 1) := (by rw [em, mix_low (by omega) (by omega), idxL_get hk]); have hdg := (idxL_in hd1 n).2 (m - 1) hk; rw [idxL_get hk] at hdg; refine sq_v rfl (v_idxI Tryz.underlying26 ty_3 rfl rfl q.toR (by first | omega | (simp; omega) | (simp only [List.length_append, List.length_cons, List.length_nil]; omega) | (rw [List.length_set]; omega)) (by first | omega | (simp; omega) | (simp only [List.length_append, List.length_cons, List.length_nil]; omega) | (rw [List.length_set]; omega))) rfl ?_; refine sq_v rfl (v_loadI  0 ty_3 rfl rfl q.toR (by first | omega | (simp; omega) | (simp only [List.length_append, List.length_cons, List.length_nil]; omega) | (rw [List.length_set]; omega))) rfl ?_; refine sq_v rfl (v_add rfl rfl ((by unfold I64; omega))) rfl ?_; refine sq_v rfl (v_idxI Tryz.underlying26 ty_3 rfl rfl q.toR (by first | omega | (simp; omega) | (simp only [List.length_append, List.length_cons, List.length_nil]; omega) | (rw [List.length_set]; omega)) (by first | omega | (simp; omega) | (simp only [List.length_append, List.length_cons, List.length_nil]; omega) | (rw [List.length_set]; omega))) rfl ?_; refine sq_m 0 rfl rfl (m_storeI 0 ty_3 rfl rfl rfl q (by first | omega | (simp; omega) | (simp only [List.length_append, List.length_cons, List.length_nil]; omega) | (rw [List.length_set]; omega))) rfl ?_; rintro _ h_q4_6 ⟨rfl, q4_6⟩; refine sq_end ?_; rw [hlow, em] at q4_6; refine qs_n (wp_sc (wp_sc (wp_rj 9 [(0, true), (1, true), (2, true), (3, true), (4, true), (5, true), (6, true), (7, true), (8, true)] mixed_ok (by kernel_rfl) (rj_v rfl rfl (v_move rfl) rfl (rj_v rfl rfl (v_move rfl) rfl ?_))))); refine rj_v rfl rfl (v_idxI Tryz.underlying26 ty_3 rfl rfl q4_6.toR (by first | omega | (simp; omega) | (simp only [List.length_append, List.length_cons, List.length_nil]; omega) | (rw [List.length_set]; omega)) (by first | omega | (simp; omega) | (simp only [List.length_append, List.length_cons, List.length_nil]; omega) | (rw [List.length_set]; omega))) rfl ?_; refine rj_v rfl rfl (v_loadI  0 ty_3 rfl rfl q4_6.toR (by first | omega | (simp; omega) | (simp only [List.length_append, List.length_cons, List.length_nil]; omega) | (rw [List.length_set]; omega))) rfl ?_; refine rj_v rfl rfl (v_move rfl) rfl (rj_v rfl rfl (v_move rfl) rfl ?_); refine rj_v rfl rfl (v_idxI Tryz.underlying26 ty_3 rfl rfl r (by first | omega | (simp; omega) | (simp only [List.length_append, List.length_cons, List.length_nil]; omega) | (rw [List.length_set]; omega)) (by first | omega | (simp; omega) | (simp only [List.length_append, List.length_cons, List.length_nil]; omega) | (rw [List.length_set]; omega))) rfl ?_; refine rj_v rfl rfl (v_loadI  1 ty_3 rfl rfl r (by first | omega | (simp; omega) | (simp only [List.length_append, List.length_cons, List.length_nil]; omega) | (rw [List.length_set]; omega))) rfl ?_; refine rj_v rfl rfl (v_lss rfl rfl) rfl (rj_end ?_); have hg4 : ((mixL (idxL ds n) (idxL ds (n + 1)) m).set (m - 1) (digI ds n (m - 1) + 1)).getD ((m : Int) - 1).toNat 0 = digI ds n (m - 1) + 1 := by rw [em]; simp only [List.getD]; rw [List.getElem?_set_self (by omega)]; rfl
    have hc : (((mixL (idxL ds n) (idxL ds (n + 1)) m).set (m - 1) (digI ds n (m - 1) + 1)).getD ((m : Int) - 1).toNat 0 < ds.getD ((m : Int) - 1).toNat 0) ↔ digI ds n (m - 1) + 1 < ds.getD (m - 1) 0 := by rw [hg4, em]
    refine qs_n ?_; refine wp_cd rfl (fun c27 => ?_) (fun c27 => ?_)
    · refine wp_sc (wp_sq (sq_v rfl (v_assign rfl) rfl (sq_end (qs_n (wp_rt (qs_r (qs_br (qs_r (qs_r (qs_br (qs_r ?_))))))))))); exact qs_ret1 rfl rfl (fin_m 0 (i := 1) rfl rfl rfl (⟨by rw [decide_eq_true (dig_lt hd1 hn.1 hn.2 hk (by rw [show m - 1 + 1 = m by omega]; exact hP) (hc.1 c27))], by rw [← idx_yes hd1 hn.1 (by omega) hm hP (hc.1 c27)]; exact q4_6⟩))
    · refine wp_sk (qs_n (wp_sq (sq_v rfl (v_move rfl) rfl (sq_v rfl (v_move rfl) rfl ?_)))); refine sq_v rfl (v_idxI Tryz.underlying26 ty_3 rfl rfl q4_6.toR (by first | omega | (simp; omega) | (simp only [List.length_append, List.length_cons, List.length_nil]; omega) | (rw [List.length_set]; omega)) (by first | omega | (simp; omega) | (simp only [List.length_append, List.length_cons, List.length_nil]; omega) | (rw [List.length_set]; omega))) rfl ?_; refine sq_m 0 rfl rfl (m_storeI 0 ty_3 rfl rfl rfl q4_6 (by first | omega | (simp; omega) | (simp only [List.length_append, List.length_cons, List.length_nil]; omega) | (rw [List.length_set]; omega))) rfl ?_; rintro _ h_q7_3 ⟨rfl, q7_3⟩; refine sq_end ?_; have hno := idx_no hd1 hn.1 (show 1 ≤ m by omega) hm hP (fun h => c27 (hc.2 h)); rw [em, List.set_set, hno.1] at q7_3; refine qs_bn (qs_n (wp_sq (sq_v rfl (v_move rfl) rfl ?_))); refine sq_v rfl (v_sub rfl rfl ((by unfold I64; omega))) rfl ?_; refine sq_v rfl (v_assign rfl) rfl (sq_end ?_); exact qs_bk (m - 1, h_q7_3) ⟨by (try dsimp only); omega, hno.2, q7_3⟩ (by simp only; omega) ⟨rfl, rfl, rfl, (by first | rfl | exact ksub rfl (by first | omega | (simp; done) | (simp; omega))), trivial⟩ (fun _ s => s)
  · refine wp_ex (qs_x (qs_x (qs_bx (qs_n (wp_sc (wp_sq (sq_v rfl (v_assign rfl) rfl (sq_end (qs_n (wp_rt ?_)))))))))); exact qs_ret1 rfl rfl (fin_m 0 (i := 1) rfl rfl rfl (⟨by rw [show m = 0 by omega, List.drop_zero] at hP; rw [decide_eq_false (idx_end hn.1 hn.2 hP)], by rw [show m = 0 by omega, mix_zero] at q; exact q⟩))
end Go.Proofs.YtdkgaejmgnojhaaGreat
namespace Go.Proofs.YtdkgaejmgnojhaaGreat
set_option maxRecDepth 100000
open Go.RowKit

theorem qs_close {n : Nat} {w0 : World} {K : Env} {HS : List PH} {Q : Exit → Act → World → Prop} {e : Exit} (A l : List PH) (hs : ∀ w, Sat w0 HS w → Sat w0 (A ++ l) w) (k : Made (joinP l) l → QS n w0 Q e K (joinP l :: A)) : QS n w0 Q e K HS :=
  fun a w en s => k (hs w s).close.2 a w en (hs w s).close.1
structure OwnL (xss : List (List Int)) (vs : List Value) (hs : List PH) : Prop where
  l1 : vs.length = xss.length
  l2 : hs.length = xss.length
  own : ∀ (i : Nat) (xs : List Int), xss[i]? = some xs → ∃ v h, vs[i]? = some v ∧ hs[i]? = some h ∧ IntsO xs v h
theorem OwnL.nil : OwnL [] [] [] := ⟨rfl, rfl, fun i xs h => by simp at h⟩
theorem OwnL.append {xss yss : List (List Int)} {vs us : List Value} {hs gs : List PH} (a : OwnL xss vs hs) (b : OwnL yss us gs) : OwnL (xss ++ yss) (vs ++ us) (hs ++ gs) := by
  refine ⟨by simp [a.l1, b.l1], by simp [a.l2, b.l2], fun i xs h => ?_⟩
  by_cases hi : i < xss.length
  · rw [List.getElem?_append_left hi] at h; rw [List.getElem?_append_left (by rw [a.l1]; exact hi), List.getElem?_append_left (by rw [a.l2]; exact hi)]; exact a.own i xs h
  · rw [List.getElem?_append_right (by omega)] at h; rw [List.getElem?_append_right (by rw [a.l1]; omega), List.getElem?_append_right (by rw [a.l2]; omega), a.l1, a.l2]; exact b.own _ xs h
theorem OwnL.three {l d x : List Int} {a b c : Value} {h1 h2 h3 : PH} (r1 : IntsO l a h1) (r2 : IntsO d b h2) (r3 : IntsO x c h3) : OwnL [l, d, x] [a, b, c] [h1, h2, h3] := by
  refine ⟨rfl, rfl, fun i xs h => ?_⟩
  match i, h with
  | 0, h => cases h; exact ⟨a, h1, rfl, rfl, r1⟩
  | 1, h => cases h; exact ⟨b, h2, rfl, rfl, r2⟩
  | 2, h => cases h; exact ⟨c, h3, rfl, rfl, r3⟩
  | i + 3, h => simp at h
theorem OwnL.set {xss : List (List Int)} {vs : List Value} {hs : List PH} (a : OwnL xss vs hs) {i : Nat} {v : Value} {ys : List Int} {h' : PH} (hv : vs[i]? = some v) (r : IntsO ys v h') : OwnL (xss.set i ys) vs (hs.set i h') := by
  have hi : i < vs.length := (List.getElem?_eq_some_iff.1 hv).1; refine ⟨by simp [a.l1], by simp [a.l2], fun j xs h => ?_⟩
  by_cases e : j = i
  · subst e; rw [List.getElem?_set_self (by rw [← a.l1]; exact hi)] at h
    cases h
    exact ⟨v, h', hv, List.getElem?_set_self (by rw [a.l2, ← a.l1]; exact hi), r⟩
  · rw [List.getElem?_set_ne (Ne.symm e)] at h; rw [List.getElem?_set_ne (Ne.symm e)]; exact a.own j xs h
def flat (ts : List Ten) : List (List Int) := ts.flatMap fun t => [t.l, t.d, t.x]
theorem flat_append (a b : List Ten) : flat (a ++ b) = flat a ++ flat b := by simp [flat]
theorem flat_len : ∀ ts : List Ten, (flat ts).length = ts.length * 3
  | [] => rfl
  | t :: r => by
    have := flat_len r; simp only [flat, List.flatMap_cons, List.length_append, List.length_cons, List.length_nil] at *
    omega
theorem tens_get : ∀ {ts : List Ten} {i : Nat} {t : Ten}, ts[i]? = some t → (flat ts)[i * 3]? = some t.l ∧ (flat ts)[i * 3 + 1]? = some t.d ∧ (flat ts)[i * 3 + 2]? = some t.x
  | [], i, t, h => by simp at h
  | u :: r, 0, t, h => by cases h; exact ⟨rfl, rfl, rfl⟩
  | u :: r, i + 1, t, h => by
    have := tens_get (ts := r) (i := i) (t := t) (by simpa using h); have e : ∀ j, (flat (u :: r))[(i + 1) * 3 + j]? = (flat r)[i * 3 + j]? := fun j => by
      show (u.l :: u.d :: u.x :: flat r)[(i + 1) * 3 + j]? = _
      rw [show (i + 1) * 3 + j = i * 3 + j + 1 + 1 + 1 by omega]
      simp
    exact ⟨by have := e 0; simp only [Nat.add_zero] at this; rw [this]; simp_all, by rw [e 1]; exact this.2.1, by rw [e 2]; exact this.2.2⟩
/-- Tensors that own their parts. -/
def TensO (ts : List Ten) (v : Value) (h : PH) : Prop := ∃ vs h0 hs, RowO 40 vs ts.length 3 v h0 ∧ OwnL (flat ts) vs hs ∧ Made h (h0 :: hs)
theorem three_at {vs : List Value} {i : Nat} {a b c : Value} (h0 : vs[i * 3]? = some a) (h1 : vs[i * 3 + 1]? = some b) (h2 : vs[i * 3 + 2]? = some c) : (vs.drop (i * 3)).take 3 = [a, b, c] := by
  apply List.ext_getElem?
  intro j; rw [List.getElem?_take]
  match j with
  | 0 => simpa using h0
  | 1 => simpa using h1
  | 2 => simpa using h2
  | j + 3 => rw [if_neg (by omega)]; simp
theorem OwnL.tens {ts : List Ten} {vs : List Value} {v : Value} {h : PH} {hs : List PH} (r0 : RowR vs ts.length 3 v h) (o : OwnL (flat ts) vs hs) (hle : ∀ x ∈ hs, PLe x h) : TensR ts v h := by
  refine ⟨vs, r0, fun i t ht => ?_⟩; obtain ⟨f1, f2, f3⟩ := tens_get ht; obtain ⟨a, h1, e1, g1, r1⟩ := o.own _ _ f1; obtain ⟨b, h2, e2, g2, r2⟩ := o.own _ _ f2; obtain ⟨c, h3, e3, g3, r3⟩ := o.own _ _ f3; exact ⟨a, b, c, three_at e1 e2 e3, r1.toR.mono (hle _ (List.mem_of_getElem? g1)), r2.toR.mono (hle _ (List.mem_of_getElem? g2)), r3.toR.mono (hle _ (List.mem_of_getElem? g3))⟩
theorem TensO.toR {ts : List Ten} {v : Value} {h : PH} (r : TensO ts v h) : TensR ts v h := by
  obtain ⟨vs, h0, hs, r0, o, m⟩ := r; exact OwnL.tens (r0.toR.mono (m.le h0 (by simp))) o (fun x hx => m.le x (by simp [hx]))
/-- A network that owns its parts. -/
def NetO (ts : List Ten) (op : List Int) (vt vo : Value) (h : PH) : Prop := ∃ vs h0 ho hs, RowO 40 vs ts.length 3 vt h0 ∧ IntsO op vo ho ∧ OwnL (flat ts) vs hs ∧ Made h (h0 :: ho :: hs)
theorem NetO.toR {ts : List Ten} {op : List Int} {vt vo : Value} {h : PH} (r : NetO ts op vt vo h) : TensR ts vt h ∧ IntsR op vo h := by
  obtain ⟨vs, h0, ho, hs, r0, r1, o, m⟩ := r; exact ⟨OwnL.tens (r0.toR.mono (m.le h0 (by simp))) o (fun x hx => m.le x (by simp [hx])), r1.toR.mono (m.le ho (by simp))⟩
end Go.Proofs.YtdkgaejmgnojhaaGreat
namespace Go.Proofs.YtdkgaejmgnojhaaGreat
set_option maxRecDepth 100000
open Go.RowKit

theorem iota_held (k : Int) (m : Nat) : iota k m = iota k (iota k m).length := by rw [iota_len]
end Go.Proofs.YtdkgaejmgnojhaaGreat
namespace Go.Proofs.YtdkgaejmgnojhaaGreat
set_option maxRecDepth 100000
open Go.RowKit
section
variable {P : Program} {n : Nat} {w0 : World} {K : Env} {HS : List PH} {d : Option Tmp} {ty : TypeId} {ps : String} {af : Array Edge} {g : Option (Nat × Bool)}
theorem v_eqls {t t' : TypeId} {x y : Operand} {k : IntKind} {a : Int} (hx : ev K x = some (.int k a)) (hy : ev K y = some (.int k a)) : StepV P n w0 K HS ⟨d, .binOp .eql t x y t', ty, ps, af, g⟩ (.bool true) := by
  have := v_eql (P := P) (n := n) (w0 := w0) (HS := HS) (d := d) (t := t) (t' := t') (ty := ty) (ps := ps) (af := af) (g := g) hx hy
  simpa using this
theorem v_neqs {t t' : TypeId} {x y : Operand} {k : IntKind} {a : Int} (hx : ev K x = some (.int k a)) (hy : ev K y = some (.int k a)) : StepV P n w0 K HS ⟨d, .binOp .neq t x y t', ty, ps, af, g⟩ (.bool false) := by
  have := v_neq (P := P) (n := n) (w0 := w0) (HS := HS) (d := d) (t := t) (t' := t') (ty := ty) (ps := ps) (af := af) (g := g) hx hy
  simpa using this
theorem v_eqlsb {t t' : TypeId} {x y : Operand} {a : Bool} (ht : P.underlying t = some .bool) (hx : ev K x = some (.bool a)) (hy : ev K y = some (.bool a)) : StepV P n w0 K HS ⟨d, .binOp .eql t x y t', ty, ps, af, g⟩ (.bool true) := by
  have := v_eqlb (P := P) (n := n) (w0 := w0) (HS := HS) (d := d) (t := t) (t' := t') (ty := ty) (ps := ps) (af := af) (g := g) ht hx hy
  simpa using this
theorem v_neqsb {t t' : TypeId} {x y : Operand} {a : Bool} (ht : P.underlying t = some .bool) (hx : ev K x = some (.bool a)) (hy : ev K y = some (.bool a)) : StepV P n w0 K HS ⟨d, .binOp .neq t x y t', ty, ps, af, g⟩ (.bool false) := by
  have := v_neqb (P := P) (n := n) (w0 := w0) (HS := HS) (d := d) (t := t) (t' := t') (ty := ty) (ps := ps) (af := af) (g := g) ht hx hy
  simpa using this
end
/-- A network that owns its parts, as a call returns it. -/
def NetT (k p n : Int) (ts : List Ten) (op : List Int) (u : Value) (h : PH) : Prop := ∃ vt vo, u = netV k p n vt vo ∧ NetO ts op vt vo h
def TriO (t : Ten) (a b c : Value) (h : PH) : Prop := ∃ h1 h2 h3, IntsO t.l a h1 ∧ IntsO t.d b h2 ∧ IntsO t.x c h3 ∧ Made h [h1, h2, h3]
theorem TriO.toR {t : Ten} {a b c : Value} {h : PH} (r : TriO t a b c h) : IntsR t.l a h ∧ IntsR t.d b h ∧ IntsR t.x c h := by
  obtain ⟨h1, h2, h3, r1, r2, r3, m⟩ := r; exact ⟨r1.toR.mono (m.le h1 (by simp)), r2.toR.mono (m.le h2 (by simp)), r3.toR.mono (m.le h3 (by simp))⟩
def TenT (t : Ten) (u : Value) (h : PH) : Prop := ∃ a b c, u = tenV a b c ∧ TriO t a b c h
end Go.Proofs.YtdkgaejmgnojhaaGreat
namespace Go.Proofs.YtdkgaejmgnojhaaGreat
set_option maxRecDepth 100000
open Go.RowKit
def setP (xs ys : List Int) (j : Nat) : Prop := ys.getD j 0 ∈ xs ∧ ys.getD j 0 ∉ ys.take j
def setL (xs ys : List Int) : Prop := xs.length = ys.length ∧ ∀ j, j < ys.length → setP xs ys j
open Classical in
noncomputable def setB (xs ys : List Int) : Bool := decide (setL xs ys)
theorem setB_no {xs ys : List Int} (h : ¬ setL xs ys) : Value.bool false = .bool (setB xs ys) := by simp [setB, h]
theorem setB_yes {xs ys : List Int} (h : setL xs ys) : Value.bool true = .bool (setB xs ys) := by simp [setB, h]
theorem setB_true {xs ys : List Int} : setB xs ys = true ↔ setL xs ys := by simp [setB]
theorem setB_false {xs ys : List Int} : setB xs ys = false ↔ ¬ setL xs ys := by simp [setB]
theorem ct_i_sameLabels (xs ys : List Int) (v u : Value) (w : World) (r : IntsR xs v (hp w)) (r' : IntsR ys u (hp w)) : Calls Tryz.prog 106 [v, u].toArray w (RetV w (.bool (setB xs ys))) := by
  refine calls_in Tryz.func106 rfl Tryz.ntmps106 rfl (Sat.start w) ?_; have hle0 := r.le; have hle1 := r'.le; refine wp_sc (wp_sq (sq_v rfl (v_assign rfl) rfl (sq_end (qs_n (wp_sc (wp_sc (wp_sq (sq_v rfl (v_move rfl) rfl (sq_v rfl (v_len Tryz.underlying26 rfl r'.sl) rfl (sq_v rfl (v_move rfl) rfl (sq_v rfl (v_len Tryz.underlying26 rfl r.sl) rfl (sq_v rfl (v_neq rfl rfl) rfl (sq_end (qs_n ?_)))))))))))))); refine wp_cd rfl (fun c11 => ?_) (fun c11 => ?_)
  · refine wp_sc (wp_sq (sq_v rfl (v_assign rfl) rfl (sq_end (qs_n (wp_rt (qs_r ?_)))))); exact qs_ret1 rfl rfl (fin_q (i := 0) rfl (setB_no (fun h => by have := h.1; omega)))
  · refine wp_sk (qs_n (wp_sc (wp_sc (wp_sq (sq_v rfl (v_move rfl) rfl (sq_v rfl (v_len Tryz.underlying26 rfl r'.sl) rfl (sq_v rfl (v_move rfl) rfl (sq_end (qs_n (wp_bl ?_)))))))))); refine wp_lp (σ := Nat) (fun z_ => [(0, v), (1, u), (4, .bool false), (12, u), (13, num ys.length), (14, num z_)]) (fun z_ => [hp w]) (fun z_ => z_ ≤ ys.length ∧ (∀ j, j < z_ → setP xs ys j)) (fun z_ => ys.length - z_) 0 (⟨by omega, fun j hj => by omega⟩) ⟨rfl, rfl, rfl, rfl, rfl, (by first | rfl | exact ksub rfl (by first | omega | (simp; done) | (simp; omega))), trivial⟩ (fun _ s => s) ?_; rintro i ⟨hi, hv⟩; refine wp_sc (wp_sq (sq_v rfl (v_lss rfl rfl) rfl (sq_end (qs_n (wp_sc ?_))))); refine wp_cd rfl (fun c15 => ?_) (fun c15 => ?_)
    · refine wp_sk (qs_n (wp_sc (wp_bl (wp_sc (wp_sq (sq_v rfl (v_move rfl) rfl ?_)))))); refine sq_v rfl (v_idxI Tryz.underlying26 ty_3 rfl rfl r' (by first | omega | (simp; omega) | (simp only [List.length_append, List.length_cons, List.length_nil]; omega) | (rw [List.length_set]; omega)) (by first | omega | (simp; omega) | (simp only [List.length_append, List.length_cons, List.length_nil]; omega) | (rw [List.length_set]; omega))) rfl ?_; refine sq_v rfl (v_loadI (k := i) 0 ty_3 rfl rfl r' (by first | omega | (simp; omega) | (simp only [List.length_append, List.length_cons, List.length_nil]; omega) | (rw [List.length_set]; omega))) rfl ?_; refine sq_v rfl (v_assign rfl) rfl (sq_v rfl (v_assign rfl) rfl (sq_end (qs_n (wp_sc (wp_sq (sq_v rfl (v_move rfl) rfl (sq_v rfl (v_move rfl) rfl (sq_v rfl (v_sliceH Tryz.underlying26 ty_3 rfl rfl  r' (by omega) (by omega)) rfl (sq_v rfl (v_move rfl) rfl (sq_u rfl (x_callv rfl en_23 (fun w s => ct_i_hasInt _ _ _ w ((r'.subH (hi := i) (by omega)).mono (s.get 0 rfl)))) rfl ?_)))))))))); refine sq_bd 23 rfl (fun c23 => ?_) (fun c23 => ?_)
      · refine sq_v rfl (v_move rfl) rfl (sq_s rfl rfl (sq_s rfl rfl (sq_s rfl rfl (sq_s rfl rfl (sq_v rfl (v_pickt rfl rfl) rfl (sq_end (qs_n (wp_ct rfl (wp_sc (wp_sq (sq_v rfl (v_assign rfl) rfl (sq_end (qs_n (wp_rt (qs_br (qs_r (qs_r (qs_br (qs_r ?_))))))))))))))))))); exact qs_ret1 rfl rfl (fin_q (i := 0) rfl (setB_no (fun h => by have h1 := h.2 i (by omega); first | exact h1.2 c23 | exact c29 h1.1)))
      · refine sq_v rfl (v_move rfl) rfl (sq_v rfl (v_move rfl) rfl (sq_v rfl (v_move rfl) rfl (sq_u rfl (x_callv rfl en_23 (fun w s => ct_i_hasInt _ _ _ w (r.mono (s.get 0 rfl)))) rfl (sq_v rfl (v_not rfl) rfl (sq_v rfl (v_pickf rfl rfl) rfl (sq_end (qs_n ?_))))))); refine wp_cnd rfl (fun c29 => ?_) (fun c29 => ?_)
        · refine wp_sc (wp_sq (sq_v rfl (v_assign rfl) rfl (sq_end (qs_n (wp_rt (qs_br (qs_r (qs_r (qs_br (qs_r ?_)))))))))); exact qs_ret1 rfl rfl (fin_q (i := 0) rfl (setB_no (fun h => by have h1 := h.2 i (by omega); first | exact h1.2 c23 | exact c29 h1.1)))
        · refine wp_sk (qs_bn (qs_n (wp_sq ?_))); refine sq_v rfl (v_add rfl rfl ((by unfold I64; omega))) rfl ?_; refine sq_v rfl (v_move rfl) rfl (sq_end ?_); exact qs_bk (i + 1) ⟨by omega, step_all hv ⟨c29, c23⟩⟩ (by omega) ⟨rfl, rfl, rfl, rfl, rfl, (by first | rfl | exact ksub rfl (by first | omega | (simp; done) | (simp; omega))), trivial⟩ (fun _ s => s)
    · refine wp_ex (qs_x (qs_x (qs_bx (qs_n (wp_sc (wp_sq (sq_v rfl (v_assign rfl) rfl (sq_end (qs_n (wp_rt ?_)))))))))); exact qs_ret1 rfl rfl (fin_q (i := 0) rfl (setB_yes ⟨by omega, fun j hj => hv j (by omega)⟩))
theorem nodup_of {ys : List Int} (h : ∀ j, j < ys.length → ys.getD j 0 ∉ ys.take j) : ys.Nodup := by
  rw [List.Nodup, List.pairwise_iff_getElem]; intro i j hi hj hij e; refine h j hj ?_; simp only [List.getD, List.getElem?_eq_getElem hj, Option.getD_some]; rw [← e]; exact List.mem_iff_getElem.2 ⟨i, by simp; omega, by simp⟩
theorem perm_of : ∀ {xs ys : List Int}, xs.Nodup → (∀ x ∈ xs, x ∈ ys) → ys.length ≤ xs.length → xs.Perm ys
  | [], ys, _, _, hl => by
    have : ys = [] := List.eq_nil_of_length_eq_zero (by simpa using hl); rw [this]
  | x :: xs, ys, hn, hs, hl => by
    have hx := hs x (by simp); have hp := List.perm_cons_erase hx; have hnx := List.nodup_cons.1 hn; refine (List.Perm.cons x (perm_of hnx.2 (fun y hy => ?_) ?_)).trans hp.symm
    · exact (List.mem_erase_of_ne (fun e => hnx.1 (by rw [← e]; exact hy))).2 (hs y (by simp [hy]))
    · have := List.length_erase_of_mem hx; simp only [List.length_cons] at hl
      omega
theorem setL_perm {xs ys : List Int} (h : setL xs ys) : ys.Perm xs :=
  perm_of (nodup_of fun j hj => (h.2 j hj).2) (fun y hy => by
    obtain ⟨j, hj, e⟩ := getD_of_mem hy; exact e ▸ (h.2 j hj).1) (by have := h.1; omega)
theorem prodI_perm {a b : List Int} (h : a.Perm b) : prodI a = prodI b := by
  induction h with
  | nil => rfl
  | cons x _ ih => rw [prodI_cons, prodI_cons, ih]
  | swap x y l => rw [prodI_cons, prodI_cons, prodI_cons, prodI_cons, Int.mul_left_comm]
  | trans _ _ h1 h2 => exact h1.trans h2
def permD (t : Ten) (ls : List Int) : List Int := idxAt t.l t.d ls
def permX (wd : Int) (t : Ten) (ls ds : List Int) (m : Nat) : List Int := (List.range m).flatMap fun (i : Nat) => elt t.x wd (offL t.d (idxAt ls (idxL ds i) t.l))
noncomputable def permT (k n : Int) (t : Ten) (ls : List Int) : Ten := ⟨ls, permD t ls, permX (widthI k n) t ls (permD t ls) (prodI (permD t ls)).toNat⟩
theorem permX_step (wd : Int) (t : Ten) (ls ds : List Int) (m : Nat) : permX wd t ls ds (m + 1) = permX wd t ls ds m ++ elt t.x wd (offL t.d (idxAt ls (idxL ds m) t.l)) := by
  simp [permX, List.range_succ]
theorem permD_len (t : Ten) (ls : List Int) : (permD t ls).length = ls.length := List.length_map _
structure PermOK (k p n : Int) (t : Ten) (ls : List Int) : Prop where
  ring : ringL k p n
  ten : tensorL k p n t.l t.d t.x
  perm : ls.Perm t.l
section
variable {k p n : Int} {t : Ten} {ls : List Int}
theorem PermOK.axes (h : PermOK k p n t ls) : axesL t.l t.d := tensor_axes h.ten
theorem PermOK.nodup (h : PermOK k p n t ls) : ls.Nodup := (List.Perm.nodup_iff h.perm).2 (axes_nodup h.axes)
theorem PermOK.len (h : PermOK k p n t ls) : ls.length = t.l.length ∧ t.l.length = t.d.length ∧ ls.length ≤ 12 := by
  have := h.perm.length_eq; have := h.axes; exact ⟨by omega, this.2.1, by have := this.1; omega⟩
theorem PermOK.find (h : PermOK k p n t ls) {j : Nat} (hj : j < ls.length) : 0 ≤ findI t.l (ls.getD j 0) ∧ findI t.l (ls.getD j 0) < t.d.length ∧ t.l.getD (findI t.l (ls.getD j 0)).toNat 0 = ls.getD j 0 := by
  have hm : ls.getD j 0 ∈ t.l := h.perm.mem_iff.1 (mem_getD hj); have h1 := findI_ge.2 hm; have h2 := findI_get hm; have := h.len; exact ⟨h1, by omega, h2.2⟩
theorem PermOK.dims (h : PermOK k p n t ls) : dimsIn (permD t ls) := fun j hj => by
  rw [permD_len] at hj; have hf := h.find hj; rw [permD, idxAt, map_getD hj]; exact axes_dims h.axes _ (by omega)
theorem PermOK.prod (h : PermOK k p n t ls) : prodI (permD t ls) = prodI t.d := by
  have e : t.d = idxAt t.l t.d t.l := by
    apply ext_getD (by simp [idxAt, h.axes.2.1])
    intro j hj; have hj' : j < t.l.length := by rw [h.axes.2.1]; exact hj
    rw [idxAt, map_getD hj', find_at h.axes hj', Int.toNat_natCast]
  conv => rhs; rw [e]
  exact prodI_perm (h.perm.map _)
theorem PermOK.small (h : PermOK k p n t ls) : 1 ≤ prodI (permD t ls) ∧ prodI (permD t ls) ≤ 4096 := by
  refine ⟨prodI_one fun d hd => (dims_mem h.dims d hd).1, ?_⟩; rw [h.prod]; exact (sizeI_ge.1 h.ten.2.1).2
theorem PermOK.back (h : PermOK k p n t ls) {j : Nat} (hj : j < t.l.length) : (findI ls (t.l.getD j 0)).toNat < ls.length ∧ ls.getD (findI ls (t.l.getD j 0)).toNat 0 = t.l.getD j 0 :=
  findI_get (h.perm.mem_iff.2 (mem_getD hj))
theorem PermOK.idx (h : PermOK k p n t ls) (i : Int) : idxIn t.d (idxAt ls (idxL (permD t ls) i) t.l) := by
  have hd : ∀ d ∈ permD t ls, 1 ≤ d := fun d hd => (dims_mem h.dims d hd).1; refine ⟨by simp [idxAt, h.axes.2.1], fun j hj => ?_⟩; have hj' : j < t.l.length := by rw [h.axes.2.1]; exact hj
  have hb := h.back hj'; have hv := (idxL_in hd i).2 (findI ls (t.l.getD j 0)).toNat (by rw [permD_len]; exact hb.1); rw [idxAt, map_getD hj']; rw [show (permD t ls).getD (findI ls (t.l.getD j 0)).toNat 0 = t.d.getD j 0 by
    rw [permD, idxAt, map_getD hb.1, hb.2, find_at h.axes hj', Int.toNat_natCast]] at hv
  exact hv
theorem PermOK.off (h : PermOK k p n t ls) (i : Int) : 0 ≤ offL t.d (idxAt ls (idxL (permD t ls) i) t.l) ∧ offL t.d (idxAt ls (idxL (permD t ls) i) t.l) < prodI t.d := by
  have := offL_in (fun d hd => (dims_mem (axes_dims h.axes) d hd).1) (h.idx i)
  omega
theorem PermOK.dot (h : PermOK k p n t ls) (i : Int) : dotL (stepsL ls t.l t.d) (idxL (permD t ls) i) = offL t.d (idxAt ls (idxL (permD t ls) i) t.l) := by
  rw [dotL, stepsL_len, dot_off h.nodup h.axes.2.1 (axes_nodup h.axes) (fun x hx => h.perm.mem_iff.2 hx)]
end
theorem permX_len {k p n : Int} {t : Ten} {ls : List Int} (h : PermOK k p n t ls) : ∀ m, (permX (widthI k n) t ls (permD t ls) m).length ≤ m * 6
  | 0 => by simp [permX]
  | m + 1 => by
    have := permX_len h m; have hw := width_range h.ring; rw [permX_step, List.length_append]; have : (elt t.x (widthI k n) (offL t.d (idxAt ls (idxL (permD t ls) m) t.l))).length ≤ 6 := by
      unfold elt
      rw [List.length_take]
      omega
    omega
end Go.Proofs.YtdkgaejmgnojhaaGreat
namespace Go.Proofs.YtdkgaejmgnojhaaGreat
set_option maxRecDepth 100000
open Go.RowKit
theorem ct_i_axisOf (ls : List Int) (x : Int) (a b c : Value) (w : World) (r : IntsR ls a (hp w)) (_hb : b.oneCell' = true) (_hc : c.oneCell' = true) : Calls Tryz.prog 48 [tenV a b c, num x].toArray w (RetV w (num (findI ls x))) := by
  refine calls_in Tryz.func48 rfl Tryz.ntmps48 rfl (Sat.start w) ?_; have hle0 := r.le; refine wp_sc (wp_sq ?_); refine sq_x rfl (x_box rfl rfl) rfl ?_; rintro _ _ ⟨b2, rfl, rfl⟩; refine sq_v rfl (v_assign rfl) rfl (sq_end (qs_n (wp_sc (wp_sc (wp_sq (sq_v rfl (v_fieldAddr fd_40_0 ty_26 (by decide) rfl) rfl (sq_v rfl (v_loadB 0 ty_26 rfl rfl rfl) rfl (sq_v rfl (v_len Tryz.underlying26 rfl r.sl) rfl (sq_v rfl (v_move rfl) rfl (sq_end (qs_n (wp_bl ?_)))))))))))); refine wp_lp (σ := Nat) (fun z_ => [(1, num x), (4, num 0), (8, a), (9, num ls.length), (10, num z_)]) (fun z_ => [box b2 [a, b, c] 40, hp w]) (fun z_ => z_ ≤ ls.length ∧ (∀ j, j < z_ → ls.getD j 0 ≠ x)) (fun z_ => ls.length - z_) 0 (⟨by omega, fun j hj => by omega⟩) ⟨rfl, rfl, rfl, rfl, (by first | rfl | exact ksub rfl (by first | omega | (simp; done) | (simp; omega))), trivial⟩ (fun _ s => s) ?_; rintro i ⟨hi, hv⟩; refine wp_sc (wp_sq (sq_v rfl (v_lss rfl rfl) rfl (sq_end (qs_n (wp_sc ?_))))); refine wp_cd rfl (fun c11 => ?_) (fun c11 => ?_)
  · refine wp_sk (qs_n (wp_sc (wp_bl (wp_sc (wp_sq (sq_v rfl (v_move rfl) rfl ?_)))))); refine sq_v rfl (v_idxI Tryz.underlying26 ty_3 rfl rfl r (by first | omega | (simp; omega) | (simp only [List.length_append, List.length_cons, List.length_nil]; omega) | (rw [List.length_set]; omega)) (by first | omega | (simp; omega) | (simp only [List.length_append, List.length_cons, List.length_nil]; omega) | (rw [List.length_set]; omega))) rfl ?_; refine sq_v rfl (v_loadI (k := i) 1 ty_3 rfl rfl r (by first | omega | (simp; omega) | (simp only [List.length_append, List.length_cons, List.length_nil]; omega) | (rw [List.length_set]; omega))) rfl ?_; refine sq_v rfl (v_assign rfl) rfl (sq_v rfl (v_assign rfl) rfl (sq_end (qs_n (wp_sc (wp_sq (sq_v rfl (v_move rfl) rfl (sq_v rfl (v_move rfl) rfl (sq_v rfl (v_eql rfl rfl) rfl (sq_end (qs_n ?_)))))))))); refine wp_cd rfl (fun c17 => ?_) (fun c17 => ?_)
    · refine wp_sc (wp_sq (sq_v rfl (v_move rfl) rfl (sq_v rfl (v_assign rfl) rfl (sq_end (qs_n (wp_rt (qs_br (qs_r (qs_r (qs_br (qs_r ?_))))))))))); exact qs_ret1 rfl rfl (fin_q (i := 1) rfl (by rw [idx_first hv (by omega) c17]))
    · refine wp_sk (qs_bn (qs_n (wp_sq ?_))); refine sq_v rfl (v_add rfl rfl ((by unfold I64; omega))) rfl ?_; refine sq_v rfl (v_move rfl) rfl (sq_end ?_); exact qs_bk (i + 1) ⟨by omega, step_all hv c17⟩ (by omega) ⟨rfl, rfl, rfl, rfl, (by first | rfl | exact ksub rfl (by first | omega | (simp; done) | (simp; omega))), trivial⟩ (fun _ s => s)
  · refine wp_ex (qs_x (qs_x (qs_bx (qs_n (wp_sc (wp_sq (sq_v rfl (v_assign rfl) rfl (sq_end (qs_n (wp_rt ?_)))))))))); exact qs_ret1 rfl rfl (fin_q (i := 1) rfl (by rw [findI_none (not_mem_of fun j hj => hv j (by omega))]))
theorem ct_u_axisOf (ls ds xs : List Int) (x : Int) (a b c : Value) (w : World) (r : IntsR ls a (hp w)) (r2 : IntsR ds b (hp w)) (r3 : IntsR xs c (hp w)) : Calls Tryz.prog 48 [tenV a b c, num x].toArray w (RetV w (num (findI ls x))) :=
  ct_i_axisOf ls x a b c w r r2.sl.one r3.sl.one
set_option maxHeartbeats 1000000 in
theorem ct_i_rawPermute (k p n : Int) (t : Ten) (ls : List Int) (a b c v : Value) (w : World) (r1 : IntsR t.l a (hp w)) (r2 : IntsR t.d b (hp w)) (r3 : IntsR t.x c (hp w)) (rl : IntsR ls v (hp w)) (ok : PermOK k p n t ls) :
    Calls Tryz.prog 107 [ringV k p n, tenV a b c, v].toArray w (Ret w emp (TenT (permT k n t ls))) := by
  have hlen := ok.len; have hD := ok.dims; have hDm := dims_mem hD; have hD1 : ∀ d ∈ permD t ls, 1 ≤ d := fun d h => (hDm d h).1; have htd := dims_mem (axes_dims ok.axes); have htd1 : ∀ d ∈ t.d, 1 ≤ d := fun d h => (htd d h).1; have hsm := ok.small; have hpr := ok.prod; have hring := ok.ring; have hDl := permD_len t ls; have hw := width_range hring; have hsl := stepsL_len ls t.l t.d; have hsi := steps_in (labels := ls) (ls := t.l) htd1; refine calls_in Tryz.func107 rfl Tryz.ntmps107 rfl (Sat.start w) ?_; have hle0 := r1.le; have hle1 := r2.le; have hle2 := r3.le; have hle3 := rl.le; refine wp_sc (wp_sq ?_); refine sq_x rfl (x_box rfl rfl) rfl ?_; rintro _ _ ⟨b3, rfl, rfl⟩; refine sq_x rfl (x_box rfl rfl) rfl ?_; rintro _ _ ⟨b4, rfl, rfl⟩; refine sq_x rfl (x_alloc ty_40 rfl) rfl ?_; rintro _ _ ⟨b6, rfl, rfl⟩; refine sq_end (qs_n (wp_sc ?_)); refine wp_ra (σ := Nat × PH × Value × PH × Value) 7 (fun z_ => IntsO ls z_.2.2.2.2 z_.2.2.2.1 ∧ IntsO (List.replicate (ls.length : Int).toNat 0) z_.2.2.1 z_.2.1) (fun z_ => [(2, v), (3, .pointer (some ⟨b3, 0, none⟩)), (4, .pointer (some ⟨b4, 0, none⟩)), (6, .pointer (some ⟨b6, 0, none⟩)), (7, .pointer (some ⟨z_.1, 0, none⟩))]) (fun z_ => [box z_.1 [z_.2.2.2.2, z_.2.2.1, .slice none 0 0] 40, z_.2.1, z_.2.2.2.1, box b6 [.slice none 0 0, .slice none 0 0, .slice none 0 0] 40, box b4 [a, b, c] 40, box b3 [num k, num p, num n] 24, hp w]) mixed_ok (by kernel_rfl) ?_ ?_
  · refine ra_v (i := 0) (by kernel_rfl) rfl rfl (v_move rfl) rfl (ra_v (i := 2) (by kernel_rfl) rfl rfl (v_move rfl) rfl (ra_v (i := 3) (by kernel_rfl) rfl rfl (v_len Tryz.underlying26 rfl rl.sl) rfl ?_)); refine ra_3 (i := 1) (j := 4) (p := 6) (by kernel_rfl) ?_ ?_ ?_
    · refine ro_x rfl rfl (x_call rfl en_32 (fun w s => ct_i_copyInts _ _ w (rl.mono (s.get 3 rfl)) (by first | assumption | omega))) rfl ?_; rintro v13 h13 r13; refine ra_2 (i := 4) (j := 6) (by kernel_rfl) ?_ ?_
      · refine ro_x rfl rfl (x_makeI Tryz.underlying26 ty_3 rfl rfl (by first | omega | (simp; omega) | (simp only [List.length_append, List.length_cons, List.length_nil]; omega) | (rw [List.length_set]; omega)) (by first | omega | (simp; omega) | (simp only [List.length_append, List.length_cons, List.length_nil]; omega) | (rw [List.length_set]; omega)) (by first | omega | (simp; omega) | (simp only [List.length_append, List.length_cons, List.length_nil]; omega) | (rw [List.length_set]; omega))) rfl ?_; intro v16 h16 r16; refine ra_rj [(5, true), (6, false), (7, false)] (by kernel_rfl) rfl ?_; refine rj_v rfl rfl (v_build [v13, v16, .slice none 0 0] rfl (by obtain ⟨_, _, rfl⟩ := r13.toR.sl; obtain ⟨_, _, rfl⟩ := r16.toR.sl; kernel_rfl)) rfl ?_; refine rj_x rfl rfl (x_alloc ty_40 rfl) rfl ?_; rintro _ _ ⟨b7, rfl, rfl⟩; refine rj_m 0 rfl rfl rfl rfl (m_store 0 ty_40 rfl rfl rfl rfl (by simp [r13.toR.sl.one, r16.toR.sl.one, one_sl]) rfl (Nat.le_of_ble_eq_true rfl)) rfl ?_; rintro _ _ ⟨rfl, rfl⟩; refine rj_end ?_; exact qs_mid (b7, h16, v16, h13, v13) ⟨r13, r16⟩ ⟨rfl, rfl, rfl, rfl, rfl, trivial⟩ (fun _ s => s.pick [0, 1, 2, 3, 4, 5, 6] (by decide) rfl)
      · refine ro_x rfl rfl (x_alloc ty_40 rfl) rfl ?_; rintro _ _ ⟨b7, rfl, rfl⟩; refine ra_rj [(4, false), (5, true), (7, false)] (by kernel_rfl) rfl ?_; refine rj_x rfl rfl (x_makeI Tryz.underlying26 ty_3 rfl rfl (by first | omega | (simp; omega) | (simp only [List.length_append, List.length_cons, List.length_nil]; omega) | (rw [List.length_set]; omega)) (by first | omega | (simp; omega) | (simp only [List.length_append, List.length_cons, List.length_nil]; omega) | (rw [List.length_set]; omega)) (by first | omega | (simp; omega) | (simp only [List.length_append, List.length_cons, List.length_nil]; omega) | (rw [List.length_set]; omega))) rfl ?_; intro v16 h16 r16; refine rj_v rfl rfl (v_build [v13, v16, .slice none 0 0] rfl (by obtain ⟨_, _, rfl⟩ := r13.toR.sl; obtain ⟨_, _, rfl⟩ := r16.toR.sl; kernel_rfl)) rfl ?_; refine rj_m 1 rfl rfl rfl rfl (m_store 1 ty_40 rfl rfl rfl rfl (by simp [r13.toR.sl.one, r16.toR.sl.one, one_sl]) rfl (Nat.le_of_ble_eq_true rfl)) rfl ?_; rintro _ _ ⟨rfl, rfl⟩; refine rj_end ?_; exact qs_mid (b7, h16, v16, h13, v13) ⟨r13, r16⟩ ⟨rfl, rfl, rfl, rfl, rfl, trivial⟩ (fun _ s => s.pick [1, 0, 2, 3, 4, 5, 6] (by decide) rfl)
    · refine ro_x rfl rfl (x_makeI Tryz.underlying26 ty_3 rfl rfl (by first | omega | (simp; omega) | (simp only [List.length_append, List.length_cons, List.length_nil]; omega) | (rw [List.length_set]; omega)) (by first | omega | (simp; omega) | (simp only [List.length_append, List.length_cons, List.length_nil]; omega) | (rw [List.length_set]; omega)) (by first | omega | (simp; omega) | (simp only [List.length_append, List.length_cons, List.length_nil]; omega) | (rw [List.length_set]; omega))) rfl ?_; intro v16 h16 r16; refine ra_2 (i := 1) (j := 6) (by kernel_rfl) ?_ ?_
      · refine ro_x rfl rfl (x_call rfl en_32 (fun w s => ct_i_copyInts _ _ w (rl.mono (s.get 4 rfl)) (by first | assumption | omega))) rfl ?_; rintro v13 h13 r13; refine ra_rj [(5, true), (6, false), (7, false)] (by kernel_rfl) rfl ?_; refine rj_v rfl rfl (v_build [v13, v16, .slice none 0 0] rfl (by obtain ⟨_, _, rfl⟩ := r13.toR.sl; obtain ⟨_, _, rfl⟩ := r16.toR.sl; kernel_rfl)) rfl ?_; refine rj_x rfl rfl (x_alloc ty_40 rfl) rfl ?_; rintro _ _ ⟨b7, rfl, rfl⟩; refine rj_m 0 rfl rfl rfl rfl (m_store 0 ty_40 rfl rfl rfl rfl (by simp [r13.toR.sl.one, r16.toR.sl.one, one_sl]) rfl (Nat.le_of_ble_eq_true rfl)) rfl ?_; rintro _ _ ⟨rfl, rfl⟩; refine rj_end ?_; exact qs_mid (b7, h16, v16, h13, v13) ⟨r13, r16⟩ ⟨rfl, rfl, rfl, rfl, rfl, trivial⟩ (fun _ s => s.pick [0, 2, 1, 3, 4, 5, 6] (by decide) rfl)
      · refine ro_x rfl rfl (x_alloc ty_40 rfl) rfl ?_; rintro _ _ ⟨b7, rfl, rfl⟩; refine ra_rj [(1, false), (5, true), (7, false)] (by kernel_rfl) rfl ?_; refine rj_x rfl rfl (x_call rfl en_32 (fun w s => ct_i_copyInts _ _ w (rl.mono (s.get 5 rfl)) (by first | assumption | omega))) rfl ?_; rintro v13 h13 r13; refine rj_v rfl rfl (v_build [v13, v16, .slice none 0 0] rfl (by obtain ⟨_, _, rfl⟩ := r13.toR.sl; obtain ⟨_, _, rfl⟩ := r16.toR.sl; kernel_rfl)) rfl ?_; refine rj_m 1 rfl rfl rfl rfl (m_store 1 ty_40 rfl rfl rfl rfl (by simp [r13.toR.sl.one, r16.toR.sl.one, one_sl]) rfl (Nat.le_of_ble_eq_true rfl)) rfl ?_; rintro _ _ ⟨rfl, rfl⟩; refine rj_end ?_; exact qs_mid (b7, h16, v16, h13, v13) ⟨r13, r16⟩ ⟨rfl, rfl, rfl, rfl, rfl, trivial⟩ (fun _ s => s.pick [1, 2, 0, 3, 4, 5, 6] (by decide) rfl)
    · refine ro_x rfl rfl (x_alloc ty_40 rfl) rfl ?_; rintro _ _ ⟨b7, rfl, rfl⟩; refine ra_2 (i := 1) (j := 4) (by kernel_rfl) ?_ ?_
      · refine ro_x rfl rfl (x_call rfl en_32 (fun w s => ct_i_copyInts _ _ w (rl.mono (s.get 4 rfl)) (by first | assumption | omega))) rfl ?_; rintro v13 h13 r13; refine ra_rj [(4, false), (5, true), (7, false)] (by kernel_rfl) rfl ?_; refine rj_x rfl rfl (x_makeI Tryz.underlying26 ty_3 rfl rfl (by first | omega | (simp; omega) | (simp only [List.length_append, List.length_cons, List.length_nil]; omega) | (rw [List.length_set]; omega)) (by first | omega | (simp; omega) | (simp only [List.length_append, List.length_cons, List.length_nil]; omega) | (rw [List.length_set]; omega)) (by first | omega | (simp; omega) | (simp only [List.length_append, List.length_cons, List.length_nil]; omega) | (rw [List.length_set]; omega))) rfl ?_; intro v16 h16 r16; refine rj_v rfl rfl (v_build [v13, v16, .slice none 0 0] rfl (by obtain ⟨_, _, rfl⟩ := r13.toR.sl; obtain ⟨_, _, rfl⟩ := r16.toR.sl; kernel_rfl)) rfl ?_; refine rj_m 2 rfl rfl rfl rfl (m_store 2 ty_40 rfl rfl rfl rfl (by simp [r13.toR.sl.one, r16.toR.sl.one, one_sl]) rfl (Nat.le_of_ble_eq_true rfl)) rfl ?_; rintro _ _ ⟨rfl, rfl⟩; refine rj_end ?_; exact qs_mid (b7, h16, v16, h13, v13) ⟨r13, r16⟩ ⟨rfl, rfl, rfl, rfl, rfl, trivial⟩ (fun _ s => s.pick [2, 0, 1, 3, 4, 5, 6] (by decide) rfl)
      · refine ro_x rfl rfl (x_makeI Tryz.underlying26 ty_3 rfl rfl (by first | omega | (simp; omega) | (simp only [List.length_append, List.length_cons, List.length_nil]; omega) | (rw [List.length_set]; omega)) (by first | omega | (simp; omega) | (simp only [List.length_append, List.length_cons, List.length_nil]; omega) | (rw [List.length_set]; omega)) (by first | omega | (simp; omega) | (simp only [List.length_append, List.length_cons, List.length_nil]; omega) | (rw [List.length_set]; omega))) rfl ?_; intro v16 h16 r16; refine ra_rj [(1, false), (5, true), (7, false)] (by kernel_rfl) rfl ?_; refine rj_x rfl rfl (x_call rfl en_32 (fun w s => ct_i_copyInts _ _ w (rl.mono (s.get 5 rfl)) (by first | assumption | omega))) rfl ?_; rintro v13 h13 r13; refine rj_v rfl rfl (v_build [v13, v16, .slice none 0 0] rfl (by obtain ⟨_, _, rfl⟩ := r13.toR.sl; obtain ⟨_, _, rfl⟩ := r16.toR.sl; kernel_rfl)) rfl ?_; refine rj_m 2 rfl rfl rfl rfl (m_store 2 ty_40 rfl rfl rfl rfl (by simp [r13.toR.sl.one, r16.toR.sl.one, one_sl]) rfl (Nat.le_of_ble_eq_true rfl)) rfl ?_; rintro _ _ ⟨rfl, rfl⟩; refine rj_end ?_; exact qs_mid (b7, h16, v16, h13, v13) ⟨r13, r16⟩ ⟨rfl, rfl, rfl, rfl, rfl, trivial⟩ (fun _ s => s.pick [2, 1, 0, 3, 4, 5, 6] (by decide) rfl)
  · rintro ⟨b7, h16, v16, h13, v13⟩ ⟨r13, r16⟩; dsimp only at r13 r16 ⊢; refine qs_n (wp_sc (wp_sc (wp_sq (sq_v rfl (v_move rfl) rfl (sq_v rfl (v_len Tryz.underlying26 rfl rl.sl) rfl (sq_v rfl (v_move rfl) rfl (sq_end (qs_n (wp_bl ?_))))))))); refine wp_lp (σ := Nat × PH) (fun z_ => [(2, v), (3, .pointer (some ⟨b3, 0, none⟩)), (4, .pointer (some ⟨b4, 0, none⟩)), (6, .pointer (some ⟨b6, 0, none⟩)), (7, .pointer (some ⟨b7, 0, none⟩)), (18, v), (19, num ls.length), (20, num z_.1)]) (fun z_ => [box b7 [v13, v16, .slice none 0 0] 40, z_.2, h13, box b6 [.slice none 0 0, .slice none 0 0, .slice none 0 0] 40, box b4 [a, b, c] 40, box b3 [num k, num p, num n] 24, hp w]) (fun z_ => z_.1 ≤ ls.length ∧ IntsO ((permD t ls).take z_.1 ++ List.replicate ((permD t ls).length - z_.1) 0) v16 z_.2) (fun z_ => ls.length - z_.1) (0, h16) (⟨by (try dsimp only); omega, by (try dsimp only); simpa [hDl] using r16⟩) ⟨rfl, rfl, rfl, rfl, rfl, rfl, rfl, (by first | rfl | exact ksub rfl (by first | omega | (simp; done) | (simp; omega))), trivial⟩ (fun _ s => s) ?_; rintro ⟨i, g⟩ ⟨hi, q⟩; dsimp only at hi q ⊢; have hle_q := q.toR.le; have hll : ((permD t ls).take i ++ List.replicate ((permD t ls).length - i) 0).length = ls.length := by simp; omega
    refine wp_sc (wp_sq (sq_v rfl (v_lss rfl rfl) rfl (sq_end (qs_n (wp_sc ?_))))); refine wp_cd rfl (fun c21 => ?_) (fun c21 => ?_)
    · refine wp_sk (qs_n (wp_sc (wp_bl (wp_sc (wp_sq (sq_v rfl (v_move rfl) rfl ?_)))))); refine sq_v rfl (v_idxI Tryz.underlying26 ty_3 rfl rfl rl (by first | omega | (simp; omega) | (simp only [List.length_append, List.length_cons, List.length_nil]; omega) | (rw [List.length_set]; omega)) (by first | omega | (simp; omega) | (simp only [List.length_append, List.length_cons, List.length_nil]; omega) | (rw [List.length_set]; omega))) rfl ?_; refine sq_v rfl (v_loadI (k := i) 6 ty_3 rfl rfl rl (by first | omega | (simp; omega) | (simp only [List.length_append, List.length_cons, List.length_nil]; omega) | (rw [List.length_set]; omega))) rfl ?_; refine sq_v rfl (v_assign rfl) rfl (sq_v rfl (v_assign rfl) rfl (sq_end (qs_n (wp_rj 11 [(0, true), (1, true), (2, true), (3, true), (4, true), (5, true), (6, true), (7, false), (8, true), (9, true), (10, true), (11, false)] mixed_ok (by kernel_rfl) (rj_v rfl rfl (v_fieldAddr fd_40_1 ty_26 (by decide) rfl) rfl (rj_v rfl rfl (v_loadB 0 ty_26 rfl rfl rfl) rfl (rj_v rfl rfl (v_move rfl) rfl (rj_v rfl rfl (v_fieldAddr fd_40_1 ty_26 (by decide) rfl) rfl (rj_v rfl rfl (v_loadB 4 ty_26 rfl rfl rfl) rfl (rj_v rfl rfl (v_loadNB 4 ty_40 rfl rfl rfl rfl) rfl (rj_v rfl rfl (v_move rfl) rfl ?_))))))))))); refine rj_u rfl rfl (x_callv rfl en_48 (fun w s => ct_u_axisOf _ _ _ _ _ _ _ w (r1.mono (s.get 6 rfl)) (r2.mono (s.get 6 rfl)) (r3.mono (s.get 6 rfl)))) rfl ?_; have hf := ok.find (j := i) (by omega); refine rj_v rfl rfl (v_idxI Tryz.underlying26 ty_3 rfl rfl r2 (by first | omega | (simp; omega) | (simp only [List.length_append, List.length_cons, List.length_nil]; omega) | (rw [List.length_set]; omega)) (by first | omega | (simp; omega) | (simp only [List.length_append, List.length_cons, List.length_nil]; omega) | (rw [List.length_set]; omega))) rfl ?_; refine rj_v rfl rfl (v_loadI  6 ty_3 rfl rfl r2 (by first | omega | (simp; omega) | (simp only [List.length_append, List.length_cons, List.length_nil]; omega) | (rw [List.length_set]; omega))) rfl ?_; refine rj_v rfl rfl (v_idxI Tryz.underlying26 ty_3 rfl rfl q.toR (by first | omega | (simp; omega) | (simp only [List.length_append, List.length_cons, List.length_nil]; omega) | (rw [List.length_set]; omega)) (by first | omega | (simp; omega) | (simp only [List.length_append, List.length_cons, List.length_nil]; omega) | (rw [List.length_set]; omega))) rfl ?_; refine rj_m 1 rfl rfl rfl rfl (m_storeI (k := i) 1 ty_3 rfl rfl rfl q (by first | omega | (simp; omega) | (simp only [List.length_append, List.length_cons, List.length_nil]; omega) | (rw [List.length_set]; omega))) rfl ?_; rintro _ h_q5_11 ⟨rfl, q5_11⟩; refine rj_end (qs_bn (qs_n (wp_sq ?_))); refine sq_v rfl (v_add rfl rfl ((by unfold I64; omega))) rfl ?_; refine sq_v rfl (v_move rfl) rfl (sq_end ?_); exact qs_bk (i + 1, h_q5_11) ⟨by (try dsimp only); omega, by (try dsimp only); rw [← set_prefix (by omega), permD, idxAt, map_getD (by omega)]; exact q5_11⟩ (by simp only; omega) ⟨rfl, rfl, rfl, rfl, rfl, rfl, rfl, (by first | rfl | exact ksub rfl (by first | omega | (simp; done) | (simp; omega))), trivial⟩ (fun _ s => s)
    · refine wp_ex (qs_x (qs_x (qs_bx (qs_n (wp_sc (wp_sq (sq_v rfl (v_loadNB 4 ty_40 rfl rfl rfl rfl) rfl (sq_v rfl (v_move rfl) rfl ?_)))))))); rw [List.take_of_length_le (by omega), show (permD t ls).length - i = 0 by omega, List.replicate_zero, List.append_nil] at q; refine sq_x rfl (x_call rfl en_74 (fun w s => ct_i_stridesOf _ _ _ _ _ _ _ w (r1.mono (s.get 6 rfl)) (r2.mono (s.get 6 rfl)) (rl.mono (s.get 6 rfl)) (by first | assumption | omega) (by first | assumption | omega) (by first | assumption | omega) (by first | assumption | omega))) rfl ?_; rintro v39 h39 r39; refine sq_v rfl (v_assign rfl) rfl (sq_end (qs_n (wp_sc (wp_sq (sq_v rfl (v_move rfl) rfl (sq_v rfl (v_len Tryz.underlying26 rfl rl.sl) rfl ?_)))))); refine sq_x rfl (x_makeI Tryz.underlying26 ty_3 rfl rfl (by first | omega | (simp; omega) | (simp only [List.length_append, List.length_cons, List.length_nil]; omega) | (rw [List.length_set]; omega)) (by first | omega | (simp; omega) | (simp only [List.length_append, List.length_cons, List.length_nil]; omega) | (rw [List.length_set]; omega)) (by first | omega | (simp; omega) | (simp only [List.length_append, List.length_cons, List.length_nil]; omega) | (rw [List.length_set]; omega))) rfl ?_; intro v42 h42 r42; refine sq_v rfl (v_assign rfl) rfl (sq_end (qs_n (wp_bl ?_))); refine wp_lp (σ := Nat × PH × Value × PH) (fun z_ => [(3, .pointer (some ⟨b3, 0, none⟩)), (4, .pointer (some ⟨b4, 0, none⟩)), (6, .pointer (some ⟨b6, 0, none⟩)), (7, .pointer (some ⟨b7, 0, none⟩)), (10, v39), (11, v42), (40, v)]) (fun z_ => [z_.2.2.2, z_.2.1, h39, box b7 [v13, v16, z_.2.2.1] 40, g, h13, box b6 [.slice none 0 0, .slice none 0 0, .slice none 0 0] 40, box b4 [a, b, c] 40, box b3 [num k, num p, num n] 24, hp w]) (fun z_ => z_.1 < (prodI (permD t ls)).toNat ∧ IntsO (idxL (permD t ls) z_.1) v42 z_.2.1 ∧ IntsO (permX (widthI k n) t ls (permD t ls) z_.1) z_.2.2.1 z_.2.2.2) (fun z_ => (prodI (permD t ls)).toNat - z_.1) (0, h42, .slice none 0 0, emp) (⟨by (try dsimp only); omega, by (try dsimp only); rw [show ((0 : Nat) : Int) = 0 from rfl, idxL_zero, hDl]; simpa using r42, IntsO.nil⟩) ⟨rfl, rfl, rfl, rfl, rfl, rfl, rfl, trivial⟩ (fun _ s => (emp_sat s)) ?_; rintro ⟨m, g2, vx, hx⟩ ⟨hm, q42, qx⟩; dsimp only at hm q42 qx ⊢; have hle_q42 := q42.toR.le; have hle_qx := qx.toR.le; have hxl := permX_len ok m; have hil := idxL_len (permD t ls) m; have hii := idxL_in hD1 m; have hdt := ok.dot m; have ho := ok.off m; have hef := elt_fits ok.ten ho.2; have hel : (elt t.x (widthI k n) (offL t.d (idxAt ls (idxL (permD t ls) m) t.l))).length ≤ 6 := by unfold elt; rw [List.length_take]; omega
      have hb : ∀ b ∈ idxL (permD t ls) m, 0 ≤ b ∧ b ≤ 1048576 := all_of fun j hj => by have := hii.2 j (by omega); have := hD j (by omega); omega
      refine wp_bl (wp_sc (wp_rj 8 [(0, true), (1, true), (2, true), (3, true), (4, true), (5, true), (6, false), (7, false), (8, false), (9, false), (10, false)] mixed_ok (by kernel_rfl) (rj_v rfl rfl (v_fieldAddr fd_40_2 ty_26 (by decide) rfl) rfl (rj_v rfl rfl (v_loadB 3 ty_26 rfl rfl rfl) rfl (rj_v rfl rfl (v_loadNB 8 ty_24 rfl rfl rfl rfl) rfl (rj_v rfl rfl (v_loadNB 7 ty_40 rfl rfl rfl rfl) rfl (rj_v rfl rfl (v_move rfl) rfl (rj_v rfl rfl (v_move rfl) rfl ?_)))))))); refine rj_u rfl rfl (x_callv rfl en_76 (fun w s => ct_i_dotOf _ _ _ _ w (r39.toR.mono (s.get 2 rfl)) (q42.toR.mono (s.get 1 rfl)) (fun a h => by have := hsi a h; omega) (by first | assumption | omega) (by first | assumption | omega) (by first | assumption | omega))) rfl ?_; rw [hdt] at *; refine rj_u rfl rfl (x_callv rfl en_75 (fun w s => ct_i_rawElem _ _ _ _ _ _ _ _ w (by first | assumption | omega) (r3.mono (s.get 9 rfl)) (by first | assumption | omega) (by first | assumption | omega) (by first | assumption | omega))) rfl ?_; refine rj_m 0 rfl rfl rfl rfl (m_appI 0 9 Tryz.underlying26 ty_3 rfl rfl rfl rfl qx rfl (eltV_read r3 (by first | assumption | omega) (by first | assumption | omega) (by first | assumption | omega)) (by first | omega | (simp; omega) | (simp only [List.length_append, List.length_cons, List.length_nil]; omega) | (rw [List.length_set]; omega))) rfl ?_; intro v51 h_r51 r51; refine rj_fv rfl rfl (v_fieldAddr fd_40_2 ty_26 (by decide) rfl) rfl ?_; refine rj_m 3 rfl rfl rfl rfl (m_store1 3 ty_26 rfl rfl r51.toR.sl.one rfl (Nat.le_of_ble_eq_true rfl)) rfl ?_; rintro _ _ ⟨rfl, rfl⟩; refine rj_end (qs_n (wp_sc (wp_sq (sq_v rfl (v_fieldAddr fd_40_1 ty_26 (by decide) rfl) rfl (sq_v rfl (v_loadB 3 ty_26 rfl rfl rfl) rfl (sq_v rfl (v_move rfl) rfl ?_)))))); refine sq_m 1 rfl rfl (x_call rfl en_77 (fun w s => ct_i_nextIndex _ _ _ _ w _ (s.get 1 rfl) (q.toR.mono (s.getR 1 4 rfl rfl (by decide))) q42 (by first | assumption | omega) (by first | assumption | omega) (by first | assumption | omega))) rfl ?_; rintro _ h56 ⟨rfl, r56⟩; refine sq_v rfl (v_not rfl) rfl (sq_end (qs_n ?_)); refine wp_cnd rfl (fun c57 => ?_) (fun c57 => ?_)
      · refine wp_sc (wp_sq (sq_v rfl (v_loadNB 3 ty_40 rfl rfl rfl rfl) rfl ?_)); refine sq_m 6 rfl rfl (m_store 6 ty_40 rfl rfl rfl rfl (by simp [r13.toR.sl.one, q.toR.sl.one, r51.toR.sl.one]) rfl (Nat.le_of_ble_eq_true rfl)) rfl ?_; rintro _ _ ⟨rfl, rfl⟩; refine sq_end (qs_n (wp_rt (qs_br (qs_r (qs_br ?_))))); refine qs_close [box b6 _ _, hp w] [h13, g, h_r51] (fun _ s => s.pick [6, 9, 5, 4, 0] (by decide) rfl) (fun md => ?_); exact qs_retc 1 rfl ty_40 rfl rfl rfl (fin_t 0 (i := 2) rfl rfl rfl ⟨_, _, _, rfl, _, _, _, r13, q, (show IntsO (permX (widthI k n) t ls (permD t ls) (prodI (permD t ls)).toNat) v51 h_r51 by rw [show (prodI (permD t ls)).toNat = m + 1 by omega, permX_step]; exact r51), md⟩)
      · refine wp_sk (qs_bn ?_); exact qs_bk (m + 1, h56, v51, h_r51) ⟨by (try dsimp only); omega, r56, by (try dsimp only); rw [permX_step]; exact r51⟩ (by simp only; omega) ⟨rfl, rfl, rfl, rfl, rfl, rfl, rfl, trivial⟩ (fun _ s => s)
end Go.Proofs.YtdkgaejmgnojhaaGreat
namespace Go.Proofs.YtdkgaejmgnojhaaGreat
set_option maxRecDepth 100000
open Go.RowKit
/-- 'HK' is 'HS', some parts of it forgotten. -/
def WkL : List PH → List PH → Prop
  | [], [] => True
  | h :: HS, k :: HK => (k = h ∨ k = emp) ∧ WkL HS HK
  | _, _ => False
def blankL : List Bool → List PH → List PH
  | true :: B, _ :: HS => emp :: blankL B HS
  | false :: B, h :: HS => h :: blankL B HS
  | _, HS => HS
theorem WkL.refl : ∀ HS, WkL HS HS
  | [] => trivial
  | _ :: HS => ⟨.inl rfl, WkL.refl HS⟩
theorem WkL.blank : ∀ (B : List Bool) (HS : List PH), WkL HS (blankL B HS)
  | [], HS => by unfold blankL; exact WkL.refl HS
  | true :: _, [] => trivial
  | false :: _, [] => trivial
  | true :: B, h :: HS => ⟨.inr rfl, WkL.blank B HS⟩
  | false :: B, h :: HS => ⟨.inl rfl, WkL.blank B HS⟩
theorem WkL.le : ∀ {HS HK : List PH}, WkL HS HK → ∀ x ∈ HK, x = emp ∨ x ∈ HS
  | [], [], _, x, h => by simp at h
  | _ :: _, [], h, _, _ => h.elim
  | [], _ :: _, h, _, _ => h.elim
  | h :: HS, k :: HK, w, x, hx => by
    rcases List.mem_cons.1 hx with rfl | hx
    · rcases w.1 with e | e
      · exact .inr (by simp [e])
      · exact .inl e
    · rcases WkL.le w.2 x hx with e | e
      · exact .inl e
      · exact .inr (by simp [e])
theorem WkL.sep : ∀ {HS HK : List PH}, WkL HS HK → sepL HS → sepL HK
  | [], [], _, _ => trivial
  | _ :: _, [], h, _ => h.elim
  | [], _ :: _, h, _ => h.elim
  | h :: HS, k :: HK, w, s => by
    refine ⟨fun x hx => ?_, WkL.sep w.2 s.2⟩
    rcases w.1 with rfl | rfl
    · rcases WkL.le w.2 x hx with rfl | e
      · exact PDj.symm (PDj.emp _)
      · exact s.1 x e
    · exact PDj.emp _
theorem WkL.sat {w0 w : World} {HS HK : List PH} (h : WkL HS HK) (s : Sat w0 HS w) : Sat w0 HK w := by
  refine ⟨s.os, s.tape, s.output, s.size, h.sep s.sep, fun x hx => ?_⟩
  rcases h.le x hx with rfl | e
  · exact PLe.emp _
  · exact s.le x e
theorem WkL.set : ∀ {HS HK : List PH} {p : Nat} {h' : PH}, WkL HS HK → HK[p]? = some emp → WkL (HS.set p h') HK
  | [], [], _, _, _, e => by simp at e
  | _ :: _, [], _, _, h, _ => h.elim
  | [], _ :: _, _, _, h, _ => h.elim
  | h :: HS, k :: HK, 0, h', w, e => by
    simp only [List.getElem?_cons_zero, Option.some.injEq] at e; exact ⟨.inr e, w.2⟩
  | h :: HS, k :: HK, p + 1, h', w, e => ⟨w.1, WkL.set (p := p) w.2 (by simpa using e)⟩
section
variable (P : Program) (n : Nat) (w0 : World)
def RK (ops : Array Oper) (m : Nat) (Q : Exit → Act → World → Prop) (order : List (Nat × Bool)) (listed : Array Bool) (K : Env) (HS HK : List PH) : Prop :=
  WkL HS HK → (∀ i s r, order = (i, s) :: r → i < m → HeadInv .any ops m listed) → chk ops m order listed = true → (Region.noSelect ops && tailOK ops m) = true →
  ∀ (a : Act) (w : World), EnvOK n K a → Sat w0 HS w → RAny P ops Q (Sat w0 HK) m order.length listed a w
end
section
variable {P : Program} {n : Nat} {w0 : World} {K : Env} {HS HK : List PH} {Q : Exit → Act → World → Prop} {ops : Array Oper} {m : Nat} {r : List (Nat × Bool)} {listed : Array Bool}
theorem wp_rk {id : Nat} {l : List Oper} (B : List Bool) (m : Nat) (order : List (Nat × Bool)) (hm : P.follows .mixedOrders = true)
    (hc : (chk l.toArray m order (Array.replicate l.toArray.size false) && (Region.noSelect l.toArray && tailOK l.toArray m) && decide (order.length = l.toArray.size)) = true)
    (h : RK P n w0 l.toArray m Q order (Array.replicate l.toArray.size false) K HS (blankL B HS)) : WP P n w0 (.region id l.toArray true) Q K HS := fun a w e s => by
  rw [Bool.and_eq_true, Bool.and_eq_true] at hc; obtain ⟨⟨h1, h2⟩, h3⟩ := hc; have hm' : m ≤ l.toArray.size := by
    simp only [Bool.and_eq_true, tailOK, Bool.or_eq_true, decide_eq_true_eq] at h2
    omega
  have inv0 : HeadInv .any l.toArray m (Array.replicate l.toArray.size false) :=
    ⟨by simp, fun j oj _ hl => (by rw [getD_replicate_false] at hl; cases hl), fun t _ ht => getD_in (by simpa using ht) (getD_replicate_false _ _)⟩
  have H := h (WkL.blank B HS) (fun _ _ _ _ _ => inv0) h1 h2 a { w with drawn := w.drawn + 1 } e ⟨s.os, s.tape, s.output, s.size, s.sep, s.le⟩; rw [of_decide_eq_true h3] at H; exact Code.wp_mono OnlyN.imp (wp_region_any hm (rany_any _ _ _ _ H))
theorem rk_end (h : QS n w0 Q .normal K HS) : RK P n w0 ops m Q [] listed K HS HK := fun _ _ hc _ a w e s => ⟨by simpa [chk] using hc, h a w e s⟩
theorem rk_yield {i : Nat} {oi : Oper} {v : Value} (hi : ops[i]? = some oi) (hy : ∀ a, EnvOK n K a → YieldsIf P ops (Sat w0 HK) oi v a) (hf : fitsK n oi.dst = true)
    (k : RK P n w0 ops m Q r (listed.setIfInBounds i true) (putK oi.dst v K) HS HK) : RK P n w0 ops m Q ((i, true) :: r) listed K HS HK := fun hwk hinv hc ht a w e s => by
  simp only [chk, Bool.and_eq_true, decide_eq_true_eq] at hc; obtain ⟨⟨⟨him, hr⟩, hfr⟩, hc'⟩ := hc; have inv := hinv i true r rfl him; have hr' : i ∈ Region.ready .any ops listed := by simpa using hr
  have ht' := ht; rw [Bool.and_eq_true] at ht'; exact rany_first hi (Region.noSelect_spec ht'.1) him ht'.2 _ listed a w inv (Region.free_spec hi hfr) hr' (hy a e) (hwk.sat s)
    (k hwk (fun _ _ _ _ _ => inv.set hr' him) hc' ht _ _ (e.put v hf) s)
theorem rk_v {i : Nat} {oi : Oper} {v : Value} (hi : ops[i]? = some oi) (hw : wantK ops K oi.guard = some true) (hv : StepV P n w0 K HK oi v) (hf : fitsK n oi.dst = true)
    (k : RK P n w0 ops m Q r (listed.setIfInBounds i true) (putK oi.dst v K) HS HK) : RK P n w0 ops m Q ((i, true) :: r) listed K HS HK :=
  rk_yield hi (fun a e => .inl ⟨e.wanted hw, fun w s => hv a w e s⟩) hf k
theorem rk_only {i : Nat} {oi : Oper} (hi : ops[i]? = some oi) (h : (∀ i' s' r', r = (i', s') :: r' → i' < m → i < m) → chk ops m r (listed.setIfInBounds i true) = true → (m ≤ i → ∀ j, j < m → (listed.setIfInBounds i true).getD j false = true) →
      (Region.noSelect ops && tailOK ops m) = true → (i < m → HeadInv .any ops m (listed.setIfInBounds i true)) → WkL HS HK →
      ∀ a w, EnvOK n K a → Sat w0 HS w → wpOp P ops (OnlyN Q) i (fun a' w' => (i < m → Sat w0 HK w') ∧ RAny P ops Q (Sat w0 HK) m r.length (listed.setIfInBounds i true) a' w') a w) :
    RK P n w0 ops m Q ((i, false) :: r) listed K HS HK := fun hwk hinv hc ht a w e s => by
  simp only [chk, Bool.and_eq_true, decide_eq_true_eq, Bool.or_eq_true, List.all_eq_true, List.mem_range] at hc; obtain ⟨⟨hr, hd⟩, hc'⟩ := hc; have hmem : i ∈ Region.ready .any ops listed := by rw [hr]; simp
  refine ⟨fun h0 => (by rw [hr] at h0; cases h0), fun j hj => ?_⟩; rw [hr] at hj; have : j = i := by simpa using hj
  subst this; refine h (fun i' s' r' e' hlt => ?_) hc' (fun hmi j' hj' => ?_) ht (fun him => (hinv j false r rfl him).set hmem him) hwk a w e s
  · rcases hd with hd | hd
    · exact hd
    · have := hd.2 (i', s') (by rw [e']; simp)
      simp only at this
      omega
  · rcases hd with hd | hd
    · omega
    · exact getD_set_true (hd.1 j' hj')
theorem rk_fv {i : Nat} {oi : Oper} {v : Value} (hi : ops[i]? = some oi) (hw : wantK ops K oi.guard = some true) (hv : StepV P n w0 K HS oi v) (hf : fitsK n oi.dst = true)
    (k : RK P n w0 ops m Q r (listed.setIfInBounds i true) (putK oi.dst v K) HS HK) : RK P n w0 ops m Q ((i, false) :: r) listed K HS HK :=
  rk_only hi fun h1 h2 _ h4 h5 hwk a w e s => by
    have hy : YieldsIf P ops (Sat w0 HS) oi v a := .inl ⟨e.wanted hw, fun w s => hv a w e s⟩; exact hy.wpOp hi s ⟨fun _ => hwk.sat s, k hwk (fun i' s' r' e' hlt => h5 (h1 i' s' r' e' hlt)) h2 h4 _ _ (e.put v hf) s⟩
theorem rk_x {i : Nat} {oi : Oper} {T : Value → PH → Prop} (hi : ops[i]? = some oi) (hw : wantK ops K oi.guard = some true) (hx : StepX P n w0 K HS oi emp T) (hf : fitsK n oi.dst = true)
    (k : ∀ v h', T v h' → RK P n w0 ops m Q r (listed.setIfInBounds i true) (putK oi.dst v K) (h' :: HS) (h' :: HK)) : RK P n w0 ops m Q ((i, false) :: r) listed K HS HK :=
  rk_only hi fun h1 h2 _ h4 h5 hwk a w e s => by
    unfold wpOp
    simp only [hi]; rw [if_pos (e.wanted hw)]; refine .inl (Oper.wp_imp (hx a w e s) (fun a' w' ⟨v, h', ha, u, ht⟩ => ?_) (fun _ _ _ f => f.elim)); subst ha; exact ⟨fun _ => hwk.sat (s.same u), rany_mono (fun _ t => t.drop) _ _ _ _ (k v h' ht ⟨.inl rfl, hwk⟩ (fun i' s' r' e' hlt => h5 (h1 i' s' r' e' hlt)) h2 h4 _ _ (e.put v hf) (s.new u))⟩
/-- Ahead of the tail or in it: a part that nothing hoisted looks at is turned. -/
theorem rk_m {i : Nat} {oi : Oper} (p : Nat) {h : PH} {T : Value → PH → Prop} (hi : ops[i]? = some oi) (hb : HK[p]? = some emp) (hw : wantK ops K oi.guard = some true) (hp : HS[p]? = some h) (hx : StepX P n w0 K HS oi h T) (hf : fitsK n oi.dst = true)
    (k : ∀ v h', T v h' → RK P n w0 ops m Q r (listed.setIfInBounds i true) (putK oi.dst v K) (HS.set p h') HK) : RK P n w0 ops m Q ((i, false) :: r) listed K HS HK :=
  rk_only hi fun h1 h2 _ h4 h5 hwk a w e s => by
    unfold wpOp
    simp only [hi]; rw [if_pos (e.wanted hw)]; refine .inl (Oper.wp_imp (hx a w e s) (fun a' w' ⟨v, h', ha, u, ht⟩ => ?_) (fun _ _ _ f => f.elim)); subst ha; have hwk' : WkL (HS.set p h') HK := hwk.set hb; exact ⟨fun _ => hwk'.sat (s.upd hp u), k v h' ht hwk' (fun i' s' r' e' hlt => h5 (h1 i' s' r' e' hlt)) h2 h4 _ _ (e.put v hf) (s.upd hp u)⟩
/-- In the tail. -/
theorem rk_mt {i : Nat} {oi : Oper} (p : Nat) {h : PH} {T : Value → PH → Prop} (hi : ops[i]? = some oi) (hmi : decide (m ≤ i) = true) (hw : wantK ops K oi.guard = some true) (hp : HS[p]? = some h) (hx : StepX P n w0 K HS oi h T) (hf : fitsK n oi.dst = true)
    (k : ∀ v h', T v h' → RK P n w0 ops m Q r (listed.setIfInBounds i true) (putK oi.dst v K) (HS.set p h') (HS.set p h')) : RK P n w0 ops m Q ((i, false) :: r) listed K HS HK :=
  rk_only hi fun h1 h2 h3 h4 h5 _ a w e s => by
    unfold wpOp
    simp only [hi]; rw [if_pos (e.wanted hw)]; refine .inl (Oper.wp_imp (hx a w e s) (fun a' w' ⟨v, h', ha, u, ht⟩ => ?_) (fun _ _ _ f => f.elim)); subst ha; have hmi' := of_decide_eq_true hmi; exact ⟨fun hlt => absurd hlt (by omega), rany_tail _ _ _ _ (h3 hmi') (k v h' ht (WkL.refl _) (fun i' s' r' e' hlt => h5 (h1 i' s' r' e' hlt)) h2 h4 _ _ (e.put v hf) (s.upd hp u))⟩
end
end Go.Proofs.YtdkgaejmgnojhaaGreat
namespace Go.Proofs.YtdkgaejmgnojhaaGreat
set_option maxRecDepth 100000
open Go.RowKit
structure Stp where
  a : Int
  b : Int
def stepCells (ss : List Stp) : List Value := ss.flatMap fun s => [num s.a, num s.b]
theorem stepCells_len : ∀ ss : List Stp, (stepCells ss).length = ss.length * 2
  | [] => rfl
  | s :: r => by
    have := stepCells_len r; simp only [stepCells, List.flatMap_cons, List.length_append, List.length_cons, List.length_nil] at *
    omega
theorem stepCells_at : ∀ {ss : List Stp} {i : Nat} {s : Stp}, ss[i]? = some s → ((stepCells ss).drop (i * 2)).take 2 = [num s.a, num s.b]
  | [], i, s, h => by simp at h
  | u :: r, 0, s, h => by cases h; rfl
  | u :: r, i + 1, s, h => by
    have ih := stepCells_at (ss := r) (i := i) (s := s) (by simpa using h); rw [show (i + 1) * 2 = i * 2 + 1 + 1 by omega]; exact ih
theorem stepCells_append (a b : List Stp) : stepCells (a ++ b) = stepCells a ++ stepCells b := by simp [stepCells]
theorem stepCells_one (ss : List Stp) : ∀ v ∈ stepCells ss, v.oneCell' = true := fun v hv => by
  simp only [stepCells, List.mem_flatMap] at hv; obtain ⟨s, _, hv⟩ := hv
  simp at hv
  rcases hv with rfl | rfl <;> rfl
abbrev stepV (a b : Int) : Value := .agg [num a, num b].toArray
def StepsR (ss : List Stp) (v : Value) (h : PH) : Prop := RowR (stepCells ss) ss.length 2 v h
def StepsO (ss : List Stp) (v : Value) (h : PH) : Prop := RowO 92 (stepCells ss) ss.length 2 v h
theorem StepsR.mono {ss : List Stp} {v : Value} {h h' : PH} (r : StepsR ss v h) (l : PLe h h') : StepsR ss v h' := RowR.mono r l
theorem StepsO.toR {ss : List Stp} {v : Value} {h : PH} (r : StepsO ss v h) : StepsR ss v h := RowO.toR r
theorem StepsR.sl {ss : List Stp} {v : Value} {h : PH} (r : StepsR ss v h) : SlL v ss.length := RowR.sl r
theorem StepsR.le {ss : List Stp} {v : Value} {h : PH} (r : StepsR ss v h) : (ss.length : Int) ≤ 9223372036854775807 := by
  obtain ⟨_, a, c, _, ⟨h, _⟩, _⟩ := r
  unfold maxLen at h
  omega
theorem StepsR.at {ss : List Stp} {v : Value} {h : PH} (r : StepsR ss v h) : ∃ cells, RowR cells ss.length 2 v h ∧ ∀ i, i < ss.length → ∃ x, ss[i]? = some x ∧ (cells.drop (i * 2)).take 2 = [num x.a, num x.b] :=
  ⟨_, r, fun _ hi => ⟨_, List.getElem?_eq_getElem hi, stepCells_at (List.getElem?_eq_getElem hi)⟩⟩
theorem StepsO.nil : StepsO [] (.slice none 0 0) emp := ⟨rfl, .inl ⟨rfl, rfl, rfl⟩⟩
section
variable {P : Program} {n : Nat} {w0 : World} {K : Env} {HS : List PH} {d : Option Tmp} {ty : TypeId} {ps : String} {af : Array Edge} {g : Option (Nat × Bool)}
theorem m_appS {t : TypeId} {x y : Operand} {z : Value} {ss us : List Stp} {v u : Value} {h hy' : PH} (p q : Nat) (ht : P.underlying t = some (.slice 92)) (he : TyF P 92 z 2 16 true) (hz : z.cells = [num 0, num 0].toArray)
    (hx : ev K x = some v) (hy : ev K y = some u) (hp' : HS[p]? = some h) (r : StepsO ss v h) (hq : HS[q]? = some hy') (ru : StepsR us u hy') (h47 : ss.length + us.length ≤ 8796093022208) :
    StepX P n w0 K HS ⟨d, .call ⟨.builtin .append, #[x, y], #[t, t]⟩, ty, ps, af, g⟩ h (StepsO (ss ++ us)) := by
  have := m_append (P := P) (n := n) (w0 := w0) (HS := HS) (d := d) (ty := ty) (ps := ps) (af := af) (g := g) p q ht he hz rfl (by decide) hx hy hp' r hq ru (stepCells_one us) (by unfold maxLen; omega) (by omega)
  unfold StepsO
  rw [List.length_append, stepCells_append]; exact this
theorem v_nilCheck {x : Operand} {a : Addr} (hx : ev K x = some (.pointer (some a))) : StepV P n w0 K HS ⟨d, .nilCheck x, ty, ps, af, g⟩ (.pointer (some a)) := fun ac w e _ => by simp [execOp, e.ev hx]
end
structure Lv where
  n : Int
  l : List Int
def LvR (x : Lv) (cs : List Value) (h : PH) : Prop := ∃ v, cs = [num x.n, v] ∧ IntsR x.l v h
theorem LvR.mono {x : Lv} {cs : List Value} {h h' : PH} (r : LvR x cs h) (l : PLe h h') : LvR x cs h' := let ⟨v, e, r⟩ := r; ⟨v, e, r.mono l⟩
def LiveR (xs : List Lv) (v : Value) (h : PH) : Prop := RowsR 2 LvR xs v h
theorem LiveR.mono {xs : List Lv} {v : Value} {h h' : PH} (r : LiveR xs v h) (l : PLe h h') : LiveR xs v h' := RowsR.mono (R := LvR) LvR.mono r l
theorem LiveR.sl {xs : List Lv} {v : Value} {h : PH} (r : LiveR xs v h) : SlL v xs.length := RowsR.sl r
theorem LiveR.le {xs : List Lv} {v : Value} {h : PH} (r : LiveR xs v h) : (xs.length : Int) ≤ 9223372036854775807 := RowsR.le r
theorem LiveR.at {xs : List Lv} {v : Value} {h : PH} (r : LiveR xs v h) : ∃ cells, RowR cells xs.length 2 v h ∧ ∀ i, i < xs.length → ∃ x a, xs[i]? = some x ∧ (cells.drop (i * 2)).take 2 = [num x.n, a] ∧ IntsR x.l a h := by
  obtain ⟨cells, rr, hc⟩ := r; refine ⟨cells, rr, fun i hi => ?_⟩; have ht : xs[i]? = some xs[i] := List.getElem?_eq_getElem hi; obtain ⟨a, e, r1⟩ := hc i _ ht; exact ⟨_, a, ht, e, r1⟩
/-- The elements' cells, read in h. -/
def LvL (xs : List Lv) (cs : List Value) (h : PH) : Prop := cs.length = xs.length * 2 ∧ ∀ (i : Nat) (x : Lv), xs[i]? = some x → LvR x ((cs.drop (i * 2)).take 2) h
theorem LvL.nil (h : PH) : LvL [] [] h := ⟨rfl, fun i x e => by simp at e⟩
theorem LvL.mono {xs : List Lv} {cs : List Value} {h h' : PH} (r : LvL xs cs h) (l : PLe h h') : LvL xs cs h' := ⟨r.1, fun i x e => (r.2 i x e).mono l⟩
theorem LvL.snoc {xs : List Lv} {cs : List Value} {h : PH} (r : LvL xs cs h) {x : Lv} {a : Value} (r1 : IntsR x.l a h) : LvL (xs ++ [x]) (cs ++ [num x.n, a]) h := by
  refine ⟨by simp [r.1]; omega, fun i y e => ?_⟩
  by_cases hi : i < xs.length
  · rw [List.getElem?_append_left hi] at e; have := r.2 i y e; have e2 : ((cs ++ [num x.n, a]).drop (i * 2)).take 2 = (cs.drop (i * 2)).take 2 := by
      rw [List.drop_append, List.take_append]; have hl : 2 - (cs.drop (i * 2)).length = 0 := by simp [r.1]; omega
      rw [hl, List.take_zero, List.append_nil]
    rw [e2]; exact this
  · have hlt := (List.getElem?_eq_some_iff.1 e).1
    simp at hlt
    have : i = xs.length := by omega
    subst this; rw [List.getElem?_append_right (by omega)] at e
    simp at e
    subst e; have e2 : ((cs ++ [num x.n, a]).drop (xs.length * 2)).take 2 = [num x.n, a] := by
      rw [← r.1, List.drop_left]; rfl
    rw [e2]; exact ⟨a, rfl, r1⟩
theorem LvL.live {xs : List Lv} {cs : List Value} {v : Value} {h : PH} (r : LvL xs cs h) (rr : RowR cs xs.length 2 v h) : LiveR xs v h := ⟨cs, rr, r.2⟩
def joinI (a b : List Int) : List Int := a ++ b.filter fun x => decide (x ∉ a)
structure Sh where
  all : List (List Int)
  gone : List Bool
def Sh.lab (s : Sh) (i : Nat) : List Int := s.all.getD i []
def Sh.ok (s : Sh) : Prop := s.gone.length = s.all.length
def Sh.live (s : Sh) (a : Int) : Prop := 0 ≤ a ∧ a < s.all.length ∧ s.gone.getD a.toNat false = false
def Sh.ixs (s : Sh) : List Nat := (List.range s.all.length).filter fun i => !s.gone.getD i false
def Sh.lv (s : Sh) : List Lv := s.ixs.map fun (i : Nat) => ⟨i, s.lab i⟩
def Sh.kept (op : List Int) (s : Sh) (a b : Nat) (x : Int) : Prop := x ∈ op ∨ ∃ i ∈ s.ixs, i ≠ a ∧ i ≠ b ∧ x ∈ s.lab i
open Classical in
noncomputable def Sh.res (op : List Int) (s : Sh) (a b : Nat) : List Int := (joinI (s.lab a) (s.lab b)).filter fun x => decide (s.kept op a b x)
noncomputable def Sh.step (op : List Int) (s : Sh) (a b : Nat) : Sh := ⟨s.all ++ [s.res op a b], ((s.gone.set a true).set b true) ++ [false]⟩
theorem Sh.step_ok {op : List Int} {s : Sh} (h : s.ok) (a b : Nat) : (s.step op a b).ok := by simp only [Sh.ok, Sh.step, List.length_append, List.length_set] at *; simp [h]
theorem ixs_nodup (s : Sh) : s.ixs.Nodup := List.Pairwise.filter _ List.nodup_range
theorem mem_ixs {s : Sh} {i : Nat} : i ∈ s.ixs ↔ i < s.all.length ∧ s.gone.getD i false = false := by simp [Sh.ixs]
theorem live_ixs {s : Sh} {a : Int} : s.live a ↔ 0 ≤ a ∧ a.toNat ∈ s.ixs := by
  rw [mem_ixs]
  unfold Sh.live
  constructor
  · rintro ⟨h1, h2, h3⟩; exact ⟨h1, by omega, h3⟩
  · rintro ⟨h1, h2, h3⟩; exact ⟨h1, by omega, h3⟩
theorem lv_len (s : Sh) : s.lv.length = s.ixs.length := by simp [Sh.lv]
theorem lv_get {s : Sh} {k : Nat} {x : Lv} (h : s.lv[k]? = some x) : ∃ i, s.ixs[k]? = some i ∧ x = ⟨i, s.lab i⟩ := by
  simp only [Sh.lv, List.getElem?_map, Option.map_eq_some_iff] at h; obtain ⟨i, h1, h2⟩ := h; exact ⟨i, h1, h2.symm⟩
theorem ixs_inj {s : Sh} {k j i : Nat} (h : s.ixs[k]? = some i) (h' : s.ixs[j]? = some i) : k = j := by
  have hk := (List.getElem?_eq_some_iff.1 h).1; exact (List.getElem?_inj hk (ixs_nodup s)).1 (h.trans h'.symm)
/-- The place of a number among what is live. -/
def Sh.place (s : Sh) (a : Int) : Int := findI (s.ixs.map Int.ofNat) a
theorem place_ge {s : Sh} {a : Int} : 0 ≤ s.place a ↔ s.live a := by
  rw [Sh.place, findI_ge, live_ixs, List.mem_map]
  constructor
  · rintro ⟨i, hi, rfl⟩; exact ⟨Int.natCast_nonneg i, by simpa using hi⟩
  · rintro ⟨h1, h2⟩; exact ⟨_, h2, show ((a.toNat : Nat) : Int) = a by omega⟩
theorem place_at {s : Sh} {a : Int} (h : s.live a) : s.ixs[(s.place a).toNat]? = some a.toNat ∧ (s.place a).toNat < s.ixs.length := by
  have hm : a ∈ s.ixs.map Int.ofNat := findI_ge.1 (place_ge.2 h); have hg := findI_get hm; rw [List.length_map] at hg; refine ⟨?_, hg.1⟩; have h2 := hg.2; have hk : (findI (s.ixs.map Int.ofNat) a).toNat < s.ixs.length := hg.1; simp only [List.getD, List.getElem?_map, List.getElem?_eq_getElem hk, Option.map_some, Option.getD_some] at h2; rw [Sh.place, List.getElem?_eq_getElem hk]
  congr 1
  have h3 : ((s.ixs[(findI (s.ixs.map Int.ofNat) a).toNat] : Nat) : Int) = a := h2
  omega
/-- What is live besides the places p and q, of the first k. -/
def dropTo (lv : List Lv) (p q : Nat) : Nat → List Lv
  | 0 => []
  | k + 1 => if k ≠ p ∧ k ≠ q then dropTo lv p q k ++ (lv[k]?).toList else dropTo lv p q k
theorem dropTo_lv {s : Sh} {p q a b : Nat} (hp : s.ixs[p]? = some a) (hq : s.ixs[q]? = some b) : ∀ k, k ≤ s.ixs.length → dropTo s.lv p q k = ((s.ixs.take k).filter fun i => decide (i ≠ a ∧ i ≠ b)).map fun (i : Nat) => ⟨i, s.lab i⟩
  | 0, _ => by simp [dropTo]
  | k + 1, hk => by
    have ih := dropTo_lv hp hq k (by omega); have hi : s.ixs[k]? = some s.ixs[k] := List.getElem?_eq_getElem (by omega); have e1 : k = p ↔ s.ixs[k] = a := ⟨fun e => by subst e; rw [hi] at hp; exact Option.some.inj hp, fun e => ixs_inj (e ▸ hi) hp⟩
    have e2 : k = q ↔ s.ixs[k] = b := ⟨fun e => by subst e; rw [hi] at hq; exact Option.some.inj hq, fun e => ixs_inj (e ▸ hi) hq⟩
    rw [List.take_succ_eq_append_getElem (by omega), List.filter_append, List.map_append, dropTo, ih]; have hl : s.lv[k]? = some ⟨s.ixs[k], s.lab s.ixs[k]⟩ := by rw [Sh.lv, List.getElem?_map, hi]; rfl
    rw [hl]
    by_cases hc : k ≠ p ∧ k ≠ q
    · have : s.ixs[k] ≠ a ∧ s.ixs[k] ≠ b := ⟨fun e => hc.1 (e1.2 e), fun e => hc.2 (e2.2 e)⟩
      rw [if_pos hc]
      simp [this]
    · have : ¬ (s.ixs[k] ≠ a ∧ s.ixs[k] ≠ b) := fun e => hc ⟨fun e' => e.1 (e1.1 e'), fun e' => e.2 (e2.1 e')⟩; rw [if_neg hc]
      simp [this]
theorem getD_append_left {α : Type} {l r : List α} {i : Nat} {d : α} (h : i < l.length) : (l ++ r).getD i d = l.getD i d := by simp [List.getD, List.getElem?_append_left h]
theorem step_ixs {op : List Int} {s : Sh} (h : s.ok) {a b : Nat} : (s.step op a b).ixs = (s.ixs.filter fun i => decide (i ≠ a ∧ i ≠ b)) ++ [s.all.length] := by
  have hl : (s.step op a b).all.length = s.all.length + 1 := by simp [Sh.step]
  have hg : (s.step op a b).gone.getD s.all.length false = false := by
    have : ((s.gone.set a true).set b true).length = s.all.length := by simpa [Sh.ok] using h
    simp only [Sh.step, List.getD]; rw [List.getElem?_append_right (by omega), this]
    simp
  unfold Sh.ixs
  rw [hl, List.range_succ, List.filter_append, List.filter_filter]
  congr 1
  · apply List.filter_congr
    intro i hi; have hi' : i < s.all.length := by simpa using hi
    have e : (s.step op a b).gone.getD i false = if i = a ∨ i = b then true else s.gone.getD i false := by
      have hlen : i < s.gone.length := by rw [h]; exact hi'
      rw [Sh.step, getD_append_left (by simpa using hlen)]; simp only [List.getD, List.getElem?_set, List.length_set]
      by_cases e1 : b = i
      · subst e1; simp [hlen]
      · by_cases e2 : a = i
        · subst e2; simp [hlen, e1]
        · simp [e1, e2, Ne.symm e1, Ne.symm e2]
    rw [e]
    by_cases hc : i = a ∨ i = b
    · rw [if_pos hc]; rcases hc with rfl | rfl <;> simp
    · rw [if_neg hc]; have : i ≠ a ∧ i ≠ b := ⟨fun e => hc (.inl e), fun e => hc (.inr e)⟩
      simp [this]
  · rw [List.filter_cons_of_pos (by rw [hg]; rfl)]; rfl
theorem step_lab {op : List Int} {s : Sh} {a b i : Nat} (hi : i < s.all.length) : (s.step op a b).lab i = s.lab i := by rw [Sh.lab, Sh.step, getD_append_left hi]; rfl
theorem step_lab_new {op : List Int} {s : Sh} {a b : Nat} : (s.step op a b).lab s.all.length = s.res op a b := by simp [Sh.lab, Sh.step, List.getD]
/-- The program's list of what is live, behind a step. -/
theorem step_lv {op : List Int} {s : Sh} (h : s.ok) {p q a b : Nat} (hp : s.ixs[p]? = some a) (hq : s.ixs[q]? = some b) : (s.step op a b).lv = dropTo s.lv p q s.lv.length ++ [⟨(s.all.length : Nat), s.res op a b⟩] := by
  rw [lv_len, dropTo_lv hp hq _ (Nat.le_refl _), List.take_length, Sh.lv, step_ixs h, List.map_append]
  congr 1
  · refine List.map_congr_left fun i hi => ?_; have := (mem_ixs.1 (List.mem_filter.1 hi).1).1; rw [step_lab this]
  · simp [step_lab_new]
/-- In terms of places. -/
theorem kept_places {op : List Int} {s : Sh} {p q a b : Nat} (hp : s.ixs[p]? = some a) (hq : s.ixs[q]? = some b) (x : Int) : s.kept op a b x ↔ x ∈ op ∨ ∃ k, k < s.lv.length ∧ k ≠ p ∧ k ≠ q ∧ ∃ y, s.lv[k]? = some y ∧ x ∈ y.l := by
  unfold Sh.kept
  refine or_congr Iff.rfl ⟨?_, ?_⟩
  · rintro ⟨i, hi, h1, h2, h3⟩; obtain ⟨k, hk⟩ := List.getElem?_of_mem hi; refine ⟨k, by rw [lv_len]; exact (List.getElem?_eq_some_iff.1 hk).1, ?_, ?_, ⟨i, s.lab i⟩, by rw [Sh.lv, List.getElem?_map, hk]; rfl, h3⟩
    · rintro rfl; rw [hk] at hp; exact h1 (Option.some.inj hp)
    · rintro rfl; rw [hk] at hq; exact h2 (Option.some.inj hq)
  · rintro ⟨k, hk, h1, h2, y, hy, h3⟩; obtain ⟨i, hi, rfl⟩ := lv_get hy; exact ⟨i, List.mem_of_getElem? hi, fun e => h1 (ixs_inj (e ▸ hi) hp), fun e => h2 (ixs_inj (e ▸ hi) hq), h3⟩
end Go.Proofs.YtdkgaejmgnojhaaGreat
namespace Go.Proofs.YtdkgaejmgnojhaaGreat
set_option maxRecDepth 100000
open Go.RowKit
def bplaces (P : Program) (t : TypeId) : Option (Array Value × List (Nat × Nat)) :=
  match P.info? t, P.underlying t with
  | some it, some (.struct fields) =>
    match it.zero, fields.toList.mapM (fun f => (P.info? f.type).map fun i => (f.offset, i.size)) with
    | some z, some places => some (z.cells, places)
    | _, _ => none
  | _, _ => none
theorem built_of {P : Program} {t : TypeId} {z : Array Value} {places : List (Nat × Nat)} (h : bplaces P t = some (z, places)) (parts : List (Nat × Value)) : P.built t parts = Instr.fill (places.toArray[·]?) z parts := by
  unfold bplaces at h
  unfold Program.built
  cases hi : P.info? t with
  | none => simp [hi] at h
  | some it =>
    cases hu : P.underlying t with
    | none => simp [hi, hu] at h
    | some d =>
      cases d <;> simp only [hi, hu] at h ⊢ <;> try (cases h; done)
      split at h
      · rename_i z' places' e1 e2
        simp only [Option.some.injEq, Prod.mk.injEq] at h; obtain ⟨rfl, rfl⟩ := h; simp only [e1, e2]
      · cases h
theorem fill_at {place : Nat → Option (Nat × Nat)} {A us B cs : List Value} {i off sz : Nat} {v : Value} {rest : List (Nat × Value)} (hp : place i = some (off, sz)) (hv : v.cells = us.toArray) (hu : us.length = sz) (ha : A.length = off) (hc : cs.length = sz) :
    Instr.fill place (A ++ cs ++ B).toArray ((i, v) :: rest) = Instr.fill place (A ++ us ++ B).toArray rest := by
  simp only [Instr.fill, hp, hv]; rw [if_neg (by simp; omega)]
  congr 1
  have hs := Great.foldl_set off us 0 (A ++ cs ++ B).toArray; rw [← Array.foldl_toList, Array.toList_zipIdx]
  apply Array.ext_getElem?
  intro k; rw [hs.2 k]; simp only [Nat.add_zero, List.size_toArray, List.getElem?_toArray, List.length_append]; subst ha
  by_cases h1 : k < A.length
  · rw [if_neg (by omega), List.append_assoc, List.append_assoc, List.getElem?_append_left h1, List.getElem?_append_left h1]
  · by_cases h2 : k < A.length + us.length
    · rw [if_pos (by omega), List.append_assoc, List.getElem?_append_right (by omega), List.getElem?_append_left (by omega)]
    · rw [if_neg (by omega), List.append_assoc, List.append_assoc, List.getElem?_append_right (by omega), List.getElem?_append_right (by omega), List.getElem?_append_right (by omega), List.getElem?_append_right (by omega)]
      congr 1
      omega
abbrev stCells (arr : List Int) (vo lvv : Value) (nx : Int) : List Value := ints arr ++ [vo, lvv, num nx]
theorem pre_get {xs : List Int} {cs : List Value} {u : Value} (h : xs.length = 100) (j : Nat) (hj : cs[j]? = some u) : (ints xs ++ cs)[100 + j]? = some u := by
  rw [List.getElem?_append_right (by rw [ints_length]; omega), ints_length, h, Nat.add_sub_cancel_left]; exact hj
theorem pre_set {xs : List Int} {cs : List Value} {u : Value} (h : xs.length = 100) (j : Nat) : (ints xs ++ cs).set (100 + j) u = ints xs ++ cs.set j u := by
  rw [List.set_append_right _ _ (by rw [ints_length]; omega), ints_length, h, Nat.add_sub_cancel_left]
section
variable {P : Program} {n : Nat} {w0 : World} {K : Env} {HS : List PH} {d : Option Tmp} {ty : TypeId} {ps : String} {af : Array Edge} {g : Option (Nat × Bool)}
end
abbrev ptrV (b : Nat) : Value := .pointer (some ⟨b, 0, none⟩)
/-- The state as it is read. -/
structure StR (arr : List Int) (vo lvv : Value) (s : Sh) (b : Nat) (h : PH) : Prop where
  len : arr.length = 100
  ok : s.ok
  cells : ∀ (j : Nat) (u : Value), (stCells arr vo lvv s.all.length)[j]? = some u → cellP h b j = some u
  live : LiveR s.lv lvv h
theorem StR.mono {arr : List Int} {vo lvv : Value} {s : Sh} {b : Nat} {h h' : PH} (r : StR arr vo lvv s b h) (l : PLe h h') : StR arr vo lvv s b h' := ⟨r.len, r.ok, fun j u e => cellP.mono l (r.cells j u e), r.live.mono l⟩
theorem StR.c100 {arr : List Int} {vo lvv : Value} {s : Sh} {b : Nat} {h : PH} (r : StR arr vo lvv s b h) : cellP h b 100 = some vo := r.cells 100 _ (pre_get r.len 0 rfl)
theorem StR.c101 {arr : List Int} {vo lvv : Value} {s : Sh} {b : Nat} {h : PH} (r : StR arr vo lvv s b h) : cellP h b 101 = some lvv := r.cells 101 _ (pre_get r.len 1 rfl)
/-- The state that a call has for its own; 'hs' is what its slices lie in. -/
def StO (arr : List Int) (vo : Value) (s : Sh) (b : Nat) (h : PH) : Prop := arr.length = 100 ∧ s.ok ∧ ∃ lvv hs, LiveR s.lv lvv hs ∧ Made h [box b (stCells arr vo lvv s.all.length) 131, hs]
theorem StR.box {arr : List Int} {vo lvv : Value} {s : Sh} {b : Nat} {h : PH} (hl : arr.length = 100) (hok : s.ok) (hb : PLe (box b (stCells arr vo lvv s.all.length) 131) h) (r : LiveR s.lv lvv h) : StR arr vo lvv s b h :=
  ⟨hl, hok, fun j u e => cellP.mono hb (by rw [cellP_box]; exact e), r⟩
theorem StO.toR {arr : List Int} {vo : Value} {s : Sh} {b : Nat} {h : PH} (r : StO arr vo s b h) : ∃ lvv, StR arr vo lvv s b h := by
  obtain ⟨h1, h2, lvv, hs, h3, md⟩ := r; exact ⟨lvv, StR.box h1 h2 (md.le _ (by simp)) (h3.mono (md.le hs (by simp)))⟩
theorem ct_i_place (arr : List Int) (vo lvv : Value) (s : Sh) (b : Nat) (n : Int) (w : World) (r : StR arr vo lvv s b (hp w)) :
    Calls Tryz.prog 88 [.pointer (some ⟨b, 0, none⟩), num n].toArray w (RetV w (num (s.place n))) := by
  have rl := r.live; refine calls_in Tryz.func88 rfl Tryz.ntmps88 rfl (Sat.start w) ?_; have hle0 := rl.le; obtain ⟨cs_rl, rr_rl, hc_rl⟩ := rl.at; refine wp_sc (wp_sq (sq_v rfl (v_assign rfl) rfl (sq_end (qs_n (wp_sc (wp_sc (wp_sq (sq_v rfl (v_move rfl) rfl (sq_v rfl (v_nilCheck rfl) rfl (sq_v rfl (v_fieldAddr fd_131_2 ty_129 (by decide) rfl) rfl (sq_v rfl (v_load 0 ty_129 rfl rfl r.c101) rfl (sq_v rfl (v_len Tryz.underlying129 rfl rl.sl) rfl (sq_v rfl (v_move rfl) rfl (sq_end (qs_n (wp_bl ?_)))))))))))))))); refine wp_lp (σ := Nat) (fun z_ => [(1, num n), (4, num 0), (10, lvv), (11, num s.lv.length), (12, num z_)]) (fun z_ => [hp w]) (fun z_ => z_ ≤ s.lv.length ∧ (∀ j, j < z_ → (s.ixs.map Int.ofNat).getD j 0 ≠ n)) (fun z_ => s.lv.length - z_) 0 (⟨by omega, fun j hj => by omega⟩) ⟨rfl, rfl, rfl, rfl, (by first | rfl | exact ksub rfl (by first | omega | (simp; done) | (simp; omega))), trivial⟩ (fun _ s => s) ?_; rintro i ⟨hi, hn⟩; have hll := lv_len s; refine wp_sc (wp_sq (sq_v rfl (v_lss rfl rfl) rfl (sq_end (qs_n (wp_sc ?_))))); refine wp_cd rfl (fun c13 => ?_) (fun c13 => ?_)
  · refine wp_sk (qs_n (wp_sc (wp_bl (wp_sc (wp_sq (sq_v rfl (v_move rfl) rfl ?_)))))); obtain ⟨x15, a15, hx15, hcs15, rl15⟩ := hc_rl (i) (by first | omega | (rw [List.length_set]; omega)); refine sq_v rfl (v_indexAddr Tryz.underlying129 ty_133 rfl rfl rr_rl (by decide) (by omega) (by omega)) rfl ?_; refine sq_v rfl (v_loadNE 0 ty_133 rfl rfl rr_rl (by have := rr_rl.1; omega) rfl hcs15) rfl ?_; refine sq_x rfl (x_alloc ty_133 rfl) rfl ?_; rintro _ _ ⟨b6, rfl, rfl⟩; refine sq_v rfl (v_assign rfl) rfl ?_; refine sq_m 0 rfl rfl (m_store 0 ty_133 rfl rfl rfl rfl (by simp [one_int, rl15.sl.one]) rfl (Nat.le_of_ble_eq_true rfl)) rfl ?_; rintro _ _ ⟨rfl, rfl⟩; refine sq_end ?_; obtain ⟨ix, hix, ex⟩ := lv_get hx15; subst ex; have hmg : (s.ixs.map Int.ofNat).getD i 0 = ix := by simp [List.getD, hix]
    refine qs_n (wp_sc (wp_sq (sq_v rfl (v_fieldAddr fd_133_0 ty_3 (by decide) rfl) rfl (sq_v rfl (v_loadB 0 ty_3 rfl rfl rfl) rfl (sq_v rfl (v_move rfl) rfl (sq_v rfl (v_eql rfl rfl) rfl (sq_end (qs_n ?_)))))))); refine wp_cd rfl (fun c20 => ?_) (fun c20 => ?_)
    · refine wp_sc (wp_sq (sq_v rfl (v_move rfl) rfl (sq_v rfl (v_assign rfl) rfl (sq_end (qs_n (wp_rt (qs_br (qs_r (qs_r (qs_br (qs_r ?_))))))))))); exact qs_ret1 rfl rfl (fin_q (i := 1) rfl (by rw [Sh.place, idx_first hn (by rw [List.length_map]; omega) (by rw [hmg]; exact c20)]))
    · refine wp_sk (qs_bn (qs_n (wp_sq ?_))); refine sq_v rfl (v_add rfl rfl ((by unfold I64; omega))) rfl ?_; refine sq_v rfl (v_move rfl) rfl (sq_end ?_); exact qs_bk (i + 1) ⟨by omega, step_all hn (by rw [hmg]; exact c20)⟩ (by omega) ⟨rfl, rfl, rfl, rfl, (by first | rfl | exact ksub rfl (by first | omega | (simp; done) | (simp; omega))), trivial⟩ (fun _ s => s.pick [1] (by decide) rfl)
  · refine wp_ex (qs_x (qs_x (qs_bx (qs_n (wp_sc (wp_sq (sq_v rfl (v_assign rfl) rfl (sq_end (qs_n (wp_rt ?_)))))))))); exact qs_ret1 rfl rfl (fin_q (i := 0) rfl (by rw [Sh.place, findI_none (not_mem_of (fun j hj => hn j (by rw [List.length_map] at hj; omega)))]))
end Go.Proofs.YtdkgaejmgnojhaaGreat
namespace Go.Proofs.YtdkgaejmgnojhaaGreat
set_option maxRecDepth 100000
open Go.RowKit
theorem filter_yes {xs : List Int} {p : Int → Bool} {i : Nat} (h : i < xs.length) (hp : p (xs.getD i 0) = true) : (xs.take (i + 1)).filter p = (xs.take i).filter p ++ [xs.getD i 0] := by
  rw [take_succ h, List.filter_append, List.filter_cons_of_pos hp]; rfl
theorem filter_no {xs : List Int} {p : Int → Bool} {i : Nat} (h : i < xs.length) (hp : p (xs.getD i 0) = false) : (xs.take (i + 1)).filter p = (xs.take i).filter p := by
  rw [take_succ h, List.filter_append, List.filter_cons_of_neg (by rw [hp]; decide)]; simp
theorem filter_take_len (xs : List Int) (p : Int → Bool) (i : Nat) : ((xs.take i).filter p).length ≤ xs.length := by
  have := List.length_filter_le p (xs.take i); simp only [List.length_take] at this
  omega
theorem ct_i_joinLabels (xs ys : List Int) (v u : Value) (w : World) (r : IntsR xs v (hp w)) (r' : IntsR ys u (hp w)) (hs : xs.length + ys.length ≤ 1000000) :
    Calls Tryz.prog 102 [v, u].toArray w (Ret w emp (IntsO (joinI xs ys))) := by
  refine calls_in Tryz.func102 rfl Tryz.ntmps102 rfl (Sat.start w) ?_; have hle0 := r.le; have hle1 := r'.le; refine wp_sc (wp_sq (sq_v rfl (v_assign rfl) rfl (sq_end (qs_n (wp_sc (wp_sq (sq_v rfl (v_move rfl) rfl ?_))))))); refine sq_x rfl (x_call rfl en_32 (fun w s => ct_i_copyInts _ _ w (r.mono (s.get 0 rfl)) (by first | assumption | omega))) rfl ?_; rintro v9 h9 r9; refine sq_v rfl (v_assign rfl) rfl (sq_end (qs_n (wp_sc (wp_sc (wp_sq (sq_v rfl (v_move rfl) rfl (sq_v rfl (v_len Tryz.underlying26 rfl r'.sl) rfl (sq_v rfl (v_move rfl) rfl (sq_end (qs_n (wp_bl ?_))))))))))); refine wp_lp (σ := Nat × Value × PH) (fun z_ => [(0, v), (4, .slice none 0 0), (5, z_.2.1), (10, u), (11, num ys.length), (12, num z_.1)]) (fun z_ => [z_.2.2, hp w]) (fun z_ => z_.1 ≤ ys.length ∧ IntsO (xs ++ (ys.take z_.1).filter fun x => decide (x ∉ xs)) z_.2.1 z_.2.2) (fun z_ => ys.length - z_.1) (0, v9, h9) (⟨by (try dsimp only); omega, by (try dsimp only); simpa using r9⟩) ⟨rfl, rfl, (by first | rfl | exact ksub rfl (by first | omega | (simp; done) | (simp; omega))), rfl, rfl, (by first | rfl | exact ksub rfl (by first | omega | (simp; done) | (simp; omega))), trivial⟩ (fun _ s => s) ?_; rintro ⟨i, lv, lh⟩ ⟨hi, q⟩; dsimp only at hi q ⊢; have hle_q := q.toR.le; have hfl := filter_take_len ys (fun x => decide (x ∉ xs)) i; refine wp_sc (wp_sq (sq_v rfl (v_lss rfl rfl) rfl (sq_end (qs_n (wp_sc ?_))))); refine wp_cd rfl (fun c13 => ?_) (fun c13 => ?_)
  · refine wp_sk (qs_n (wp_sc (wp_bl (wp_sc (wp_sq ?_))))); refine sq_v rfl (v_idxI Tryz.underlying26 ty_3 rfl rfl r' (by first | omega | (simp; omega) | (simp only [List.length_append, List.length_cons, List.length_nil]; omega) | (rw [List.length_set]; omega)) (by first | omega | (simp; omega) | (simp only [List.length_append, List.length_cons, List.length_nil]; omega) | (rw [List.length_set]; omega))) rfl ?_; refine sq_v rfl (v_loadI (k := i) 1 ty_3 rfl rfl r' (by first | omega | (simp; omega) | (simp only [List.length_append, List.length_cons, List.length_nil]; omega) | (rw [List.length_set]; omega))) rfl ?_; refine sq_v rfl (v_assign rfl) rfl (sq_end (qs_n (wp_sc (wp_sq (sq_v rfl (v_move rfl) rfl (sq_v rfl (v_move rfl) rfl (sq_u rfl (x_callv rfl en_23 (fun w s => ct_i_hasInt _ _ _ w (r.mono (s.get 1 rfl)))) rfl (sq_v rfl (v_not rfl) rfl (sq_end (qs_n ?_)))))))))); refine wp_cnd rfl (fun c19 => ?_) (fun c19 => ?_)
    · refine wp_sq (sq_v rfl (v_move rfl) rfl (sq_v rfl (v_move rfl) rfl ?_)); refine sq_x rfl (x_buildS [num (ys.getD i 0)] Tryz.underlying26 ty_3 (by decide) rfl rfl rfl (by decide) (by decide) (by intro v hv; simp at hv; rcases hv with rfl <;> rfl)) rfl ?_; intro v22 h22 (r22 : IntsO [ys.getD i 0] v22 h22); refine sq_m 1 rfl rfl (m_appI 1 0 Tryz.underlying26 ty_3 rfl rfl rfl rfl q rfl r22.toR (by first | omega | (simp; omega) | (simp only [List.length_append, List.length_cons, List.length_nil]; omega) | (rw [List.length_set]; omega))) rfl ?_; intro v23 h_r23 r23; refine sq_v rfl (v_assign rfl) rfl (sq_end (qs_bn (qs_n (wp_sq ?_)))); refine sq_v rfl (v_add rfl rfl ((by unfold I64; omega))) rfl ?_; refine sq_v rfl (v_move rfl) rfl (sq_end ?_); exact qs_bk (i + 1, v23, h_r23) ⟨by (try dsimp only); omega, by (try dsimp only); rw [filter_yes (by omega) (by simpa using c19), ← List.append_assoc]; exact r23⟩ (by simp only; omega) ⟨rfl, rfl, (by first | rfl | exact ksub rfl (by first | omega | (simp; done) | (simp; omega))), rfl, rfl, (by first | rfl | exact ksub rfl (by first | omega | (simp; done) | (simp; omega))), trivial⟩ (fun _ s => s.pick [1, 2] (by decide) rfl)
    · refine wp_sk (qs_bn (qs_n (wp_sq ?_))); refine sq_v rfl (v_add rfl rfl ((by unfold I64; omega))) rfl ?_; refine sq_v rfl (v_move rfl) rfl (sq_end ?_); exact qs_bk (i + 1, lv, lh) ⟨by (try dsimp only); omega, by (try dsimp only); rw [filter_no (by omega) (by simpa using c19)]; exact q⟩ (by simp only; omega) ⟨rfl, rfl, (by first | rfl | exact ksub rfl (by first | omega | (simp; done) | (simp; omega))), rfl, rfl, (by first | rfl | exact ksub rfl (by first | omega | (simp; done) | (simp; omega))), trivial⟩ (fun _ s => s)
  · refine wp_ex (qs_x (qs_x (qs_bx (qs_n (wp_sc (wp_sq (sq_v rfl (v_move rfl) rfl (sq_v rfl (v_assign rfl) rfl (sq_end (qs_n (wp_rt ?_))))))))))); exact qs_ret1 rfl rfl (fin_t 0 (i := 1) rfl rfl rfl (by rw [List.take_of_length_le (by omega)] at q; exact q))
theorem joinI_len (xs ys : List Int) : (joinI xs ys).length ≤ xs.length + ys.length := by
  have := List.length_filter_le (fun x => decide (x ∉ xs)) ys; simp only [joinI, List.length_append]
  omega
def keptTo (op : List Int) (lv : List Lv) (p q : Int) (j : Nat) (x : Int) : Prop := x ∈ op ∨ ∃ k, k < j ∧ (k : Int) ≠ p ∧ (k : Int) ≠ q ∧ ∃ y, lv[k]? = some y ∧ x ∈ y.l
theorem keptTo_yes {op : List Int} {lv : List Lv} {p q : Int} {j : Nat} {x : Int} {y : Lv} (hy : lv[j]? = some y) (h1 : (j : Int) ≠ p) (h2 : (j : Int) ≠ q) (h3 : x ∈ y.l) : keptTo op lv p q (j + 1) x := .inr ⟨j, by omega, h1, h2, y, hy, h3⟩
theorem keptTo_no {op : List Int} {lv : List Lv} {p q : Int} {j : Nat} {x : Int} {y : Lv} (hy : lv[j]? = some y) (h : (j : Int) = p ∨ (j : Int) = q ∨ x ∉ y.l) : keptTo op lv p q (j + 1) x ↔ keptTo op lv p q j x := by
  refine or_congr Iff.rfl ⟨?_, fun ⟨k, h1, h2⟩ => ⟨k, by omega, h2⟩⟩; rintro ⟨k, h1, h2, h3, y', h4, h5⟩
  by_cases e : k = j
  · subst e; rw [hy] at h4
    cases h4
    rcases h with h | h | h
    · exact absurd h h2
    · exact absurd h h3
    · exact absurd h5 h
  · exact ⟨k, by omega, h2, h3, y', h4, h5⟩
theorem keptTo_end {op : List Int} {s : Sh} {p q : Int} {a b : Nat} (h0 : 0 ≤ p) (h1 : 0 ≤ q) (hp : s.ixs[p.toNat]? = some a) (hq : s.ixs[q.toNat]? = some b) (x : Int) : keptTo op s.lv p q s.lv.length x ↔ s.kept op a b x := by
  rw [kept_places hp hq]; refine or_congr Iff.rfl (exists_congr fun k => and_congr Iff.rfl (and_congr ⟨fun h => by omega, fun h => by omega⟩ (and_congr ⟨fun h => by omega, fun h => by omega⟩ Iff.rfl)))
set_option maxHeartbeats 1000000 in
theorem ct_i_resultLabels (arr op : List Int) (vo lvv : Value) (s : Sh) (bb : Nat) (p q : Int) (a b : Nat) (w : World) (r : StR arr vo lvv s bb (hp w)) (ro : IntsR op vo (hp w)) (h0 : 0 ≤ p) (h1 : 0 ≤ q) (hpa : s.ixs[p.toNat]? = some a) (hqb : s.ixs[q.toNat]? = some b) (hsz : (s.lab a).length + (s.lab b).length ≤ 100000) :
    Calls Tryz.prog 89 [.pointer (some ⟨bb, 0, none⟩), num p, num q].toArray w (Ret w emp (IntsO (s.res op a b))) := by
  have rl := r.live; have hll := lv_len s; have hpl := (List.getElem?_eq_some_iff.1 hpa).1; have hql := (List.getElem?_eq_some_iff.1 hqb).1; refine calls_in Tryz.func89 rfl Tryz.ntmps89 rfl (Sat.start w) ?_; have hle0 := ro.le; have hle1 := rl.le; obtain ⟨cs_rl, rr_rl, hc_rl⟩ := rl.at; refine wp_sc (wp_sq (sq_v rfl (v_assign rfl) rfl (sq_end (qs_n (wp_sc (wp_sq (sq_v rfl (v_assign rfl) rfl (sq_end (qs_n (wp_sc (wp_sc (wp_rj 19 [(0, true), (1, true), (2, true), (3, true), (4, true), (5, true), (6, true), (7, true), (8, true), (9, true), (10, true), (11, true), (12, true), (13, true), (14, true), (15, true), (18, true), (16, false), (17, true)] mixed_ok (by kernel_rfl) (rj_v rfl rfl (v_move rfl) rfl (rj_v rfl rfl (v_nilCheck rfl) rfl (rj_v rfl rfl (v_fieldAddr fd_131_2 ty_129 (by decide) rfl) rfl (rj_v rfl rfl (v_load 0 ty_129 rfl rfl r.c101) rfl (rj_v rfl rfl (v_move rfl) rfl ?_))))))))))))))))); obtain ⟨x18, a18, hx18, hcs18, rl18⟩ := hc_rl ((p : Int).toNat) (by first | omega | (rw [List.length_set]; omega)); refine rj_v rfl rfl (v_indexAddr Tryz.underlying129 ty_133 rfl rfl rr_rl (by decide) (by omega) (by omega)) rfl ?_; refine rj_v rfl rfl (v_fieldAddrE fd_133_1 ty_26 (by decide) rfl rr_rl (by have := rr_rl.1; first | omega | (simp only [Int.toNat_natCast]; omega) | (rw [stepCells_len, List.length_set]; omega))) rfl ?_; refine rj_v rfl rfl (v_loadE 0 ty_26 rfl rfl rr_rl (sub_get hcs18 (j := 1) rfl)) rfl (rj_v rfl rfl (v_move rfl) rfl (rj_v rfl rfl (v_nilCheck rfl) rfl (rj_v rfl rfl (v_fieldAddr fd_131_2 ty_129 (by decide) rfl) rfl (rj_v rfl rfl (v_load 0 ty_129 rfl rfl r.c101) rfl (rj_v rfl rfl (v_move rfl) rfl ?_))))); obtain ⟨x26, a26, hx26, hcs26, rl26⟩ := hc_rl ((q : Int).toNat) (by first | omega | (rw [List.length_set]; omega)); refine rj_v rfl rfl (v_indexAddr Tryz.underlying129 ty_133 rfl rfl rr_rl (by decide) (by omega) (by omega)) rfl ?_; refine rj_v rfl rfl (v_fieldAddrE fd_133_1 ty_26 (by decide) rfl rr_rl (by have := rr_rl.1; first | omega | (simp only [Int.toNat_natCast]; omega) | (rw [stepCells_len, List.length_set]; omega))) rfl ?_; refine rj_v rfl rfl (v_loadE 0 ty_26 rfl rfl rr_rl (sub_get hcs26 (j := 1) rfl)) rfl (rj_v rfl rfl (v_move rfl) rfl ?_); obtain ⟨i18, hi18, e18⟩ := lv_get hx18; obtain ⟨i26, hi26, e26⟩ := lv_get hx26; rw [hpa] at hi18; rw [hqb] at hi26; cases hi18; cases hi26; have l18 : x18.l = s.lab a := (by rw [e18]); have l26 : x26.l = s.lab b := (by rw [e26]); have hjl := joinI_len x18.l x26.l; rw [l18, l26] at hjl; refine rj_x rfl rfl (x_call rfl en_102 (fun w s => ct_i_joinLabels _ _ _ _ w (rl18.mono (s.get 0 rfl)) (rl26.mono (s.get 0 rfl)) (by rw [l18, l26]; omega))) rfl ?_; rintro v29 h29 r29; refine rj_v rfl rfl (v_len Tryz.underlying26 rfl r29.toR.sl) rfl (rj_end (qs_n (wp_bl ?_))); refine wp_lp (σ := Nat × Value × PH) (fun z_ => [(0, .pointer (some ⟨bb, 0, none⟩)), (1, num p), (2, num q), (6, .slice none 0 0), (7, z_.2.1), (29, v29), (30, num (joinI x18.l x26.l).length), (31, num z_.1)]) (fun z_ => [z_.2.2, h29, hp w]) (fun z_ => z_.1 ≤ (joinI x18.l x26.l).length ∧ IntsO (((joinI x18.l x26.l).take z_.1).filter fun y => @decide (s.kept op a b y) (Classical.propDecidable _)) z_.2.1 z_.2.2) (fun z_ => (joinI x18.l x26.l).length - z_.1) (0, .slice none 0 0, emp) (⟨by (try dsimp only); omega, IntsO.nil⟩) ⟨rfl, rfl, rfl, rfl, (by first | rfl | exact ksub rfl (by first | omega | (simp; done) | (simp; omega))), rfl, rfl, (by first | rfl | exact ksub rfl (by first | omega | (simp; done) | (simp; omega))), trivial⟩ (fun _ s => (emp_sat s)) ?_; rintro ⟨i, ov, oh⟩ ⟨hi, q'⟩; dsimp only at hi q' ⊢; have hle_q' := q'.toR.le; have hfl := filter_take_len (joinI x18.l x26.l) (fun y => @decide (s.kept op a b y) (Classical.propDecidable _)) i; have hjl' : (joinI x18.l x26.l).length ≤ 100000 := by rw [l18, l26]; omega
  refine wp_sc (wp_sq (sq_v rfl (v_lss rfl rfl) rfl (sq_end (qs_n (wp_sc ?_))))); refine wp_cd rfl (fun c32 => ?_) (fun c32 => ?_)
  · refine wp_sk (qs_n (wp_sc (wp_bl (wp_sc (wp_sq ?_))))); refine sq_v rfl (v_idxI Tryz.underlying26 ty_3 rfl rfl r29.toR (by first | omega | (simp; omega) | (simp only [List.length_append, List.length_cons, List.length_nil]; omega) | (rw [List.length_set]; omega)) (by first | omega | (simp; omega) | (simp only [List.length_append, List.length_cons, List.length_nil]; omega) | (rw [List.length_set]; omega))) rfl ?_; refine sq_v rfl (v_loadI (k := i) 1 ty_3 rfl rfl r29.toR (by first | omega | (simp; omega) | (simp only [List.length_append, List.length_cons, List.length_nil]; omega) | (rw [List.length_set]; omega))) rfl ?_; refine sq_v rfl (v_assign rfl) rfl (sq_end (qs_n (wp_sc (wp_sq (sq_v rfl (v_move rfl) rfl (sq_v rfl (v_nilCheck rfl) rfl (sq_v rfl (v_fieldAddr fd_131_1 ty_26 (by decide) rfl) rfl (sq_v rfl (v_load 2 ty_26 rfl rfl r.c100) rfl (sq_v rfl (v_move rfl) rfl (sq_u rfl (x_callv rfl en_23 (fun w s => ct_i_hasInt _ _ _ w (ro.mono (s.get 2 rfl)))) rfl (sq_v rfl (v_assign rfl) rfl (sq_end (qs_n (wp_sc (wp_sc (wp_sq (sq_v rfl (v_move rfl) rfl (sq_v rfl (v_nilCheck rfl) rfl ?_)))))))))))))))))); refine sq_v rfl (v_fieldAddr fd_131_2 ty_129 (by decide) rfl) rfl (sq_v rfl (v_load 2 ty_129 rfl rfl r.c101) rfl (sq_v rfl (v_len Tryz.underlying129 rfl rl.sl) rfl (sq_v rfl (v_move rfl) rfl (sq_end (qs_n (wp_bl ?_)))))); refine wp_lp (σ := Nat × Bool) (fun z_ => [(0, .pointer (some ⟨bb, 0, none⟩)), (1, num p), (2, num q), (6, .slice none 0 0), (7, ov), (9, num ((joinI x18.l x26.l).getD i 0)), (10, .bool z_.2), (29, v29), (30, num (joinI x18.l x26.l).length), (31, num i), (32, .bool (decide ((i : Int) < (joinI x18.l x26.l).length))), (34, num ((joinI x18.l x26.l).getD i 0)), (35, .pointer (some ⟨bb, 0, none⟩)), (36, .pointer (some ⟨bb, 0, none⟩)), (37, .pointer (some ⟨bb, 100, none⟩)), (38, vo), (39, num ((joinI x18.l x26.l).getD i 0)), (40, .bool (decide (((joinI x18.l x26.l).getD i 0) ∈ op))), (41, .pointer (some ⟨bb, 0, none⟩)), (42, .pointer (some ⟨bb, 0, none⟩)), (43, .pointer (some ⟨bb, 101, none⟩)), (44, lvv), (45, num s.lv.length), (46, num z_.1)]) (fun z_ => [oh, h29, hp w]) (fun z_ => z_.1 ≤ s.lv.length ∧ (z_.2 = true ↔ keptTo op s.lv p q z_.1 ((joinI x18.l x26.l).getD i 0))) (fun z_ => s.lv.length - z_.1) (0, decide ((joinI x18.l x26.l).getD i 0 ∈ op)) (⟨by (try dsimp only); omega, by (try dsimp only); simp [keptTo]⟩) ⟨rfl, rfl, rfl, rfl, rfl, rfl, (by first | rfl | exact ksub rfl (by first | omega | (simp; done) | (simp; omega))), rfl, rfl, rfl, rfl, rfl, rfl, rfl, rfl, rfl, rfl, rfl, rfl, rfl, rfl, rfl, rfl, (by first | rfl | exact ksub rfl (by first | omega | (simp; done) | (simp; omega))), trivial⟩ (fun _ s => s) ?_; rintro ⟨j, kb⟩ ⟨hj, hk⟩; dsimp only at hj hk ⊢; have hpn : ∀ z : Nat, (z : Int) = p → z = p.toNat := fun z h => by omega
    refine wp_sc (wp_sq (sq_v rfl (v_lss rfl rfl) rfl (sq_end (qs_n (wp_sc ?_))))); refine wp_cd rfl (fun c47 => ?_) (fun c47 => ?_)
    · refine wp_sk (qs_n (wp_sc (wp_bl (wp_sc (wp_sq (sq_v rfl (v_move rfl) rfl ?_)))))); obtain ⟨x49, a49, hx49, hcs49, rl49⟩ := hc_rl (j) (by first | omega | (rw [List.length_set]; omega)); refine sq_v rfl (v_indexAddr Tryz.underlying129 ty_133 rfl rfl rr_rl (by decide) (by omega) (by omega)) rfl ?_; refine sq_v rfl (v_loadNE 2 ty_133 rfl rfl rr_rl (by have := rr_rl.1; omega) rfl hcs49) rfl ?_; refine sq_x rfl (x_alloc ty_133 rfl) rfl ?_; rintro _ _ ⟨b12, rfl, rfl⟩; refine sq_v rfl (v_assign rfl) rfl ?_; refine sq_m 0 rfl rfl (m_store 0 ty_133 rfl rfl rfl rfl (by simp [one_int, rl49.sl.one]) rfl (Nat.le_of_ble_eq_true rfl)) rfl ?_; rintro _ _ ⟨rfl, rfl⟩; refine sq_end (qs_n (wp_sc (wp_sq (sq_v rfl (v_move rfl) rfl (sq_v rfl (v_move rfl) rfl (sq_v rfl (v_neq rfl rfl) rfl ?_)))))); refine sq_bd 53 rfl (fun c53 => ?_) (fun c53 => ?_)
      · refine sq_v rfl (v_move rfl) rfl (sq_v rfl (v_move rfl) rfl (sq_v rfl (v_move rfl) rfl (sq_v rfl (v_neq rfl rfl) rfl (sq_v rfl (v_pickt rfl rfl) rfl ?_)))); refine sq_bd 58 rfl (fun c58 => ?_) (fun c58 => ?_)
        · refine sq_v rfl (v_move rfl) rfl (sq_v rfl (v_fieldAddr fd_133_1 ty_26 (by decide) rfl) rfl (sq_v rfl (v_loadB 0 ty_26 rfl rfl rfl) rfl (sq_v rfl (v_move rfl) rfl (sq_u rfl (x_callv rfl en_23 (fun w s => ct_i_hasInt _ _ _ w (rl49.mono (s.get 3 rfl)))) rfl (sq_v rfl (v_pickt rfl rfl) rfl (sq_end (qs_n ?_))))))); refine wp_cd rfl (fun c64 => ?_) (fun c64 => ?_)
          · refine wp_sq (sq_v rfl (v_assign rfl) rfl (sq_end (qs_bn (qs_n (wp_sq ?_))))); refine sq_v rfl (v_add rfl rfl ((by unfold I64; omega))) rfl ?_; refine sq_v rfl (v_move rfl) rfl (sq_end ?_); exact qs_bk (j + 1, true) ⟨by (try dsimp only); omega, by (try dsimp only); simp only [true_iff]; exact keptTo_yes hx49 (by omega) (by omega) (by simpa using c64)⟩ (by simp only; omega) ⟨rfl, rfl, rfl, rfl, rfl, rfl, (by first | rfl | exact ksub rfl (by first | omega | (simp; done) | (simp; omega))), rfl, rfl, rfl, rfl, rfl, rfl, rfl, rfl, rfl, rfl, rfl, rfl, rfl, rfl, rfl, rfl, (by first | rfl | exact ksub rfl (by first | omega | (simp; done) | (simp; omega))), trivial⟩ (fun _ s => s.pick [1, 2, 3] (by decide) rfl)
          · refine wp_sk (qs_bn (qs_n (wp_sq ?_))); refine sq_v rfl (v_add rfl rfl ((by unfold I64; omega))) rfl ?_; refine sq_v rfl (v_move rfl) rfl (sq_end ?_); exact qs_bk (j + 1, kb) ⟨by (try dsimp only); omega, by (try dsimp only); rw [keptTo_no hx49 (.inr (.inr (by simpa using c64)))]; exact hk⟩ (by simp only; omega) ⟨rfl, rfl, rfl, rfl, rfl, rfl, (by first | rfl | exact ksub rfl (by first | omega | (simp; done) | (simp; omega))), rfl, rfl, rfl, rfl, rfl, rfl, rfl, rfl, rfl, rfl, rfl, rfl, rfl, rfl, rfl, rfl, (by first | rfl | exact ksub rfl (by first | omega | (simp; done) | (simp; omega))), trivial⟩ (fun _ s => s.pick [1, 2, 3] (by decide) rfl)
        · refine sq_v rfl (v_move rfl) rfl (sq_s rfl rfl (sq_s rfl rfl (sq_s rfl rfl (sq_s rfl rfl (sq_v rfl (v_pickf rfl rfl) rfl (sq_end (qs_n (wp_cf rfl (wp_sk (qs_bn (qs_n (wp_sq ?_)))))))))))); refine sq_v rfl (v_add rfl rfl ((by unfold I64; omega))) rfl ?_; refine sq_v rfl (v_move rfl) rfl (sq_end ?_); exact qs_bk (j + 1, kb) ⟨by (try dsimp only); omega, by (try dsimp only); rw [keptTo_no hx49 (.inr (.inl (by omega)))]; exact hk⟩ (by simp only; omega) ⟨rfl, rfl, rfl, rfl, rfl, rfl, (by first | rfl | exact ksub rfl (by first | omega | (simp; done) | (simp; omega))), rfl, rfl, rfl, rfl, rfl, rfl, rfl, rfl, rfl, rfl, rfl, rfl, rfl, rfl, rfl, rfl, (by first | rfl | exact ksub rfl (by first | omega | (simp; done) | (simp; omega))), trivial⟩ (fun _ s => s.pick [1, 2, 3] (by decide) rfl)
      · refine sq_v rfl (v_move rfl) rfl (sq_s rfl rfl (sq_s rfl rfl (sq_s rfl rfl (sq_v rfl (v_pickf rfl rfl) rfl (sq_v rfl (v_move rfl) rfl (sq_s rfl rfl (sq_s rfl rfl (sq_s rfl rfl (sq_s rfl rfl ?_))))))))); refine sq_v rfl (v_pickf rfl rfl) rfl (sq_end (qs_n (wp_cf rfl (wp_sk (qs_bn (qs_n (wp_sq ?_))))))); refine sq_v rfl (v_add rfl rfl ((by unfold I64; omega))) rfl ?_; refine sq_v rfl (v_move rfl) rfl (sq_end ?_); exact qs_bk (j + 1, kb) ⟨by (try dsimp only); omega, by (try dsimp only); rw [keptTo_no hx49 (.inl (by omega))]; exact hk⟩ (by simp only; omega) ⟨rfl, rfl, rfl, rfl, rfl, rfl, (by first | rfl | exact ksub rfl (by first | omega | (simp; done) | (simp; omega))), rfl, rfl, rfl, rfl, rfl, rfl, rfl, rfl, rfl, rfl, rfl, rfl, rfl, rfl, rfl, rfl, (by first | rfl | exact ksub rfl (by first | omega | (simp; done) | (simp; omega))), trivial⟩ (fun _ s => s.pick [1, 2, 3] (by decide) rfl)
    · refine wp_ex (qs_x (qs_x (qs_bx (qs_n (wp_sc (wp_sq ?_)))))); rw [show j = s.lv.length by omega, keptTo_end h0 h1 hpa hqb] at hk; refine sq_v rfl (v_move rfl) rfl (sq_end (qs_n ?_)); refine wp_cb _ rfl (fun c66 => ?_) (fun c66 => ?_)
      · refine wp_sq (sq_v rfl (v_move rfl) rfl (sq_v rfl (v_move rfl) rfl ?_)); refine sq_x rfl (x_buildS [num ((joinI x18.l x26.l).getD i 0)] Tryz.underlying26 ty_3 (by decide) rfl rfl rfl (by decide) (by decide) (by intro v hv; simp at hv; rcases hv with rfl <;> rfl)) rfl ?_; intro v69 h69 (r69 : IntsO [(joinI x18.l x26.l).getD i 0] v69 h69); refine sq_m 1 rfl rfl (m_appI 1 0 Tryz.underlying26 ty_3 rfl rfl rfl rfl q' rfl r69.toR (by first | omega | (simp; omega) | (simp only [List.length_append, List.length_cons, List.length_nil]; omega) | (rw [List.length_set]; omega))) rfl ?_; intro v70 h_r70 r70; refine sq_v rfl (v_assign rfl) rfl (sq_end (qs_bn (qs_n (wp_sq ?_)))); refine sq_v rfl (v_add rfl rfl ((by unfold I64; omega))) rfl ?_; refine sq_v rfl (v_move rfl) rfl (sq_end ?_); exact qs_bk (i + 1, v70, h_r70) ⟨by (try dsimp only); omega, by (try dsimp only); rw [filter_yes (by omega) (by simpa using hk.1 c66)]; exact r70⟩ (by simp only; omega) ⟨rfl, rfl, rfl, rfl, (by first | rfl | exact ksub rfl (by first | omega | (simp; done) | (simp; omega))), rfl, rfl, (by first | rfl | exact ksub rfl (by first | omega | (simp; done) | (simp; omega))), trivial⟩ (fun _ s => s.pick [1, 2, 3] (by decide) rfl)
      · refine wp_sk (qs_bn (qs_n (wp_sq ?_))); refine sq_v rfl (v_add rfl rfl ((by unfold I64; omega))) rfl ?_; refine sq_v rfl (v_move rfl) rfl (sq_end ?_); exact qs_bk (i + 1, ov, oh) ⟨by (try dsimp only); omega, by (try dsimp only); rw [filter_no (by omega) (by simp only [decide_eq_false_iff_not]; intro h; rw [hk.2 h] at c66; cases c66)]; exact q'⟩ (by simp only; omega) ⟨rfl, rfl, rfl, rfl, (by first | rfl | exact ksub rfl (by first | omega | (simp; done) | (simp; omega))), rfl, rfl, (by first | rfl | exact ksub rfl (by first | omega | (simp; done) | (simp; omega))), trivial⟩ (fun _ s => s)
  · refine wp_ex (qs_x (qs_x (qs_bx (qs_n (wp_sc (wp_sq (sq_v rfl (v_move rfl) rfl (sq_v rfl (v_assign rfl) rfl (sq_end (qs_n (wp_rt ?_))))))))))); exact qs_ret1 rfl rfl (fin_t 0 (i := 2) rfl rfl rfl (by rw [List.take_of_length_le (by omega), l18, l26] at q'; exact q'))
end Go.Proofs.YtdkgaejmgnojhaaGreat
