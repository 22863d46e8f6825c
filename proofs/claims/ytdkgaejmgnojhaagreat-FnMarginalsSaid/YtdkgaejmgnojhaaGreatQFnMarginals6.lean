/-
  Parts of the proof of FnMarginals: laws of heaps, contracts of functions.
  Conditions: none.
-/
import Derived.Test.YtdkgaejmgnojhaaGreatQFnMarginals5
namespace Go.Proofs.YtdkgaejmgnojhaaGreat
set_option maxRecDepth 100000
open Go.RowKit
theorem triO_none : TriO ⟨[], [], []⟩ (.slice none 0 0) (.slice none 0 0) (.slice none 0 0) emp :=
  ⟨emp, emp, emp, IntsO.nil, IntsO.nil, IntsO.nil, ⟨by simp [sepL, PDj.emp], fun x hx => by simp at hx; subst hx; exact PLe.emp _, fun k o e => by cases e⟩⟩
def keepL (t u : Ten) (ks : List Int) : List Int := (joinI t.l u.l).filter fun x => decide (x ∈ ks)
def pairP (k p n : Int) (t u : Ten) (ks : List Int) : Prop := tensorL k p n t.l t.d t.x ∧ tensorL k p n u.l u.d u.x ∧ ¬ mism t u ∧ prodI (joinD t u) ≤ 65536 ∧ 0 ≤ sizeI (keepL t u ks) ((keepL t u ks).map (dimJ t u))
open Classical in
noncomputable def pairB (k p n : Int) (t u : Ten) (ks : List Int) : Bool := decide (pairP k p n t u ks)
open Classical in
noncomputable def pairR (k p n : Int) (t u : Ten) (ks : List Int) : Ten := if pairP k p n t u ks then pairT k p n (dimJ t u) t u (keepL t u ks) else ⟨[], [], []⟩
theorem PairNo {k p n : Int} {t u : Ten} {ks : List Int} (h : ¬ pairP k p n t u ks) : TenB (pairR k p n t u ks) (pairB k p n t u ks) (.tuple [tenV (.slice none 0 0) (.slice none 0 0) (.slice none 0 0), .bool false].toArray) emp :=
  ⟨.slice none 0 0, .slice none 0 0, .slice none 0 0, by simp [pairB, h], by rw [pairR, if_neg h]; exact triO_none⟩
theorem PairYes {k p n : Int} {t u : Ten} {ks : List Int} {a b c : Value} {h : PH} (hp : pairP k p n t u ks) (r : TriO (pairT k p n (dimJ t u) t u (keepL t u ks)) a b c h) : TenB (pairR k p n t u ks) (pairB k p n t u ks) (.tuple [tenV a b c, .bool true].toArray) h :=
  ⟨a, b, c, by simp [pairB, hp], by rw [pairR, if_pos hp]; exact r⟩
theorem pairP.dims {k p n : Int} {t u : Ten} (h1 : tensorL k p n t.l t.d t.x) (h2 : tensorL k p n u.l u.d u.x) (h3 : ¬ mism t u) : t.d = t.l.map (dimJ t u) ∧ u.d = u.l.map (dimJ t u) ∧ joinD t u = (joinI t.l u.l).map (dimJ t u) := by
  have e1 := dimJ_l (u := u) (axes_nodup (ten_axes h1)) (ten_axes h1).2.1; have e2 := dimJ_r (axes_nodup (ten_axes h2)) (ten_axes h2).2.1 h3; exact ⟨e1, e2, joinD_map e1 e2⟩
theorem pair_ok {k p n : Int} {t u : Ten} (h1 : tensorL k p n t.l t.d t.x) (h2 : tensorL k p n u.l u.d u.x) (h3 : ¬ mism t u) (h4 : prodI (joinD t u) ≤ 65536) : PairOK k p n t u (dimJ t u) := by
  have e := pairP.dims h1 h2 h3; exact ⟨h1, h2, e.1, e.2.1, by rw [← e.2.2]; exact h4⟩
theorem keep_ok {k p n : Int} {t u : Ten} {ks : List Int} (ok : PairOK k p n t u (dimJ t u)) (h : 0 ≤ sizeI (keepL t u ks) ((keepL t u ks).map (dimJ t u))) : KeepOK t u (dimJ t u) (keepL t u ks) :=
  ⟨fun _ hl => (List.mem_filter.1 hl).1, List.Pairwise.filter _ ok.nd, (sizeI_ge.1 h).2⟩
theorem selP_prod (p : Int → Bool) : ∀ ls ds : List Int, (∀ d ∈ ds, 1 ≤ d) → 1 ≤ prodI (selP p ls ds) ∧ prodI (selP p ls ds) ≤ prodI ds
  | [], ds, h => by
    have := prodI_one h
    cases ds <;> simp [selP, prodI] at * <;> omega
  | l :: ls, [], _ => by simp [selP, prodI]
  | l :: ls, d :: ds, h => by
    have ih := selP_prod p ls ds (fun x hx => h x (by simp [hx])); have hd := h d (by simp); simp only [selP]; have h1 : 1 * prodI ds ≤ d * prodI ds := Int.mul_le_mul_of_nonneg_right hd (by omega)
    split
    · rw [prodI_cons, prodI_cons]; have h2 : d * prodI (selP p ls ds) ≤ d * prodI ds := Int.mul_le_mul_of_nonneg_left ih.2 (by omega); have h3 : 1 * 1 ≤ d * prodI (selP p ls ds) := Int.mul_le_mul hd ih.1 (by omega) (by omega)
      omega
    · rw [prodI_cons]; omega
theorem joinD_prod {k p n : Int} {t u : Ten} (h1 : tensorL k p n t.l t.d t.x) (h2 : tensorL k p n u.l u.d u.x) : dimsIn (joinD t u) ∧ 1 ≤ prodI (joinD t u) ∧ prodI (joinD t u) ≤ 16777216 := by
  have a1 := dims_mem (axes_dims (ten_axes h1)); have a2 := dims_mem (axes_dims (ten_axes h2)); have p1 := prodI_one fun d hd => (a1 d hd).1; have s := selP_prod (fun x => decide (x ∉ t.l)) u.l u.d fun d hd => (a2 d hd).1; have b1 := ten_prod h1; have b2 := ten_prod h2; have hm : ∀ (p : Int → Bool) (ls ds : List Int) d, d ∈ selP p ls ds → d ∈ ds := by
    intro p ls
    induction ls with
    | nil => intro ds d hd; cases ds <;> simp [selP] at hd
    | cons l ls ih =>
      intro ds d hd
      cases ds with
      | nil => simp [selP] at hd
      | cons e ds =>
        simp only [selP] at hd
        split at hd
        · rcases List.mem_cons.1 hd with rfl | hd
          · simp
          · exact List.mem_cons_of_mem _ (ih ds d hd)
        · exact List.mem_cons_of_mem _ (ih ds d hd)
  refine ⟨fun j hj => ?_, ?_⟩
  · have := mem_getD hj
    rcases List.mem_append.1 this with h | h
    · exact a1 _ h
    · exact a2 _ (hm _ _ _ _ h)
  · rw [joinD, prodI_append]; have h3 : 1 * 1 ≤ prodI t.d * prodI (selP (fun x => decide (x ∉ t.l)) u.l u.d) := Int.mul_le_mul p1 s.1 (by omega) (by omega); have h4 : prodI t.d * prodI (selP (fun x => decide (x ∉ t.l)) u.l u.d) ≤ 4096 * 4096 := Int.mul_le_mul b1 (by omega) (by omega) (by omega)
    omega
theorem ct_u_joinAxes (t u : Ten) (a b c a' b' c' : Value) (w : World) (r1 : IntsR t.l a (hp w)) (r2 : IntsR t.d b (hp w)) (r3 : IntsR t.x c (hp w)) (r1' : IntsR u.l a' (hp w)) (r2' : IntsR u.d b' (hp w)) (r3' : IntsR u.x c' (hp w)) (ht : t.l.length = t.d.length) (hu : u.l.length = u.d.length) (htn : t.l.Nodup) (hn : u.l.Nodup) (hs : t.l.length + u.l.length ≤ 100000) :
    Calls Tryz.prog 70 [tenV a b c, tenV a' b' c'].toArray w (Ret w emp (fun x h => ∃ v1 v2 bb L D, x = .tuple [v1, v2, .bool bb].toArray ∧ IntsR L v1 h ∧ IntsR D v2 h ∧ (bb = true ↔ ¬ mism t u) ∧ (bb = true → L = joinI t.l u.l ∧ D = joinD t u))) :=
  (ct_i_joinAxes t u a b c a' b' c' w r1 r2 r3 r1' r2' r3' ht hu htn hn hs).mono fun _ _ hh => by
    obtain ⟨x, h', h1, h2, h3⟩ := hh; refine ⟨x, h', h1, h2, ?_⟩
    by_cases hm : mism t u
    · exact ⟨_, _, false, [], [], h3.1 hm, IntsR.nil _, IntsR.nil _, ⟨fun e => (by cases e), fun e => absurd hm e⟩, fun e => (by cases e)⟩
    · obtain ⟨v1, v2, e, q1, q2⟩ := h3.2 hm; exact ⟨v1, v2, true, _, _, e, q1, q2, ⟨fun _ => hm, fun _ => rfl⟩, fun _ => ⟨rfl, rfl⟩⟩
theorem setif_yes {A B L : List Int} {i j : Nat} {y z : Int} (hB : B = if y ∈ L.take j then A.set i z else A) (hj : j < L.length) (e : L.getD j 0 = y) : B.set i z = if y ∈ L.take (j + 1) then A.set i z else A := by
  rw [if_pos (by rw [take_succ hj, e]; simp), hB]
  split
  · rw [List.set_set]
  · rfl
theorem setif_no {A B L : List Int} {i j : Nat} {y z : Int} (hB : B = if y ∈ L.take j then A.set i z else A) (hj : j < L.length) (e : ¬ L.getD j 0 = y) : B = if y ∈ L.take (j + 1) then A.set i z else A := by
  have : y ∈ L.take (j + 1) ↔ y ∈ L.take j := by
    rw [take_succ hj, List.mem_append]; exact ⟨fun h => h.resolve_right fun h => by simp at h; exact e h.symm, .inl⟩
  rw [hB]
  by_cases h : y ∈ L.take j
  · rw [if_pos h, if_pos (this.2 h)]
  · rw [if_neg h, if_neg fun h' => h (this.1 h')]
set_option maxHeartbeats 8000000 in
theorem ct_i_ContractPair (k p n : Int) (t u : Ten) (ks : List Int) (a b c a' b' c' v : Value) (w : World) (r1 : IntsR t.l a (hp w)) (r2 : IntsR t.d b (hp w)) (r3 : IntsR t.x c (hp w)) (r1' : IntsR u.l a' (hp w)) (r2' : IntsR u.d b' (hp w)) (r3' : IntsR u.x c' (hp w)) (rk : IntsR ks v (hp w)) :
    Calls Tryz.prog 35 [ringV k p n, tenV a b c, tenV a' b' c', v].toArray w (Ret w emp (TenB (pairR k p n t u ks) (pairB k p n t u ks))) := by
  have hkr : ∀ {L : List Int} {d : List Int}, 0 ≤ sizeI L d → L.length ≤ 12 ∧ d.length ≤ 12 ∧ dimsIn d := fun {L d} h => by
    have := (sizeI_ge.1 h).1; have h1 := this.1; have h2 := this.2.1; exact ⟨h1, by omega, axes_dims this⟩
  refine calls_in Tryz.func35 rfl Tryz.ntmps35 rfl (Sat.start w) ?_; have hle0 := r1.le; have hle1 := r2.le; have hle2 := r3.le; have hle3 := r1'.le; have hle4 := r2'.le; have hle5 := r3'.le; have hle6 := rk.le; refine wp_sc (wp_sq ?_); refine sq_x rfl (x_box rfl rfl) rfl ?_; rintro _ _ ⟨b4, rfl, rfl⟩; refine sq_x rfl (x_box rfl rfl) rfl ?_; rintro _ _ ⟨b5, rfl, rfl⟩; refine sq_x rfl (x_box rfl rfl) rfl ?_; rintro _ _ ⟨b6, rfl, rfl⟩; refine sq_x rfl (x_alloc ty_40 rfl) rfl ?_; rintro _ _ ⟨b8, rfl, rfl⟩; refine sq_v rfl (v_assign rfl) rfl (sq_end (qs_n (wp_sc (wp_sc (wp_sq (sq_v rfl (v_loadNB 3 ty_24 rfl rfl rfl rfl) rfl (sq_v rfl (v_loadNB 2 ty_40 rfl rfl rfl rfl) rfl (sq_u rfl (x_callv rfl en_34 (fun w s => ct_i_TensorOk _ _ _ _ _ _ _ _ _ w (r1.mono (s.get 4 rfl)) (r2.mono (s.get 4 rfl)) (r3.mono (s.get 4 rfl)))) rfl ?_)))))))); refine sq_bb 26 rfl (fun c26 => ?_) (fun c26 => ?_)
  · refine sq_v rfl (v_not rfl) rfl (sq_v rfl (v_move rfl) rfl (sq_v rfl (v_loadNB 3 ty_24 rfl rfl rfl rfl) rfl (sq_v rfl (v_loadNB 1 ty_40 rfl rfl rfl rfl) rfl (sq_u rfl (x_callv rfl en_34 (fun w s => ct_i_TensorOk _ _ _ _ _ _ _ _ _ w (r1'.mono (s.get 4 rfl)) (r2'.mono (s.get 4 rfl)) (r3'.mono (s.get 4 rfl)))) rfl (sq_v rfl (v_not rfl) rfl (sq_v rfl (v_pickf rfl rfl) rfl (sq_end (qs_n ?_)))))))); refine wp_cn _ rfl (fun c33 => ?_) (fun c33 => ?_)
    · refine wp_sc (wp_sq (sq_v rfl (v_build [.slice none 0 0, .slice none 0 0, .slice none 0 0] rfl (by kernel_rfl)) rfl ?_)); refine sq_m 0 rfl rfl (m_store 0 ty_40 rfl rfl rfl rfl (by simp [one_sl]) rfl (Nat.le_of_ble_eq_true rfl)) rfl ?_; rintro _ _ ⟨rfl, rfl⟩; refine sq_v rfl (v_assign rfl) rfl (sq_end (qs_n (wp_rt (qs_r ?_)))); exact qs_retct 0 rfl ty_40 rfl rfl rfl rfl (fin_e (i := 4) rfl (PairNo (fun h => by first | exact tensorB_false.1 c26 h.1 | exact tensorB_false.1 c33 h.2.1)))
    · refine wp_sk (qs_n (wp_sc (wp_sq ?_))); have h1 := tensorB_true.1 c26; have h2 := tensorB_true.1 c33; have hat := ten_axes h1; have hau := ten_axes h2; have htl := hat.2.1; have hul := hau.2.1; have h12 := hat.1; have h12' := hau.1; have htn := axes_nodup hat; have hun := axes_nodup hau; have htp := ten_prod h1; have hup := ten_prod h2; have hjd := joinD_prod h1 h2; refine sq_v rfl (v_loadNB 2 ty_40 rfl rfl rfl rfl) rfl (sq_v rfl (v_loadNB 1 ty_40 rfl rfl rfl rfl) rfl ?_); refine sq_x rfl (x_call rfl en_70 (fun w s => ct_u_joinAxes _ _ _ _ _ _ _ _ w (r1.mono (s.get 4 rfl)) (r2.mono (s.get 4 rfl)) (r3.mono (s.get 4 rfl)) (r1'.mono (s.get 4 rfl)) (r2'.mono (s.get 4 rfl)) (r3'.mono (s.get 4 rfl)) (by first | assumption | omega) (by first | assumption | omega) (by first | assumption | omega) (by first | assumption | omega) (by first | assumption | omega))) rfl ?_; rintro _ h38 ⟨v1, v2, bb, L, D, rfl, q1, q2, hbb, hLD⟩; refine sq_v rfl (v_move rfl) rfl (sq_v rfl (v_extract rfl rfl) rfl (sq_v rfl (v_extract rfl rfl) rfl (sq_v rfl (v_extract rfl rfl) rfl (sq_v rfl (v_assign rfl) rfl (sq_v rfl (v_assign rfl) rfl (sq_v rfl (v_assign rfl) rfl (sq_end (qs_n (wp_sc (wp_sc (wp_sq ?_))))))))))); refine sq_bb 12 rfl (fun c12 => ?_) (fun c12 => ?_)
      · refine sq_v rfl (v_move rfl) rfl (sq_v rfl (v_not rfl) rfl (sq_v rfl (v_move rfl) rfl (sq_v rfl (v_move rfl) rfl ?_))); have hnm := hbb.1 c12; obtain ⟨eL, eD⟩ := hLD c12; rw [← eD] at hjd; have hjd1 := hjd.1; have hjl := joinI_len t.l u.l; rw [← eL] at hjl; refine sq_u rfl (x_callv rfl en_71 (fun w s => ct_i_productOf _ _ w (q2.mono (s.get 0 rfl)) (by first | assumption | omega) (by first | assumption | omega))) rfl (sq_v rfl (v_gtr rfl rfl) rfl (sq_v rfl (v_pickf rfl rfl) rfl (sq_end (qs_n ?_)))); refine wp_cd rfl (fun c48 => ?_) (fun c48 => ?_)
        · refine wp_sc (wp_sq (sq_v rfl (v_build [.slice none 0 0, .slice none 0 0, .slice none 0 0] rfl (by kernel_rfl)) rfl ?_)); refine sq_m 1 rfl rfl (m_store 1 ty_40 rfl rfl rfl rfl (by simp [one_sl]) rfl (Nat.le_of_ble_eq_true rfl)) rfl ?_; rintro _ _ ⟨rfl, rfl⟩; refine sq_v rfl (v_assign rfl) rfl (sq_end (qs_n (wp_rt (qs_r ?_)))); exact qs_retct 1 rfl ty_40 rfl rfl rfl rfl (fin_e (i := 5) rfl (PairNo (fun h => by first | exact absurd (c12.symm.trans (hbb.2 h.2.2.1)) (by decide) | (have := h.2.2.2.1; rw [← eD] at this; omega))))
        · refine wp_sk (qs_n (wp_sc (wp_sq (sq_v rfl (v_move rfl) rfl (sq_v rfl (v_move rfl) rfl ?_))))); refine sq_x rfl (x_call rfl en_72 (fun w s => ct_i_keptOnly _ _ _ _ w (q1.mono (s.get 0 rfl)) (rk.mono (s.get 5 rfl)) (by first | assumption | omega))) rfl ?_; rintro v52 h52 r52; refine sq_v rfl (v_assign rfl) rfl (sq_end ?_); obtain ⟨K, hK⟩ : ∃ K, K = L.filter (fun x => decide (x ∈ ks)) := ⟨_, rfl⟩
          have hfl := List.length_filter_le (fun x => decide (x ∈ ks)) L; rw [← hK] at r52 hfl; have hKk : K = keepL t u ks := by rw [hK, eL, keepL]
          have ok := pair_ok h1 h2 hnm (by rw [← eD]; omega); obtain ⟨ht, hu, eJ⟩ := pairP.dims h1 h2 hnm; obtain ⟨f, hf⟩ : ∃ f, f = dimJ t u := ⟨_, rfl⟩
          rw [← hf] at ok ht hu eJ; have eDf : D = L.map f := by rw [eD, eJ, eL]
          have hDL : D.length = L.length := by rw [eDf]; simp
          have hKm : (K.map f).length = K.length := by simp
          have hKL : ∀ x ∈ K, x ∈ L := fun x hx => by rw [hK] at hx; exact (List.mem_filter.1 hx).1
          refine qs_n (wp_sc (wp_sq (sq_v rfl (v_move rfl) rfl (sq_v rfl (v_move rfl) rfl (sq_v rfl (v_len Tryz.underlying26 rfl r52.toR.sl) rfl ?_))))); refine sq_x rfl (x_makeI Tryz.underlying26 ty_3 rfl rfl (by first | omega | (simp; omega) | (simp only [List.length_append, List.length_cons, List.length_nil]; omega) | (rw [List.length_set]; omega)) (by first | omega | (simp; omega) | (simp only [List.length_append, List.length_cons, List.length_nil]; omega) | (rw [List.length_set]; omega)) (by first | omega | (simp; omega) | (simp only [List.length_append, List.length_cons, List.length_nil]; omega) | (rw [List.length_set]; omega))) rfl ?_; intro v56 h56 r56; refine sq_v rfl (v_build [v52, v56, .slice none 0 0] rfl (by obtain ⟨_, _, rfl⟩ := r52.toR.sl; obtain ⟨_, _, rfl⟩ := r56.toR.sl; kernel_rfl)) rfl ?_; refine sq_x rfl (x_alloc ty_40 rfl) rfl ?_; rintro _ _ ⟨b14, rfl, rfl⟩; refine sq_m 0 rfl rfl (m_store 0 ty_40 rfl rfl rfl rfl (by simp [r52.toR.sl.one, r56.toR.sl.one, one_sl]) rfl (Nat.le_of_ble_eq_true rfl)) rfl ?_; rintro _ _ ⟨rfl, rfl⟩; refine sq_end (qs_n (wp_sc (wp_sc (wp_sq (sq_v rfl (v_move rfl) rfl (sq_v rfl (v_len Tryz.underlying26 rfl r52.toR.sl) rfl (sq_v rfl (v_move rfl) rfl (sq_end (qs_n (wp_bl ?_)))))))))); refine wp_lp (σ := Nat × PH) (fun z_ => [(4, .pointer (some ⟨b4, 0, none⟩)), (5, .pointer (some ⟨b5, 0, none⟩)), (6, .pointer (some ⟨b6, 0, none⟩)), (8, .pointer (some ⟨b8, 0, none⟩)), (9, .bool false), (10, v1), (11, v2), (14, .pointer (some ⟨b14, 0, none⟩)), (40, v2), (58, v52), (59, num K.length), (60, num z_.1)]) (fun z_ => [box b14 [v52, v56, .slice none 0 0] 40, z_.2, h52, h38, box b8 [.slice none 0 0, .slice none 0 0, .slice none 0 0] 40, box b6 [a', b', c'] 40, box b5 [a, b, c] 40, box b4 [num k, num p, num n] 24, hp w]) (fun z_ => z_.1 ≤ K.length ∧ IntsO ((K.map f).take z_.1 ++ List.replicate ((K.map f).length - z_.1) 0) v56 z_.2) (fun z_ => K.length - z_.1) (0, h56) (⟨by (try dsimp only); omega, by (try dsimp only); simpa using r56⟩) ⟨rfl, rfl, rfl, rfl, rfl, rfl, rfl, rfl, rfl, rfl, rfl, (by first | rfl | exact ksub rfl (by first | omega | (simp; done) | (simp; omega))), trivial⟩ (fun _ s => s) ?_; rintro ⟨i, g⟩ ⟨hi, q⟩; dsimp only at hi q ⊢; have hle_q := q.toR.le; have hll : ((K.map f).take i ++ List.replicate ((K.map f).length - i) 0).length = K.length := by simp; omega
          refine wp_sc (wp_sq (sq_v rfl (v_lss rfl rfl) rfl (sq_end (qs_n (wp_sc ?_))))); refine wp_cd rfl (fun c61 => ?_) (fun c61 => ?_)
          · refine wp_sk (qs_n (wp_sc (wp_bl (wp_sc (wp_sq (sq_v rfl (v_move rfl) rfl ?_)))))); refine sq_v rfl (v_idxI Tryz.underlying26 ty_3 rfl rfl r52.toR (by first | omega | (simp; omega) | (simp only [List.length_append, List.length_cons, List.length_nil]; omega) | (rw [List.length_set]; omega)) (by first | omega | (simp; omega) | (simp only [List.length_append, List.length_cons, List.length_nil]; omega) | (rw [List.length_set]; omega))) rfl ?_; refine sq_v rfl (v_loadI (k := i) 2 ty_3 rfl rfl r52.toR (by first | omega | (simp; omega) | (simp only [List.length_append, List.length_cons, List.length_nil]; omega) | (rw [List.length_set]; omega))) rfl ?_; refine sq_v rfl (v_assign rfl) rfl (sq_v rfl (v_assign rfl) rfl (sq_end (qs_n (wp_sc (wp_sq (sq_v rfl (v_move rfl) rfl (sq_v rfl (v_len Tryz.underlying26 rfl q1.sl) rfl (sq_v rfl (v_move rfl) rfl (sq_end (qs_n (wp_bl ?_))))))))))); refine wp_lp (σ := Nat × (List Int) × PH) (fun z_ => [(4, .pointer (some ⟨b4, 0, none⟩)), (5, .pointer (some ⟨b5, 0, none⟩)), (6, .pointer (some ⟨b6, 0, none⟩)), (8, .pointer (some ⟨b8, 0, none⟩)), (9, .bool false), (10, v1), (11, v2), (14, .pointer (some ⟨b14, 0, none⟩)), (15, num i), (16, num (K.getD i 0)), (40, v2), (58, v52), (59, num K.length), (60, num i), (61, .bool (decide ((i : Int) < K.length))), (62, num i), (64, num (K.getD i 0)), (65, v1), (66, num L.length), (67, num z_.1)]) (fun z_ => [box b14 [v52, v56, .slice none 0 0] 40, z_.2.2, h52, h38, box b8 [.slice none 0 0, .slice none 0 0, .slice none 0 0] 40, box b6 [a', b', c'] 40, box b5 [a, b, c] 40, box b4 [num k, num p, num n] 24, hp w]) (fun z_ => z_.1 ≤ L.length ∧ (z_.2.1 = if K.getD i 0 ∈ L.take z_.1 then ((K.map f).take i ++ List.replicate ((K.map f).length - i) 0).set i (f (K.getD i 0)) else ((K.map f).take i ++ List.replicate ((K.map f).length - i) 0)) ∧ z_.2.1.length = K.length ∧ IntsO z_.2.1 v56 z_.2.2) (fun z_ => L.length - z_.1) (0, ((K.map f).take i ++ List.replicate ((K.map f).length - i) 0), g) (⟨by (try dsimp only); omega, by (try dsimp only); simp, hll, q⟩) ⟨rfl, rfl, rfl, rfl, rfl, rfl, rfl, rfl, rfl, rfl, rfl, rfl, rfl, rfl, rfl, rfl, rfl, rfl, rfl, (by first | rfl | exact ksub rfl (by first | omega | (simp; done) | (simp; omega))), trivial⟩ (fun _ s => s) ?_; rintro ⟨j, B, g2⟩ ⟨hj, hB, hBl, q2b⟩; dsimp only at hj hB hBl q2b ⊢; have hle_q2b := q2b.toR.le; refine wp_sc (wp_sq (sq_v rfl (v_lss rfl rfl) rfl (sq_end (qs_n (wp_sc ?_))))); refine wp_cd rfl (fun c68 => ?_) (fun c68 => ?_)
            · refine wp_sk (qs_n (wp_sc (wp_bl (wp_sc (wp_sq (sq_v rfl (v_move rfl) rfl ?_)))))); refine sq_v rfl (v_idxI Tryz.underlying26 ty_3 rfl rfl q1 (by first | omega | (simp; omega) | (simp only [List.length_append, List.length_cons, List.length_nil]; omega) | (rw [List.length_set]; omega)) (by first | omega | (simp; omega) | (simp only [List.length_append, List.length_cons, List.length_nil]; omega) | (rw [List.length_set]; omega))) rfl ?_; refine sq_v rfl (v_loadI (k := j) 3 ty_3 rfl rfl q1 (by first | omega | (simp; omega) | (simp only [List.length_append, List.length_cons, List.length_nil]; omega) | (rw [List.length_set]; omega))) rfl ?_; refine sq_v rfl (v_assign rfl) rfl (sq_v rfl (v_assign rfl) rfl (sq_end (qs_n (wp_sc (wp_sq (sq_v rfl (v_move rfl) rfl (sq_v rfl (v_move rfl) rfl (sq_v rfl (v_eql rfl rfl) rfl (sq_end (qs_n ?_)))))))))); refine wp_cd rfl (fun c74 => ?_) (fun c74 => ?_)
              · refine wp_rj 8 [(0, true), (1, true), (2, true), (3, true), (4, true), (5, true), (6, true), (7, true), (8, false)] mixed_ok (by kernel_rfl) (rj_v rfl rfl (v_fieldAddr fd_40_1 ty_26 (by decide) rfl) rfl (rj_v rfl rfl (v_loadB 0 ty_26 rfl rfl rfl) rfl (rj_v rfl rfl (v_move rfl) rfl (rj_v rfl rfl (v_move rfl) rfl (rj_v rfl rfl (v_move rfl) rfl ?_))))); refine rj_v rfl rfl (v_idxI Tryz.underlying26 ty_3 rfl rfl q2 (by first | omega | (simp; omega) | (simp only [List.length_append, List.length_cons, List.length_nil]; omega) | (rw [List.length_set]; omega)) (by first | omega | (simp; omega) | (simp only [List.length_append, List.length_cons, List.length_nil]; omega) | (rw [List.length_set]; omega))) rfl ?_; refine rj_v rfl rfl (v_loadI (k := j) 3 ty_3 rfl rfl q2 (by first | omega | (simp; omega) | (simp only [List.length_append, List.length_cons, List.length_nil]; omega) | (rw [List.length_set]; omega))) rfl ?_; refine rj_v rfl rfl (v_idxI Tryz.underlying26 ty_3 rfl rfl q2b.toR (by first | omega | (simp; omega) | (simp only [List.length_append, List.length_cons, List.length_nil]; omega) | (rw [List.length_set]; omega)) (by first | omega | (simp; omega) | (simp only [List.length_append, List.length_cons, List.length_nil]; omega) | (rw [List.length_set]; omega))) rfl ?_; refine rj_m 1 rfl rfl rfl rfl (m_storeI (k := i) 1 ty_3 rfl rfl rfl q2b (by first | omega | (simp; omega) | (simp only [List.length_append, List.length_cons, List.length_nil]; omega) | (rw [List.length_set]; omega))) rfl ?_; rintro _ h_q15_8 ⟨rfl, q15_8⟩; refine rj_end ?_; have eDj : D.getD j 0 = f (K.getD i 0) := by rw [eDf, map_getD (by omega), c74]
                rw [eDj] at q15_8; refine qs_bn (qs_n (wp_sq ?_)); refine sq_v rfl (v_add rfl rfl ((by unfold I64; omega))) rfl ?_; refine sq_v rfl (v_move rfl) rfl (sq_end ?_); exact qs_bk (j + 1, B.set i (f (K.getD i 0)), h_q15_8) ⟨by (try dsimp only); omega, setif_yes hB (by omega) c74, by (try dsimp only); rw [List.length_set]; exact hBl, q15_8⟩ (by simp only; omega) ⟨rfl, rfl, rfl, rfl, rfl, rfl, rfl, rfl, rfl, rfl, rfl, rfl, rfl, rfl, rfl, rfl, rfl, rfl, rfl, (by first | rfl | exact ksub rfl (by first | omega | (simp; done) | (simp; omega))), trivial⟩ (fun _ s => s)
              · refine wp_sk (qs_bn (qs_n (wp_sq ?_))); refine sq_v rfl (v_add rfl rfl ((by unfold I64; omega))) rfl ?_; refine sq_v rfl (v_move rfl) rfl (sq_end ?_); exact qs_bk (j + 1, B, g2) ⟨by (try dsimp only); omega, setif_no hB (by omega) c74, hBl, q2b⟩ (by simp only; omega) ⟨rfl, rfl, rfl, rfl, rfl, rfl, rfl, rfl, rfl, rfl, rfl, rfl, rfl, rfl, rfl, rfl, rfl, rfl, rfl, (by first | rfl | exact ksub rfl (by first | omega | (simp; done) | (simp; omega))), trivial⟩ (fun _ s => s)
            · refine wp_ex (qs_x (qs_x (qs_bx (qs_bn (qs_n (wp_sq ?_)))))); refine sq_v rfl (v_add rfl rfl ((by unfold I64; omega))) rfl ?_; refine sq_v rfl (v_move rfl) rfl (sq_end ?_); exact qs_bk (i + 1, g2) ⟨by (try dsimp only); omega, by (try dsimp only); rw [← set_prefix (by omega), map_getD (by omega)]; rw [if_pos (by rw [List.take_of_length_le (by omega)]; exact hKL _ (mem_getD (by omega)))] at hB; rw [← hB]; exact q2b⟩ (by simp only; omega) ⟨rfl, rfl, rfl, rfl, rfl, rfl, rfl, rfl, rfl, rfl, rfl, (by first | rfl | exact ksub rfl (by first | omega | (simp; done) | (simp; omega))), trivial⟩ (fun _ s => s)
          · refine wp_ex (qs_x (qs_x (qs_bx (qs_n (wp_sc (wp_sc (wp_sq ?_))))))); rw [List.take_of_length_le (by omega), show (K.map f).length - i = 0 by omega, List.replicate_zero, List.append_nil] at q; refine sq_v rfl (v_loadNB 0 ty_40 rfl rfl rfl rfl) rfl (sq_u rfl (x_callv rfl en_52 (fun w s => ct_i_TensorSize _ _ _ _ _ w (r52.toR.mono (s.get 2 rfl)) (q.toR.mono (s.get 1 rfl)))) rfl (sq_v rfl (v_eql rfl rfl) rfl (sq_end (qs_n ?_)))); refine wp_cd rfl (fun c87 => ?_) (fun c87 => ?_)
            · refine wp_sc (wp_sq (sq_v rfl (v_build [.slice none 0 0, .slice none 0 0, .slice none 0 0] rfl (by kernel_rfl)) rfl ?_)); refine sq_m 4 rfl rfl (m_store 4 ty_40 rfl rfl rfl rfl (by simp [one_sl]) rfl (Nat.le_of_ble_eq_true rfl)) rfl ?_; rintro _ _ ⟨rfl, rfl⟩; refine sq_v rfl (v_assign rfl) rfl (sq_end (qs_n (wp_rt (qs_r ?_)))); exact qs_retct 4 rfl ty_40 rfl rfl rfl rfl (fin_e (i := 8) rfl (PairNo (fun h => by have := h.2.2.2.2; rw [← hKk, ← hf] at this; omega)))
            · refine wp_sk (qs_n (wp_sc (wp_rj 8 [(0, true), (1, true), (2, true), (3, true), (4, true), (5, true), (6, false), (7, false), (8, false)] mixed_ok (by kernel_rfl) ?_))); have hsz : 0 ≤ sizeI K (K.map f) := (by have := sizeI_range K (K.map f); omega); obtain ⟨hK1, hK2, hKi⟩ := hkr hsz; have hk : KeepOK t u f K := (by rw [hf, hKk]; rw [hf] at ok; exact keep_ok ok (by rw [← hKk, ← hf]; exact hsz)); have hKp := hk.small; have hwr := width_range h1.1; have hring := h1.1; have hzl := zeroL_len k p n; refine rj_v rfl rfl (v_loadNB 7 ty_24 rfl rfl rfl rfl) rfl (rj_v rfl rfl (v_fieldAddr fd_40_0 ty_26 (by decide) rfl) rfl (rj_v rfl rfl (v_loadB 0 ty_26 rfl rfl rfl) rfl (rj_v rfl rfl (v_fieldAddr fd_40_1 ty_26 (by decide) rfl) rfl (rj_v rfl rfl (v_loadB 0 ty_26 rfl rfl rfl) rfl (rj_v rfl rfl (v_loadNB 7 ty_24 rfl rfl rfl rfl) rfl ?_))))); refine rj_x rfl rfl (x_call rfl en_44 (fun w s => ct_i_rawZero _ _ _ w (by first | assumption | omega))) rfl ?_; rintro v95 h95 r95; refine rj_x rfl rfl (x_call rfl en_73 (fun w s => ct_i_fillTensor _ _ _ _ _ _ _ _ _ w (r52.toR.mono (s.get 3 rfl)) (q.toR.mono (s.get 2 rfl)) (r95.toR.mono (s.get 0 rfl)) (by first | assumption | omega) (by first | assumption | omega) (by first | assumption | omega) (by first | assumption | omega) (by first | assumption | omega))) rfl ?_; rintro _ h96 ⟨va96, vb96, vc96, rfl, o96⟩; refine rj_m 2 rfl rfl rfl rfl (m_store 2 ty_40 rfl rfl rfl rfl (by simp [o96.toR.1.sl.one, o96.toR.2.1.sl.one, o96.toR.2.2.sl.one]) rfl (Nat.le_of_ble_eq_true rfl)) rfl ?_; rintro _ _ ⟨rfl, rfl⟩; refine rj_end ?_; obtain ⟨go1, go2, go3, qo1, qo2, qo3, mdo⟩ := o96; have hKd := map_dim ok.dim hk.sub; have hnd := ok.nd; have hDd := map_dim ok.dim (fun _ h => h); rw [← eL] at hnd hDd; rw [← eDf] at hDd; have hD1 : ∀ d ∈ D, 1 ≤ d := fun d hd => (hDd d hd).1; have hsA := stepsL_len L t.l t.d; have hsB := stepsL_len L u.l u.d; have hsC := stepsL_len L K (K.map f); have hA : ∀ a ∈ stepsL L t.l t.d, 0 ≤ a ∧ a ≤ 1048576 := fun a h => by have := steps_in (fun d hd => (dims_mem (axes_dims hat) d hd).1) a h; omega
              have hBs : ∀ a ∈ stepsL L u.l u.d, 0 ≤ a ∧ a ≤ 1048576 := fun a h => by have := steps_in (fun d hd => (dims_mem (axes_dims hau) d hd).1) a h; omega
              have hC : ∀ a ∈ stepsL L K (K.map f), 0 ≤ a ∧ a ≤ 1048576 := fun a h => by have := steps_in (fun d hd => (hKd d hd).1) a h; omega
              refine qs_s [h95, box b14 [va96, vb96, vc96] 40, g, h52, h38, box b8 [.slice none 0 0, .slice none 0 0, .slice none 0 0] 40, box b6 [a', b', c'] 40, box b5 [a, b, c] 40, box b4 [num k, num p, num n] 24, hp w, go1, go2, go3] (fun _ s => Sat.open (A := [h95, box b14 [va96, vb96, vc96] 40, g, h52, h38, box b8 [.slice none 0 0, .slice none 0 0, .slice none 0 0] 40, box b6 [a', b', c'] 40, box b5 [a, b, c] 40, box b4 [num k, num p, num n] 24, hp w]) mdo (s.pick [0, 1, 2, 3, 4, 5, 6, 7, 8, 9, 10] (by decide) rfl)) (qs_n (wp_sc (wp_rj 12 [(0, true), (1, true), (3, true), (4, true), (6, true), (7, true), (2, false), (5, false), (8, false), (9, true), (10, true), (11, true)] mixed_ok (by kernel_rfl) (rj_v rfl rfl (v_loadNB 7 ty_40 rfl rfl rfl rfl) rfl (rj_v rfl rfl (v_move rfl) rfl (rj_v rfl rfl (v_loadNB 6 ty_40 rfl rfl rfl rfl) rfl (rj_v rfl rfl (v_move rfl) rfl (rj_v rfl rfl (v_loadNB 1 ty_40 rfl rfl rfl rfl) rfl (rj_v rfl rfl (v_move rfl) rfl ?_))))))))); refine rj_x rfl rfl (x_call rfl en_74 (fun w s => ct_i_stridesOf _ _ _ _ _ _ _ w (r1.mono (s.get 9 rfl)) (r2.mono (s.get 9 rfl)) (q1.mono (s.get 4 rfl)) (by first | assumption | omega) (dims_mem (axes_dims hat)) (by first | assumption | omega) (by first | assumption | omega))) rfl ?_; rintro v99 h99 r99; refine rj_x rfl rfl (x_call rfl en_74 (fun w s => ct_i_stridesOf _ _ _ _ _ _ _ w (r1'.mono (s.get 10 rfl)) (r2'.mono (s.get 10 rfl)) (q1.mono (s.get 5 rfl)) (by first | assumption | omega) (dims_mem (axes_dims hau)) (by first | assumption | omega) (by first | assumption | omega))) rfl ?_; rintro v102 h102 r102; refine rj_x rfl rfl (x_call rfl en_74 (fun w s => ct_i_stridesOf K (K.map f) _ _ _ _ _ w (qo1.toR.mono (s.get 12 rfl)) (qo2.toR.mono (s.get 13 rfl)) (q1.mono (s.get 6 rfl)) (by first | assumption | omega) hKd (by first | assumption | omega) (by first | assumption | omega))) rfl ?_; rintro v105 h105 r105; refine rj_v rfl rfl (v_assign rfl) rfl (rj_v rfl rfl (v_assign rfl) rfl (rj_v rfl rfl (v_assign rfl) rfl (rj_end (qs_n (wp_sc (wp_sq (sq_v rfl (v_move rfl) rfl (sq_v rfl (v_len Tryz.underlying26 rfl q1.sl) rfl ?_)))))))); refine sq_x rfl (x_makeI Tryz.underlying26 ty_3 rfl rfl (by first | omega | (simp; omega) | (simp only [List.length_append, List.length_cons, List.length_nil]; omega) | (rw [List.length_set]; omega)) (by first | omega | (simp; omega) | (simp only [List.length_append, List.length_cons, List.length_nil]; omega) | (rw [List.length_set]; omega)) (by first | omega | (simp; omega) | (simp only [List.length_append, List.length_cons, List.length_nil]; omega) | (rw [List.length_set]; omega))) rfl ?_; intro v108 h108 r108; refine sq_v rfl (v_assign rfl) rfl (sq_end (qs_n (wp_sc (wp_sq (sq_v rfl (v_loadNB 12 ty_24 rfl rfl rfl rfl) rfl (sq_u rfl (x_callv rfl en_46 (fun w s => ct_i_rawWidth _ _ _ w)) rfl ?_)))))); refine sq_x rfl (x_makeI Tryz.underlying26 ty_3 rfl rfl (by first | omega | (simp; omega) | (simp only [List.length_append, List.length_cons, List.length_nil]; omega) | (rw [List.length_set]; omega)) (by first | omega | (simp; omega) | (simp only [List.length_append, List.length_cons, List.length_nil]; omega) | (rw [List.length_set]; omega)) (by first | omega | (simp; omega) | (simp only [List.length_append, List.length_cons, List.length_nil]; omega) | (rw [List.length_set]; omega))) rfl ?_; intro v111 h111 r111; refine sq_v rfl (v_assign rfl) rfl (sq_end (qs_n (wp_bl ?_))); refine wp_lp (σ := Nat × PH × PH × PH × (List Int)) (fun z_ => [(4, .pointer (some ⟨b4, 0, none⟩)), (5, .pointer (some ⟨b5, 0, none⟩)), (6, .pointer (some ⟨b6, 0, none⟩)), (8, .pointer (some ⟨b8, 0, none⟩)), (9, .bool false), (11, v2), (14, .pointer (some ⟨b14, 0, none⟩)), (19, v99), (20, v102), (21, v105), (22, v108), (23, v111), (40, v2)]) (fun z_ => [z_.2.2.2.1, z_.2.1, h105, h102, h99, h95, box b14 [va96, vb96, vc96] 40, g, h52, h38, box b8 [.slice none 0 0, .slice none 0 0, .slice none 0 0] 40, box b6 [a', b', c'] 40, box b5 [a, b, c] 40, box b4 [num k, num p, num n] 24, hp w, go1, go2, z_.2.2.1]) (fun z_ => z_.1 < (prodI D).toNat ∧ z_.2.2.2.2.length = (widthI k n).toNat ∧ IntsO (idxL D z_.1) v108 z_.2.1 ∧ IntsO (pairX k p n f t u K z_.1) vc96 z_.2.2.1 ∧ IntsO z_.2.2.2.2 v111 z_.2.2.2.1) (fun z_ => (prodI D).toNat - z_.1) (0, h108, go3, h111, (List.replicate (widthI k n : Int).toNat 0)) (⟨by (try dsimp only); omega, by (try dsimp only); simp, by (try dsimp only); rw [show ((0 : Nat) : Int) = 0 from rfl, idxL_zero, hDL]; simpa using r108, qo3, r111⟩) ⟨rfl, rfl, rfl, rfl, rfl, rfl, rfl, rfl, rfl, rfl, rfl, rfl, rfl, trivial⟩ (fun _ s => s) ?_; rintro ⟨m, gi, gx, gz, zs⟩ ⟨hm, hzs, qi, qx, qz⟩; dsimp only at hm hzs qi qx qz ⊢; have hle_qi := qi.toR.le; have hle_qx := qx.toR.le; have hle_qz := qz.toR.le; have hil := idxL_len D m; have hii := idxL_in hD1 m; have hib : ∀ b ∈ idxL D m, 0 ≤ b ∧ b ≤ 1048576 := all_of fun j hj => by have := hii.2 j (by omega); have := hjd1 j (by omega); omega
              have hpx := ok.small hk m; have ex : dotL (stepsL L t.l t.d) (idxL D m) = atI f (joinI t.l u.l) t.l m := by rw [atI, ← ht, ← eL, ← eDf]
              have ey : dotL (stepsL L u.l u.d) (idxL D m) = atI f (joinI t.l u.l) u.l m := by rw [atI, ← hu, ← eL, ← eDf]
              have ez : dotL (stepsL L K (K.map f)) (idxL D m) = atI f (joinI t.l u.l) K m := by rw [atI, ← eL, ← eDf]
              have hx0 := ok.at_t m; have hy0 := ok.at_u m; have hz0 := ok.at_k hk m; have hXr := ok.el_t m; have hYr := ok.el_u m; have hZr := (ok.all hk m).el hring hz0.1 hz0.2; have hzf := ok.fits hk m; rw [← ex] at hx0 hXr; rw [← ey] at hy0 hYr; rw [← ez] at hz0 hZr hzf; have hMr := mulL_in hring hXr hYr; have hxf := elt_fits ok.tt hx0.2; have hyf := elt_fits ok.uu hy0.2; have hz1 := Int.mul_nonneg hz0.1 (show 0 ≤ widthI k n by omega); have hz2 := Int.add_mul (dotL (stepsL L K (K.map f)) (idxL D m)) 1 (widthI k n); rw [Int.one_mul] at hz2; have hMl := hMr.1; refine wp_bl (wp_sc (wp_rj 14 [(0, true), (1, true), (2, true), (3, true), (4, true), (5, true), (8, true), (9, true), (10, true), (11, true), (6, false), (7, false), (12, false), (13, false), (14, false)] mixed_ok (by kernel_rfl) (rj_v rfl rfl (v_loadNB 13 ty_24 rfl rfl rfl rfl) rfl (rj_v rfl rfl (v_move rfl) rfl (rj_v rfl rfl (v_loadNB 13 ty_24 rfl rfl rfl rfl) rfl (rj_v rfl rfl (v_loadNB 12 ty_40 rfl rfl rfl rfl) rfl (rj_v rfl rfl (v_move rfl) rfl (rj_v rfl rfl (v_move rfl) rfl (rj_v rfl rfl (v_loadNB 13 ty_24 rfl rfl rfl rfl) rfl (rj_v rfl rfl (v_loadNB 11 ty_40 rfl rfl rfl rfl) rfl (rj_v rfl rfl (v_move rfl) rfl ?_))))))))))); refine rj_v rfl rfl (v_move rfl) rfl (rj_u rfl rfl (x_callv rfl en_76 (fun w s => ct_i_dotOf _ _ _ _ w (r99.toR.mono (s.get 4 rfl)) (qi.toR.mono (s.get 1 rfl)) (by first | assumption | omega) (by first | assumption | omega) (by first | assumption | omega) (by first | assumption | omega))) rfl (rj_u rfl rfl (x_callv rfl en_75 (fun w s => ct_i_rawElem _ _ _ _ _ _ _ _ w (by first | assumption | omega) (r3.mono (s.get 14 rfl)) (by first | assumption | omega) (by first | assumption | omega) (by first | assumption | omega))) rfl (rj_u rfl rfl (x_callv rfl en_76 (fun w s => ct_i_dotOf _ _ _ _ w (r102.toR.mono (s.get 3 rfl)) (qi.toR.mono (s.get 1 rfl)) (by first | assumption | omega) (by first | assumption | omega) (by first | assumption | omega) (by first | assumption | omega))) rfl (rj_u rfl rfl (x_callv rfl en_75 (fun w s => ct_i_rawElem _ _ _ _ _ _ _ _ w (by first | assumption | omega) (r3'.mono (s.get 14 rfl)) (by first | assumption | omega) (by first | assumption | omega) (by first | assumption | omega))) rfl ?_)))); refine rj_m 0 rfl rfl rfl rfl (x_call rfl en_49 (fun w s => ct_i_mulInto _ _ _ _ _ _ _ _ _ w _ (by first | assumption | omega) (s.get 0 rfl) qz ((eltV_read r3 (by first | assumption | omega) (by first | assumption | omega) (by first | assumption | omega)).mono (s.getR 0 14 rfl rfl (by decide))) ((eltV_read r3' (by first | assumption | omega) (by first | assumption | omega) (by first | assumption | omega)).mono (s.getR 0 14 rfl rfl (by decide))) (by first | assumption | omega) (by first | assumption | omega) (by first | assumption | omega))) rfl ?_; rintro _ h126 r126; refine rj_end (qs_n (wp_sc (wp_rj 8 [(0, true), (1, true), (2, true), (3, true), (4, true), (7, true), (5, false), (6, false), (8, false)] mixed_ok (by kernel_rfl) (rj_v rfl rfl (v_loadNB 13 ty_24 rfl rfl rfl rfl) rfl (rj_v rfl rfl (v_loadNB 13 ty_24 rfl rfl rfl rfl) rfl (rj_v rfl rfl (v_loadNB 6 ty_40 rfl rfl rfl rfl) rfl (rj_v rfl rfl (v_move rfl) rfl (rj_v rfl rfl (v_move rfl) rfl (rj_v rfl rfl (v_move rfl) rfl (rj_u rfl rfl (x_callv rfl en_76 (fun w s => ct_i_dotOf _ _ _ _ w (r105.toR.mono (s.get 2 rfl)) (qi.toR.mono (s.get 1 rfl)) (by first | assumption | omega) (by first | assumption | omega) (by first | assumption | omega) (by first | assumption | omega))) rfl (rj_u rfl rfl (x_callv rfl en_75 (fun w s => ct_i_rawElem _ _ _ _ _ _ _ _ w (by first | assumption | omega) (qx.toR.mono (s.get 17 rfl)) (by first | assumption | omega) (by first | assumption | omega) (by first | assumption | omega))) rfl ?_))))))))))); refine rj_m 17 rfl rfl rfl rfl (x_call rfl en_45 (fun w s => ct_i_addInto _ _ _ _ _ ((dotL (stepsL L K (K.map f)) (idxL D m) * widthI k n).toNat) (((dotL (stepsL L K (K.map f)) (idxL D m) + 1) * widthI k n).toNat) vc96 _ w _ (by first | assumption | omega) (s.get 17 rfl) qx (r126.toR.mono (s.getR 17 0 rfl rfl (by decide))) (by omega) (by omega) (by rw [hMl]; exact hZr) hMr)) rfl ?_; rintro _ h135 r135; refine rj_end ?_; rw [hMl] at r135; refine qs_n (wp_sc (wp_sq (sq_v rfl (v_move rfl) rfl (sq_v rfl (v_move rfl) rfl ?_)))); refine sq_m 1 rfl rfl (x_call rfl en_77 (fun w s => ct_i_nextIndex _ _ _ _ w _ (s.get 1 rfl) (q2.mono (s.getR 1 9 rfl rfl (by decide))) qi (by first | assumption | omega) (by first | assumption | omega) (by first | assumption | omega))) rfl ?_; rintro _ h138 ⟨rfl, r138⟩; refine sq_v rfl (v_not rfl) rfl (sq_end (qs_n ?_)); refine wp_cnd rfl (fun c139 => ?_) (fun c139 => ?_)
              · refine wp_sc (wp_sq (sq_v rfl (v_loadNB 6 ty_40 rfl rfl rfl rfl) rfl ?_)); refine sq_m 10 rfl rfl (m_store 10 ty_40 rfl rfl rfl rfl (by simp [qo1.toR.sl.one, qo2.toR.sl.one, r135.toR.sl.one]) rfl (Nat.le_of_ble_eq_true rfl)) rfl ?_; rintro _ _ ⟨rfl, rfl⟩; refine sq_v rfl (v_assign rfl) rfl (sq_end (qs_n (wp_rt (qs_br (qs_r (qs_br ?_)))))); refine qs_close [box b8 _ _, hp w] [go1, go2, h135] (fun _ s => s.pick [10, 14, 15, 16, 17] (by decide) rfl) (fun md => ?_); exact qs_retct 1 rfl ty_40 rfl rfl rfl rfl (fin_t 0 (i := 2) rfl rfl rfl (PairYes ⟨h1, h2, hnm, by rw [← eD]; omega, by rw [← hKk, ← hf]; exact hsz⟩ ⟨_, _, _, (by rw [← hKk, ← hf]; exact qo1), (by rw [← hKk, ← hf]; exact qo2), (by rw [← hKk, ← hf, pairT, ← eL, ← eDf, show (prodI D).toNat = m + 1 by omega, pairX, ← ex, ← ey, ← ez]; exact r135), md⟩))
              · refine wp_sk (qs_bn ?_); exact qs_bk (m + 1, h138, h135, h126, mulL k p n (elt t.x (widthI k n) (dotL (stepsL L t.l t.d) (idxL D m))) (elt u.x (widthI k n) (dotL (stepsL L u.l u.d) (idxL D m)))) ⟨by (try dsimp only); omega, hMl, r138, by (try dsimp only); rw [pairX, ← ex, ← ey, ← ez]; exact r135, r126⟩ (by simp only; omega) ⟨rfl, rfl, rfl, rfl, rfl, rfl, rfl, rfl, rfl, rfl, rfl, rfl, rfl, trivial⟩ (fun _ s => s)
      · refine sq_v rfl (v_move rfl) rfl (sq_v rfl (v_not rfl) rfl (sq_v rfl (v_move rfl) rfl (sq_s rfl rfl (sq_s rfl rfl (sq_s rfl rfl (sq_v rfl (v_pickt rfl rfl) rfl (sq_end (qs_n (wp_ct rfl (wp_sc (wp_sq (sq_v rfl (v_build [.slice none 0 0, .slice none 0 0, .slice none 0 0] rfl (by kernel_rfl)) rfl ?_)))))))))))); refine sq_m 1 rfl rfl (m_store 1 ty_40 rfl rfl rfl rfl (by simp [one_sl]) rfl (Nat.le_of_ble_eq_true rfl)) rfl ?_; rintro _ _ ⟨rfl, rfl⟩; refine sq_v rfl (v_assign rfl) rfl (sq_end (qs_n (wp_rt (qs_r ?_)))); exact qs_retct 1 rfl ty_40 rfl rfl rfl rfl (fin_e (i := 5) rfl (PairNo (fun h => by first | exact absurd (c12.symm.trans (hbb.2 h.2.2.1)) (by decide) | (have := h.2.2.2.1; rw [← eD] at this; omega))))
  · refine sq_v rfl (v_not rfl) rfl (sq_v rfl (v_move rfl) rfl (sq_s rfl rfl (sq_s rfl rfl (sq_s rfl rfl (sq_s rfl rfl (sq_v rfl (v_pickt rfl rfl) rfl (sq_end (qs_n (wp_ct rfl (wp_sc (wp_sq (sq_v rfl (v_build [.slice none 0 0, .slice none 0 0, .slice none 0 0] rfl (by kernel_rfl)) rfl ?_)))))))))))); refine sq_m 0 rfl rfl (m_store 0 ty_40 rfl rfl rfl rfl (by simp [one_sl]) rfl (Nat.le_of_ble_eq_true rfl)) rfl ?_; rintro _ _ ⟨rfl, rfl⟩; refine sq_v rfl (v_assign rfl) rfl (sq_end (qs_n (wp_rt (qs_r ?_)))); exact qs_retct 0 rfl ty_40 rfl rfl rfl rfl (fin_e (i := 4) rfl (PairNo (fun h => by first | exact tensorB_false.1 c26 h.1 | exact tensorB_false.1 c33 h.2.1)))
end Go.Proofs.YtdkgaejmgnojhaaGreat
namespace Go.Proofs.YtdkgaejmgnojhaaGreat
set_option maxRecDepth 100000
open Go.RowKit
def oneT (k p n : Int) : Ten := ⟨[], [], oneL k p n⟩
theorem one_ten {k p n : Int} (h : ringL k p n) : tensorL k p n (oneT k p n).l (oneT k p n).d (oneT k p n).x := by
  have hs : sizeI [] [] = 1 := by
    have : axesL [] [] := ⟨by decide, rfl, fun j hj => by simp at hj⟩
    rw [sizeI_yes this (by decide)]; rfl
  have ho := oneL_in h; have hw := width_range h; refine ⟨h, by simp only [oneT]; omega, ?_, ho.2⟩; have := ho.1; simp only [oneT]; rw [hs]
  omega
theorem one_mism (k p n : Int) (t : Ten) : ¬ mism t (oneT k p n) := by
  rintro ⟨i, hi, _⟩
  simp [oneT] at hi
theorem one_joinD (k p n : Int) (t : Ten) : joinD t (oneT k p n) = t.d := by simp [joinD, oneT, selP]
theorem keep_axes {k p n : Int} {t u : Ten} {f : Int → Int} {K : List Int} (ok : PairOK k p n t u f) (hs : ∀ l ∈ K, l ∈ joinI t.l u.l) (hn : K.Nodup) (h12 : K.length ≤ 12) : axesL K (K.map f) := by
  refine ⟨h12, by simp, fun j hj => ⟨?_, ?_, nodup_not_take hn hj⟩⟩
  · rcases mem_joinI.1 (hs _ (mem_getD hj)) with h | h
    · obtain ⟨i, hi, e⟩ := getD_of_mem h; rw [← e]; exact ((ten_axes ok.tt).2.2 i hi).1
    · obtain ⟨i, hi, e⟩ := getD_of_mem h; rw [← e]; exact ((ten_axes ok.uu).2.2 i hi).1
  · rw [map_getD hj]; exact ok.dim _ (hs _ (mem_getD hj))
theorem sum_pair {k p n : Int} {t : Ten} (h : tensorL k p n t.l t.d t.x) (ks : List Int) : pairP k p n t (oneT k p n) ks := by
  have h1 := one_ten h.1; have hm := one_mism k p n t; have hp := ten_prod h; have ok := pair_ok h h1 hm (by rw [one_joinD]; omega); have hd := pairP.dims h h1 hm; have ej := hd.2.2; refine ⟨h, h1, hm, by rw [one_joinD]; omega, sizeI_ge.2 ⟨keep_axes ok (fun l hl => (List.mem_filter.1 hl).1) (List.Pairwise.filter _ ok.nd) ?_, ?_⟩⟩
  · have h1 := List.length_filter_le (fun x => decide (x ∈ ks)) (joinI t.l (oneT k p n).l); have h2 := joinI_len t.l (oneT k p n).l; have h3 := (ten_axes h).1; have h4 : (oneT k p n).l.length = 0 := rfl
    unfold keepL
    omega
  · have hs := selP_prod (fun x => decide (x ∈ ks)) (joinI t.l (oneT k p n).l) (joinD t (oneT k p n)) (by rw [one_joinD]; exact fun d hd => (dims_mem (axes_dims (ten_axes h)) d hd).1); rw [ej, selP_map, ← ej, one_joinD] at hs; exact Int.le_trans hs.2 hp
open Classical in
noncomputable def sumR (k p n : Int) (t : Ten) (ks : List Int) : Ten := if tensorL k p n t.l t.d t.x then pairT k p n (dimJ t (oneT k p n)) t (oneT k p n) (keepL t (oneT k p n) ks) else ⟨[], [], []⟩
theorem sumR_no {k p n : Int} {t : Ten} {ks : List Int} (h : ¬ tensorL k p n t.l t.d t.x) : TenT (sumR k p n t ks) (tenV (.slice none 0 0) (.slice none 0 0) (.slice none 0 0)) emp := by
  rw [sumR, if_neg h]; exact ⟨_, _, _, rfl, triO_none⟩
theorem sumR_pair {k p n : Int} {t : Ten} {ks : List Int} (h : tensorL k p n t.l t.d t.x) : pairR k p n t (oneT k p n) ks = sumR k p n t ks := by
  rw [sumR, if_pos h, pairR, if_pos (sum_pair h ks)]
set_option maxHeartbeats 2000000 in
theorem ct_i_SumLabels (k p n : Int) (t : Ten) (ks : List Int) (a b c v : Value) (w : World) (r1 : IntsR t.l a (hp w)) (r2 : IntsR t.d b (hp w)) (r3 : IntsR t.x c (hp w)) (rk : IntsR ks v (hp w)) :
    Calls Tryz.prog 14 [ringV k p n, tenV a b c, v].toArray w (Ret w emp (TenT (sumR k p n t ks))) := by
  refine calls_in Tryz.func14 rfl Tryz.ntmps14 rfl (Sat.start w) ?_; have hle0 := r1.le; have hle1 := r2.le; have hle2 := r3.le; have hle3 := rk.le; refine wp_sc (wp_sq ?_); refine sq_x rfl (x_box rfl rfl) rfl ?_; rintro _ _ ⟨b3, rfl, rfl⟩; refine sq_x rfl (x_box rfl rfl) rfl ?_; rintro _ _ ⟨b4, rfl, rfl⟩; refine sq_x rfl (x_alloc ty_40 rfl) rfl ?_; rintro _ _ ⟨b6, rfl, rfl⟩; refine sq_end (qs_n (wp_sc (wp_sc (wp_sq (sq_v rfl (v_loadNB 2 ty_24 rfl rfl rfl rfl) rfl (sq_v rfl (v_loadNB 1 ty_40 rfl rfl rfl rfl) rfl (sq_u rfl (x_callv rfl en_34 (fun w s => ct_i_TensorOk _ _ _ _ _ _ _ _ _ w (r1.mono (s.get 3 rfl)) (r2.mono (s.get 3 rfl)) (r3.mono (s.get 3 rfl)))) rfl (sq_v rfl (v_not rfl) rfl (sq_end (qs_n ?_)))))))))); refine wp_cn _ rfl (fun c12 => ?_) (fun c12 => ?_)
  · refine wp_sc (wp_sq (sq_v rfl (v_build [.slice none 0 0, .slice none 0 0, .slice none 0 0] rfl (by kernel_rfl)) rfl ?_)); refine sq_m 0 rfl rfl (m_store 0 ty_40 rfl rfl rfl rfl (by simp [one_sl]) rfl (Nat.le_of_ble_eq_true rfl)) rfl ?_; rintro _ _ ⟨rfl, rfl⟩; refine sq_end (qs_n (wp_rt (qs_r ?_))); exact qs_retc 0 rfl ty_40 rfl rfl rfl (fin_e (i := 3) rfl (sumR_no (tensorB_false.1 c12)))
  · refine wp_sk (qs_n (wp_sc ?_)); refine wp_ra (σ := Nat × PH × PH × Value × Value × Value × Value × Value × Value) 11 (fun z_ => TriO ⟨[], [], oneL k p n⟩ z_.2.2.2.1 z_.2.2.2.2.1 z_.2.2.2.2.2.1 z_.2.2.1 ∧ TriO (pairR k p n t ⟨[], [], oneL k p n⟩ ks) z_.2.2.2.2.2.2.1 z_.2.2.2.2.2.2.2.1 z_.2.2.2.2.2.2.2.2 z_.2.1) (fun z_ => [(6, .pointer (some ⟨b6, 0, none⟩)), (7, .pointer (some ⟨z_.1, 0, none⟩)), (12, .bool (!(tensorB k p n t.l t.d t.x)))]) (fun z_ => [box z_.1 [z_.2.2.2.2.2.2.1, z_.2.2.2.2.2.2.2.1, z_.2.2.2.2.2.2.2.2] 40, z_.2.1, z_.2.2.1, box b6 [.slice none 0 0, .slice none 0 0, .slice none 0 0] 40, box b4 [a, b, c] 40, box b3 [num k, num p, num n] 24, hp w]) mixed_ok (by kernel_rfl) ?_ ?_
    · refine rak_of ?_; have ht := tensorB_true.1 c12; have hring := ht.1; refine rak_v (i := 0) (by kernel_rfl) rfl rfl (v_loadNB 2 ty_24 rfl rfl rfl rfl) rfl (rak_v (i := 1) (by kernel_rfl) rfl rfl (v_loadNB 1 ty_40 rfl rfl rfl rfl) rfl (rak_v (i := 2) (by kernel_rfl) rfl rfl (v_loadNB 2 ty_24 rfl rfl rfl rfl) rfl (rak_v (i := 4) (by kernel_rfl) rfl rfl (v_move rfl) rfl ?_))); refine rak_2 (i := 3) (j := 9) (by kernel_rfl) ?_ ?_
      · refine rok_x rfl rfl (x_call rfl en_36 (fun w s => ct_i_scalarOne _ _ _ w (by first | assumption | omega))) rfl ?_; rintro _ h18 ⟨va18, vb18, vc18, rfl, o18⟩; refine rak_2 (i := 5) (j := 9) (by kernel_rfl) ?_ ?_
        · refine rok_x rfl rfl (x_call rfl en_35 (fun w s => ct_i_ContractPair _ _ _ _ _ _ _ _ _ _ _ _ _ w (r1.mono (s.get 4 rfl)) (r2.mono (s.get 4 rfl)) (r3.mono (s.get 4 rfl)) (o18.toR.1.mono (s.get 0 rfl)) (o18.toR.2.1.mono (s.get 0 rfl)) (o18.toR.2.2.mono (s.get 0 rfl)) (rk.mono (s.get 4 rfl)))) rfl ?_; rintro _ h20 ⟨va20, vb20, vc20, rfl, o20⟩; refine rak_rk [(6, true), (7, true), (8, true), (9, false), (10, false), (11, false)] (by kernel_rfl) rfl (rk_v rfl rfl (v_move rfl) rfl (rk_v rfl rfl (v_extract rfl rfl) rfl (rk_v rfl rfl (v_extract rfl rfl) rfl ?_))); refine rk_xb rfl rfl (x_alloc ty_40 rfl) rfl ?_; rintro _ _ ⟨b7, rfl, rfl⟩; refine rk_m 0 rfl rfl rfl rfl (m_store 0 ty_40 rfl rfl rfl rfl (by simp [o20.toR.1.sl.one, o20.toR.2.1.sl.one, o20.toR.2.2.sl.one]) rfl (Nat.le_of_ble_eq_true rfl)) rfl ?_; rintro _ _ ⟨rfl, rfl⟩; refine rk_fv rfl rfl (v_assign rfl) rfl (rk_end ?_); exact qs_mid (b7, h20, h18, va18, vb18, vc18, va20, vb20, vc20) ⟨o18, o20⟩ ⟨rfl, rfl, rfl, trivial⟩ (fun _ s => s.pick [0, 1, 2, 3, 4, 5, 6] (by decide) rfl)
        · refine rok_xb rfl rfl (x_alloc ty_40 rfl) rfl ?_; rintro _ _ ⟨b7, rfl, rfl⟩; refine rak_rk [(5, false), (6, true), (7, true), (8, true), (10, false), (11, false)] (by kernel_rfl) rfl ?_; refine rk_x rfl rfl (x_call rfl en_35 (fun w s => ct_i_ContractPair _ _ _ _ _ _ _ _ _ _ _ _ _ w (r1.mono (s.get 5 rfl)) (r2.mono (s.get 5 rfl)) (r3.mono (s.get 5 rfl)) (o18.toR.1.mono (s.get 1 rfl)) (o18.toR.2.1.mono (s.get 1 rfl)) (o18.toR.2.2.mono (s.get 1 rfl)) (rk.mono (s.get 5 rfl)))) rfl ?_; rintro _ h20 ⟨va20, vb20, vc20, rfl, o20⟩; refine rk_v rfl rfl (v_move rfl) rfl (rk_v rfl rfl (v_extract rfl rfl) rfl (rk_v rfl rfl (v_extract rfl rfl) rfl ?_)); refine rk_m 1 rfl rfl rfl rfl (m_store 1 ty_40 rfl rfl rfl rfl (by simp [o20.toR.1.sl.one, o20.toR.2.1.sl.one, o20.toR.2.2.sl.one]) rfl (Nat.le_of_ble_eq_true rfl)) rfl ?_; rintro _ _ ⟨rfl, rfl⟩; refine rk_fv rfl rfl (v_assign rfl) rfl (rk_end ?_); exact qs_mid (b7, h20, h18, va18, vb18, vc18, va20, vb20, vc20) ⟨o18, o20⟩ ⟨rfl, rfl, rfl, trivial⟩ (fun _ s => s.pick [1, 0, 2, 3, 4, 5, 6] (by decide) rfl)
      · refine rok_xb rfl rfl (x_alloc ty_40 rfl) rfl ?_; rintro _ _ ⟨b7, rfl, rfl⟩; refine rak_rk [(3, false), (5, false), (6, true), (7, true), (8, true), (10, false), (11, false)] (by kernel_rfl) rfl ?_; refine rk_x rfl rfl (x_call rfl en_36 (fun w s => ct_i_scalarOne _ _ _ w (by first | assumption | omega))) rfl ?_; rintro _ h18 ⟨va18, vb18, vc18, rfl, o18⟩; refine rk_x rfl rfl (x_call rfl en_35 (fun w s => ct_i_ContractPair _ _ _ _ _ _ _ _ _ _ _ _ _ w (r1.mono (s.get 5 rfl)) (r2.mono (s.get 5 rfl)) (r3.mono (s.get 5 rfl)) (o18.toR.1.mono (s.get 0 rfl)) (o18.toR.2.1.mono (s.get 0 rfl)) (o18.toR.2.2.mono (s.get 0 rfl)) (rk.mono (s.get 5 rfl)))) rfl ?_; rintro _ h20 ⟨va20, vb20, vc20, rfl, o20⟩; refine rk_v rfl rfl (v_move rfl) rfl (rk_v rfl rfl (v_extract rfl rfl) rfl (rk_v rfl rfl (v_extract rfl rfl) rfl ?_)); refine rk_m 2 rfl rfl rfl rfl (m_store 2 ty_40 rfl rfl rfl rfl (by simp [o20.toR.1.sl.one, o20.toR.2.1.sl.one, o20.toR.2.2.sl.one]) rfl (Nat.le_of_ble_eq_true rfl)) rfl ?_; rintro _ _ ⟨rfl, rfl⟩; refine rk_fv rfl rfl (v_assign rfl) rfl (rk_end ?_); exact qs_mid (b7, h20, h18, va18, vb18, vc18, va20, vb20, vc20) ⟨o18, o20⟩ ⟨rfl, rfl, rfl, trivial⟩ (fun _ s => s.pick [2, 0, 1, 3, 4, 5, 6] (by decide) rfl)
    · rintro ⟨b7, h20, h18, va18, vb18, vc18, va20, vb20, vc20⟩ ⟨o18, o20⟩; dsimp only at o18 o20 ⊢; refine qs_n (wp_sc (wp_sq (sq_v rfl (v_loadNB 0 ty_40 rfl rfl rfl rfl) rfl ?_))); refine sq_m 3 rfl rfl (m_store 3 ty_40 rfl rfl rfl rfl (by simp [o20.toR.1.sl.one, o20.toR.2.1.sl.one, o20.toR.2.2.sl.one]) rfl (Nat.le_of_ble_eq_true rfl)) rfl ?_; rintro _ _ ⟨rfl, rfl⟩; refine sq_end (qs_n (wp_rt ?_)); exact qs_retc 3 rfl ty_40 rfl rfl rfl (fin_t 1 (i := 6) rfl rfl rfl (by have ht := tensorB_true.1 c12; rw [← sumR_pair ht]; exact ⟨_, _, _, rfl, o20⟩))
end Go.Proofs.YtdkgaejmgnojhaaGreat
namespace Go.Proofs.YtdkgaejmgnojhaaGreat
set_option maxRecDepth 100000
open Go.RowKit
def TensL (ts : List Ten) (cs : List Value) (h : PH) : Prop := cs.length = ts.length * 3 ∧ ∀ (i : Nat) (t : Ten), ts[i]? = some t → TenR t ((cs.drop (i * 3)).take 3) h
theorem TensL.mono {ts : List Ten} {cs : List Value} {h h' : PH} (r : TensL ts cs h) (l : PLe h h') : TensL ts cs h' := ⟨r.1, fun i x e => (r.2 i x e).mono l⟩
theorem TensL.tens {ts : List Ten} {cs : List Value} {v : Value} {h : PH} (r : TensL ts cs h) (rr : RowR cs ts.length 3 v h) : TensR ts v h := ⟨cs, rr, r.2⟩
theorem PUn.mono_l {a b q : PH} (l : PLe a b) (d : PDj b q) : PLe (PUn a q) (PUn b q) := fun k o e => by
  unfold PUn at *
  split at e
  · rename_i x hx; cases e; rw [l k _ hx]
  · rcases d k with h1 | h1
    · rw [h1]; exact e
    · rw [h1] at e; cases e
end Go.Proofs.YtdkgaejmgnojhaaGreat
namespace Go.Proofs.YtdkgaejmgnojhaaGreat
set_option maxRecDepth 100000
open Go.RowKit
theorem net_dmap {k p n : Int} {ts : List Ten} {op : List Int} (h : netL k p n ts op) : ∀ t ∈ ts, t.d = t.l.map (dimOf ts) := fun t ht => by
  have hax := net_axes h t ht; refine ext_getD (by rw [List.length_map, hax.2.1]) fun j hj => ?_; have hj' : j < t.l.length := by rw [hax.2.1]; exact hj
  rw [map_getD hj', net_dim h ht (mem_getD hj'), find_at hax hj', Int.toNat_natCast]
end Go.Proofs.YtdkgaejmgnojhaaGreat
namespace Go.Proofs.YtdkgaejmgnojhaaGreat
set_option maxRecDepth 100000
open Go.RowKit
theorem stepOk_at {op : List Int} {s : Sh} {ss : List Stp} (h : okSteps op s ss) {i : Nat} {x : Stp} (hx : ss[i]? = some x) : stepOk (shTo op s (ss.take i)) x := h i (List.getElem?_eq_some_iff.1 hx).1 x hx
theorem stepCells_take : ∀ (ss : List Stp) (n : Nat), stepCells (ss.take n) = (stepCells ss).take (n * 2)
  | [], n => by simp [stepCells]
  | s :: r, 0 => by simp [stepCells]
  | s :: r, n + 1 => by
    have := stepCells_take r n; rw [List.take_succ_cons, show (n + 1) * 2 = n * 2 + 1 + 1 by omega]
    show [num s.a, num s.b] ++ stepCells (r.take n) = ([num s.a, num s.b] ++ stepCells r).take (n * 2 + 1 + 1)
    rw [this]; rfl
theorem StepsR.subH {ss : List Stp} {v : Value} {h : PH} (r : StepsR ss v h) {hi : Nat} (h2 : hi ≤ ss.length) : StepsR (ss.take hi) (subV v 0 hi 2) h := by
  have := RowR.sub r (Nat.zero_le hi) h2
  unfold StepsR
  rw [stepCells_take, List.length_take, Nat.min_eq_left h2]
  simpa using this
end Go.Proofs.YtdkgaejmgnojhaaGreat
namespace Go.Proofs.YtdkgaejmgnojhaaGreat
set_option maxRecDepth 100000
open Go.RowKit
theorem two_off : ∀ {l : List Nat} (_ : l.Nodup) {a b : Nat}, a ∈ l → b ∈ l → a ≠ b → (l.filter fun i => decide (i ≠ a ∧ i ≠ b)).length + 2 = l.length := by
  intro l hn a b ha hb hab; have hp := List.perm_cons_erase ha; have hb' : b ∈ l.erase a := (List.mem_erase_of_ne (Ne.symm hab)).2 hb; have hp2 := List.perm_cons_erase hb'; have hn2 : (l.erase a).Nodup := hn.erase a; have e : l.filter (fun i => decide (i ≠ a ∧ i ≠ b)) = (l.erase a).erase b := by
    rw [List.Nodup.erase_eq_filter hn a, List.Nodup.erase_eq_filter (List.Pairwise.filter _ hn) b, List.filter_filter]
    apply List.filter_congr
    intro i _; rw [Bool.eq_iff_iff]
    simp [and_comm]
  have h1 := hp.length_eq; have h2 := hp2.length_eq; simp only [List.length_cons] at h1 h2; rw [e]
  omega
theorem step_count {op : List Int} {s : Sh} (h : s.ok) {a b : Nat} (ha : a ∈ s.ixs) (hb : b ∈ s.ixs) (hab : a ≠ b) : (s.step op a b).ixs.length + 1 = s.ixs.length := by
  have := two_off (ixs_nodup s) ha hb hab; rw [step_ixs h, List.length_append, List.length_singleton]
  omega
theorem steps_count {op : List Int} {s : Sh} (h : s.fine) {ss : List Stp} (hok : okSteps op s ss) : ∀ i, i ≤ ss.length → (shTo op s (ss.take i)).ixs.length + i = s.ixs.length
  | 0, _ => by simp [shTo]
  | i + 1, hi => by
    have ih := steps_count h hok i (by omega); have hx : ss[i]? = some ss[i] := List.getElem?_eq_getElem (by omega); have hst := stepOk_at hok hx; have h1 := live_ixs.1 hst.1; have h2 := live_ixs.1 hst.2.1; rw [shTo_step hx]; have := step_count (op := op) (shTo_fine h (ss.take i)).1 h1.2 h2.2 (by have := hst.2.2; omega)
    omega
theorem few_steps {op : List Int} {ts : List Ten} (h : ∀ t ∈ ts, axesL t.l t.d) {ss : List Stp} (hok : okSteps op (sh0 ts) ss) : ss.length ≤ ts.length - 1 := by
  have h0 : (sh0 ts).ixs.length = ts.length := by rw [sh0_ixs]; simp
  by_cases e : ss.length = 0
  · omega
  · have hc := steps_count (sh0_fine h) hok (ss.length - 1) (by omega); have hx : ss[ss.length - 1]? = some ss[ss.length - 1] := List.getElem?_eq_getElem (by omega); have hst := stepOk_at hok hx; have h1 := live_ixs.1 hst.1; have h2 := live_ixs.1 hst.2.1; have h3 := two_off (ixs_nodup (shTo op (sh0 ts) (ss.take (ss.length - 1)))) h1.2 h2.2 (by have := hst.2.2; omega)
    omega
end Go.Proofs.YtdkgaejmgnojhaaGreat
namespace Go.Proofs.YtdkgaejmgnojhaaGreat
set_option maxRecDepth 100000
open Go.RowKit
abbrev noTen : Ten := ⟨[], [], []⟩
theorem dimJ_f {t u : Ten} {f : Int → Int} (ht : t.d = t.l.map f) (hu : u.d = u.l.map f) {x : Int} (hx : x ∈ joinI t.l u.l) : dimJ t u x = f x := by
  unfold dimJ
  by_cases h : x ∈ t.l
  · rw [if_pos h, ht, map_getD (findI_get h).1, (findI_get h).2]
  · have h2 := (mem_joinI.1 hx).resolve_left h; rw [if_neg h, hu, map_getD (findI_get h2).1, (findI_get h2).2]
theorem keep_map {t u : Ten} {f : Int → Int} (ht : t.d = t.l.map f) (hu : u.d = u.l.map f) (ks : List Int) : (keepL t u ks).map (dimJ t u) = (keepL t u ks).map f :=
  List.map_congr_left fun _ hx => dimJ_f ht hu (List.mem_filter.1 hx).1
theorem pair_ten {k p n : Int} {t u : Ten} {ks : List Int} (h : pairP k p n t u ks) : tensorL k p n (pairR k p n t u ks).l (pairR k p n t u ks).d (pairR k p n t u ks).x ∧ (pairR k p n t u ks).l = keepL t u ks ∧ (pairR k p n t u ks).d = (keepL t u ks).map (dimJ t u) := by
  have ok := pair_ok h.1 h.2.1 h.2.2.1 h.2.2.2.1; have hk := keep_ok ok h.2.2.2.2; have ha := ok.all hk (prodI ((joinI t.l u.l).map (dimJ t u))).toNat; have hs := sizeI_ge.1 h.2.2.2.2; rw [pairR, if_pos h]; refine ⟨⟨h.1.1, h.2.2.2.2, ?_, ha.2⟩, rfl, rfl⟩
  show ((pairX k p n (dimJ t u) t u (keepL t u ks) _).length : Int) = sizeI (keepL t u ks) ((keepL t u ks).map (dimJ t u)) * widthI k n
  rw [sizeI_yes hs.1 hs.2]; exact ha.1
theorem pairP_iff {k p n : Int} {t u : Ten} {f : Int → Int} {ks : List Int} (h1 : tensorL k p n t.l t.d t.x) (h2 : tensorL k p n u.l u.d u.x) (ht : t.d = t.l.map f) (hu : u.d = u.l.map f) :
    pairP k p n t u ks ↔ prodI ((joinI t.l u.l).map f) ≤ 65536 ∧ 0 ≤ sizeI (keepL t u ks) ((keepL t u ks).map f) := by
  unfold pairP
  rw [joinD_map ht hu, keep_map ht hu]; exact ⟨fun h => ⟨h.2.2.2.1, h.2.2.2.2⟩, fun h => ⟨h1, h2, mism_not ht hu, h.1, h.2⟩⟩
theorem keepL_self {t u : Ten} {q : Int → Bool} : keepL t u ((joinI t.l u.l).filter q) = (joinI t.l u.l).filter q := by
  unfold keepL
  refine List.filter_congr fun x hx => ?_; rw [Bool.eq_iff_iff, decide_eq_true_eq, List.mem_filter]; exact ⟨fun h => h.2, fun h => ⟨hx, h⟩⟩
theorem pairB_true {k p n : Int} {t u : Ten} {a : List Int} : pairB k p n t u a = true ↔ pairP k p n t u a := by simp [pairB]
theorem pairB_false {k p n : Int} {t u : Ten} {a : List Int} : pairB k p n t u a = false ↔ ¬ pairP k p n t u a := by simp [pairB]
def stpAt (ss : List Stp) (i : Nat) : Stp := ss.getD i ⟨0, 0⟩
theorem stpAt_of {ss : List Stp} {i : Nat} {x : Stp} (h : ss[i]? = some x) : stpAt ss i = x := by simp [stpAt, List.getD, h]
noncomputable def runS (ts : List Ten) (op : List Int) (ss : List Stp) (i : Nat) : Sh := shTo op (sh0 ts) (ss.take i)
noncomputable def runK (ts : List Ten) (op : List Int) (ss : List Stp) (i : Nat) : List Int := (runS ts op ss i).res op (stpAt ss i).a.toNat (stpAt ss i).b.toNat
noncomputable def runTo (k p n : Int) (ts : List Ten) (op : List Int) (ss : List Stp) : Nat → List Ten
  | 0 => ts
  | i + 1 => runTo k p n ts op ss i ++ [pairR k p n ((runTo k p n ts op ss i).getD (stpAt ss i).a.toNat noTen) ((runTo k p n ts op ss i).getD (stpAt ss i).b.toNat noTen) (runK ts op ss i)]
noncomputable def runA (k p n : Int) (ts : List Ten) (op : List Int) (ss : List Stp) (i : Nat) : Ten := (runTo k p n ts op ss i).getD (stpAt ss i).a.toNat noTen
noncomputable def runB (k p n : Int) (ts : List Ten) (op : List Int) (ss : List Stp) (i : Nat) : Ten := (runTo k p n ts op ss i).getD (stpAt ss i).b.toNat noTen
def runFit (k p n : Int) (ts : List Ten) (op : List Int) (ss : List Stp) (i : Nat) : Prop := pairP k p n (runA k p n ts op ss i) (runB k p n ts op ss i) (runK ts op ss i)
structure RunOK (k p n : Int) (ts : List Ten) (op : List Int) (ss : List Stp) (i : Nat) : Prop where
  len : (runTo k p n ts op ss i).length = ts.length + i
  ten : ∀ (j : Nat) (t : Ten), (runTo k p n ts op ss i)[j]? = some t → tensorL k p n t.l t.d t.x ∧ t.l = (runS ts op ss i).lab j ∧ t.d = t.l.map (dimOf ts)
section
variable {k p n : Int} {ts : List Ten} {op : List Int} {ss : List Stp}
theorem runTo_step (i : Nat) : runTo k p n ts op ss (i + 1) = runTo k p n ts op ss i ++ [pairR k p n (runA k p n ts op ss i) (runB k p n ts op ss i) (runK ts op ss i)] := rfl
theorem RunOK.get {i : Nat} (r : RunOK k p n ts op ss i) {j : Nat} (hj : j < ts.length + i) : tensorL k p n ((runTo k p n ts op ss i).getD j noTen).l ((runTo k p n ts op ss i).getD j noTen).d ((runTo k p n ts op ss i).getD j noTen).x ∧
    ((runTo k p n ts op ss i).getD j noTen).l = (runS ts op ss i).lab j ∧ ((runTo k p n ts op ss i).getD j noTen).d = ((runTo k p n ts op ss i).getD j noTen).l.map (dimOf ts) := by
  have hlt : j < (runTo k p n ts op ss i).length := by rw [r.len]; exact hj
  have h := r.ten j _ (List.getElem?_eq_getElem hlt); have e2 : (runTo k p n ts op ss i).getD j noTen = (runTo k p n ts op ss i)[j] := by simp [List.getD, List.getElem?_eq_getElem hlt]
  rw [e2]; exact h
theorem run_step (h : orderL k p n ts op ss) {i : Nat} (hi : i < ss.length) : stepOk (runS ts op ss i) (stpAt ss i) ∧ runS ts op ss (i + 1) = (runS ts op ss i).step op (stpAt ss i).a.toNat (stpAt ss i).b.toNat ∧ (runS ts op ss i).all.length = ts.length + i := by
  have hx : ss[i]? = some ss[i] := List.getElem?_eq_getElem hi; refine ⟨?_, ?_, ?_⟩
  · rw [stpAt_of hx]; exact h.2.2 i hi _ hx
  · rw [stpAt_of hx]; exact shTo_step hx
  · rw [runS, shTo_all, show (sh0 ts).all.length = ts.length by simp [sh0], List.length_take]; omega
theorem run_all {i : Nat} (hi : i ≤ ss.length) : (runS ts op ss i).all.length = ts.length + i := by
  rw [runS, shTo_all, show (sh0 ts).all.length = ts.length by simp [sh0], List.length_take]; omega
theorem run_fine (h : netL k p n ts op) (i : Nat) : (runS ts op ss i).fine := shTo_fine (sh0_fine (net_axes h)) _
theorem RunOK.two {i : Nat} (r : RunOK k p n ts op ss i) (h : orderL k p n ts op ss) (hi : i < ss.length) :
    (tensorL k p n (runA k p n ts op ss i).l (runA k p n ts op ss i).d (runA k p n ts op ss i).x ∧ (runA k p n ts op ss i).l = (runS ts op ss i).lab (stpAt ss i).a.toNat ∧ (runA k p n ts op ss i).d = (runA k p n ts op ss i).l.map (dimOf ts)) ∧
    (tensorL k p n (runB k p n ts op ss i).l (runB k p n ts op ss i).d (runB k p n ts op ss i).x ∧ (runB k p n ts op ss i).l = (runS ts op ss i).lab (stpAt ss i).b.toNat ∧ (runB k p n ts op ss i).d = (runB k p n ts op ss i).l.map (dimOf ts)) := by
  obtain ⟨⟨⟨a0, a1, _⟩, ⟨b0, b1, _⟩, _⟩, _, hl⟩ := run_step h hi; exact ⟨r.get (by omega), r.get (by omega)⟩
theorem RunOK.kept {i : Nat} (r : RunOK k p n ts op ss i) (h : orderL k p n ts op ss) (hi : i < ss.length) : keepL (runA k p n ts op ss i) (runB k p n ts op ss i) (runK ts op ss i) = runK ts op ss i := by
  obtain ⟨⟨_, la, _⟩, ⟨_, lb, _⟩⟩ := r.two h hi; have e : runK ts op ss i = (joinI (runA k p n ts op ss i).l (runB k p n ts op ss i).l).filter fun x => @decide ((runS ts op ss i).kept op (stpAt ss i).a.toNat (stpAt ss i).b.toNat x) (Classical.propDecidable _) := by rw [la, lb]; rfl
  rw [e]; exact keepL_self
theorem RunOK.step {i : Nat} (r : RunOK k p n ts op ss i) (h : orderL k p n ts op ss) (hi : i < ss.length) (hf : runFit k p n ts op ss i) : RunOK k p n ts op ss (i + 1) := by
  obtain ⟨hst, hs1, hl⟩ := run_step h hi; obtain ⟨⟨ta, la, da⟩, ⟨tb, lb, db⟩⟩ := r.two h hi; have hk := r.kept h hi; obtain ⟨p1, p2, p3⟩ := pair_ten hf; rw [keep_map da db, hk] at p3; rw [hk] at p2; refine ⟨by rw [runTo_step, List.length_append, r.len]; simp; omega, fun j t hj => ?_⟩; rw [runTo_step] at hj
  rcases Nat.lt_or_ge j (runTo k p n ts op ss i).length with hlt | hge
  · rw [List.getElem?_append_left hlt] at hj; have := r.ten j t hj; rw [hs1, step_lab (by rw [hl, ← r.len]; exact hlt)]; exact this
  · rw [List.getElem?_append_right hge] at hj; have e0 : j - (runTo k p n ts op ss i).length = 0 := by
      rcases Nat.eq_zero_or_pos (j - (runTo k p n ts op ss i).length) with h0 | h0
      · exact h0
      · rw [List.getElem?_eq_none (by simp; omega)] at hj; cases hj
    rw [e0] at hj
    simp at hj
    subst hj; refine ⟨p1, ?_, ?_⟩
    · rw [p2, hs1, show j = (runS ts op ss i).all.length by rw [hl, ← r.len]; omega, step_lab_new]; rfl
    · rw [p2, p3]
theorem run_ok (h : orderL k p n ts op ss) : ∀ i, i ≤ ss.length → (∀ j, j < i → runFit k p n ts op ss j) → RunOK k p n ts op ss i
  | 0, _, _ => by
    refine ⟨rfl, fun j t hj => ?_⟩; have hj' : ts[j]? = some t := hj; have hm := List.mem_of_getElem? hj'; exact ⟨h.1.2.2.1 t hm, by simp [runS, shTo, Sh.lab, sh0, List.getD, hj'], net_dmap h.1 t hm⟩
  | i + 1, hi, hf => (run_ok h i (by omega) fun j hj => hf j (by omega)).step h (by omega) (hf i (by omega))
/-- The rows of m cells but those at p and q, of the first k. -/
def dropK {α : Type} (m : Nat) (cs : List α) (p q : Nat) : Nat → List α
  | 0 => []
  | k + 1 => if k ≠ p ∧ k ≠ q then dropK m cs p q k ++ (cs.drop (k * m)).take m else dropK m cs p q k
theorem dropK_yes {α : Type} {m : Nat} {cs : List α} {p q k : Nat} (h : k ≠ p ∧ k ≠ q) : dropK m cs p q (k + 1) = dropK m cs p q k ++ (cs.drop (k * m)).take m := by rw [dropK, if_pos h]
theorem dropK_no {α : Type} {m : Nat} {cs : List α} {p q k : Nat} (h : ¬ (k ≠ p ∧ k ≠ q)) : dropK m cs p q (k + 1) = dropK m cs p q k := by rw [dropK, if_neg h]
theorem one_drop {α : Type} {l : List α} {k : Nat} {x : α} (h : l[k]? = some x) : (l.drop (k * 1)).take 1 = [x] := by
  obtain ⟨hk, rfl⟩ := List.getElem?_eq_some_iff.1 h; rw [Nat.mul_one, List.drop_eq_getElem_cons hk]; rfl
theorem dropK_len {α : Type} {m : Nat} {cs : List α} {p q : Nat} : ∀ k, (dropK m cs p q k).length ≤ k * m
  | 0 => by simp [dropK]
  | k + 1 => by
    have ih := dropK_len (m := m) (cs := cs) (p := p) (q := q) k; have e : (k + 1) * m = k * m + m := by rw [Nat.add_mul, Nat.one_mul]
    by_cases h : k ≠ p ∧ k ≠ q
    · rw [dropK_yes h, List.length_append, List.length_take]; omega
    · rw [dropK_no h]; omega
theorem dropK_ixs {β : Type} (g : Nat → β) {s : Sh} {p q a b : Nat} (hp : s.ixs[p]? = some a) (hq : s.ixs[q]? = some b) : ∀ k, k ≤ s.ixs.length → dropK 1 (s.ixs.map g) p q k = ((s.ixs.take k).filter fun i => decide (i ≠ a ∧ i ≠ b)).map g
  | 0, _ => by simp [dropK]
  | k + 1, hk => by
    have ih := dropK_ixs g hp hq k (by omega); have hi : s.ixs[k]? = some s.ixs[k] := List.getElem?_eq_getElem (by omega); have e1 : k = p ↔ s.ixs[k] = a := ⟨fun e => by subst e; rw [hi] at hp; exact Option.some.inj hp, fun e => ixs_inj (e ▸ hi) hp⟩
    have e2 : k = q ↔ s.ixs[k] = b := ⟨fun e => by subst e; rw [hi] at hq; exact Option.some.inj hq, fun e => ixs_inj (e ▸ hi) hq⟩
    have hl : (s.ixs.map g)[k]? = some (g s.ixs[k]) := by rw [List.getElem?_map, hi]; rfl
    rw [List.take_succ_eq_append_getElem (by omega), List.filter_append, List.map_append]
    by_cases hc : k ≠ p ∧ k ≠ q
    · have : s.ixs[k] ≠ a ∧ s.ixs[k] ≠ b := ⟨fun e => hc.1 (e1.2 e), fun e => hc.2 (e2.2 e)⟩
      rw [dropK_yes hc, ih, one_drop hl]
      simp [this]
    · have : ¬ (s.ixs[k] ≠ a ∧ s.ixs[k] ≠ b) := fun e => hc ⟨fun e' => e.1 (e1.1 e'), fun e' => e.2 (e2.1 e')⟩; rw [dropK_no hc, ih]
      simp [this]
noncomputable def outTo (k p n : Int) (ts : List Ten) (op : List Int) (ss : List Stp) (i : Nat) : List Ten := (runS ts op ss i).ixs.map fun j => (runTo k p n ts op ss i).getD j noTen
theorem out_len (i : Nat) : (outTo k p n ts op ss i).length = (runS ts op ss i).ixs.length := by simp [outTo]
theorem out_get {i j a : Nat} (h : (runS ts op ss i).ixs[j]? = some a) : (outTo k p n ts op ss i)[j]? = some ((runTo k p n ts op ss i).getD a noTen) := by
  rw [outTo, List.getElem?_map, h]; rfl
theorem out_zero : outTo k p n ts op ss 0 = ts := by
  have e : (runS ts op ss 0).ixs = List.range ts.length := by rw [← sh0_ixs ts]; rfl
  rw [outTo, e]
  apply List.ext_getElem?
  intro j; rw [List.getElem?_map]
  rcases Nat.lt_or_ge j ts.length with h | h
  · rw [List.getElem?_range h]
    simp [runTo, List.getD, h]
  · rw [List.getElem?_eq_none (by simpa using h), List.getElem?_eq_none h]; rfl
theorem out_step (h : orderL k p n ts op ss) {i : Nat} (hi : i < ss.length) (r : RunOK k p n ts op ss i) {pa pb : Nat} (ha : (runS ts op ss i).ixs[pa]? = some (stpAt ss i).a.toNat) (hb : (runS ts op ss i).ixs[pb]? = some (stpAt ss i).b.toNat) :
    outTo k p n ts op ss (i + 1) = dropK 1 (outTo k p n ts op ss i) pa pb (outTo k p n ts op ss i).length ++ [pairR k p n (runA k p n ts op ss i) (runB k p n ts op ss i) (runK ts op ss i)] := by
  obtain ⟨hst, hs1, hl⟩ := run_step h hi; rw [out_len]
  unfold outTo
  rw [dropK_ixs _ ha hb _ (Nat.le_refl _), List.take_length, hs1, step_ixs (run_fine h.1 i).1, List.map_append]
  congr 1
  · refine List.map_congr_left fun j hj => ?_; have := (mem_ixs.1 (List.mem_filter.1 hj).1).1; rw [runTo_step]; simp only [List.getD]; rw [List.getElem?_append_left (by rw [r.len, ← hl]; exact this)]
  · rw [List.map_singleton, runTo_step, hl, ← r.len]
    simp [List.getD]
theorem dimOf_mem {ts : List Ten} {x : Int} (h : dimOf ts x ≠ 0) : ∃ t ∈ ts, x ∈ t.l := by
  induction ts with
  | nil => simp [dimOf] at h
  | cons t ts ih =>
    rw [dimOf] at h
    by_cases hx : x ∈ t.l
    · exact ⟨t, by simp, hx⟩
    · rw [if_neg hx] at h; obtain ⟨u, hu, hxu⟩ := ih h; exact ⟨u, by simp [hu], hxu⟩
theorem run_open (h : orderL k p n ts op ss) {x : Int} (hx : x ∈ op) : ∀ i, i ≤ ss.length → ∃ j ∈ (runS ts op ss i).ixs, x ∈ (runS ts op ss i).lab j
  | 0, _ => by
    obtain ⟨j, hj, e⟩ := getD_of_mem hx; have ho := (open_at h.1.2.2.2.2 hj).2; rw [e] at ho; obtain ⟨t, ht, hxt⟩ := dimOf_mem (ts := ts) (x := x) (by omega); obtain ⟨m, hm⟩ := List.getElem?_of_mem ht; have hml := (List.getElem?_eq_some_iff.1 hm).1; have e0 : runS ts op ss 0 = sh0 ts := rfl; refine ⟨m, by rw [e0, sh0_ixs]; simpa using hml, ?_⟩; rw [e0]
    simpa [Sh.lab, sh0, List.getD, hm] using hxt
  | i + 1, hi => by
    obtain ⟨j, hj, hxj⟩ := run_open h hx i (by omega); obtain ⟨hst, hs1, hl⟩ := run_step h (i := i) (by omega); have hok := (run_fine (ss := ss) h.1 i).1; rw [hs1]
    by_cases hc : j ≠ (stpAt ss i).a.toNat ∧ j ≠ (stpAt ss i).b.toNat
    · refine ⟨j, by rw [step_ixs hok]; simp [hj, hc], ?_⟩; rw [step_lab (mem_ixs.1 hj).1]; exact hxj
    · refine ⟨(runS ts op ss i).all.length, by rw [step_ixs hok]; simp, ?_⟩; rw [step_lab_new]; refine List.mem_filter.2 ⟨mem_joinI.2 ?_, by simpa using .inl hx⟩
      by_cases ea : j = (stpAt ss i).a.toNat
      · exact .inl (ea ▸ hxj)
      · exact .inr ((show j = (stpAt ss i).b.toNat by omega) ▸ hxj)
theorem run_left (h : orderL k p n ts op ss) (hn : ts ≠ []) : (runS ts op ss ss.length).ixs = [ts.length + ss.length - 1] := by
  have hlen : ts.length ≠ 0 := fun e => hn (List.eq_nil_of_length_eq_zero e); have hc := steps_count (op := op) (sh0_fine (net_axes h.1)) h.2.2 ss.length (Nat.le_refl _); rw [show (sh0 ts).ixs.length = ts.length by rw [sh0_ixs]; simp] at hc; have h1 : (runS ts op ss ss.length).ixs.length = 1 := by
    have := h.2.1
    show (shTo op (sh0 ts) (ss.take ss.length)).ixs.length = 1
    omega
  have hm : ts.length + ss.length - 1 ∈ (runS ts op ss ss.length).ixs := by
    rcases Nat.eq_zero_or_pos ss.length with h0 | h0
    · have e0 : runS ts op ss ss.length = sh0 ts := by rw [h0]; rfl
      rw [e0, sh0_ixs, h0]; simp; omega
    · obtain ⟨hst, hs1, hl⟩ := run_step h (i := ss.length - 1) (by omega); rw [show ss.length - 1 + 1 = ss.length by omega] at hs1; rw [hs1, step_ixs (run_fine (ss := ss) h.1 _).1, hl]
      simp; omega
  obtain ⟨y, hy⟩ := List.length_eq_one_iff.1 h1; rw [hy] at hm ⊢
  simp at hm
  rw [hm]
end
end Go.Proofs.YtdkgaejmgnojhaaGreat
namespace Go.Proofs.YtdkgaejmgnojhaaGreat
set_option maxRecDepth 100000
open Go.RowKit
theorem Made.join3 {h a b : PH} {l : List PH} (m : Made h (a :: b :: l)) : Made h [a, b, joinP l] := by
  have hs := m.sep; have hl : PLe (joinP l) h := fun k o e => by
    obtain ⟨y, hy, e'⟩ := joinP_dom e; exact m.le y (by simp [hy]) k o e'
  refine ⟨⟨fun x hx => ?_, fun x hx => ?_, fun x hx => by simp at hx, trivial⟩, fun x hx => ?_, fun k o e => ?_⟩
  · rcases List.mem_cons.1 hx with rfl | hx
    · exact hs.1 _ (by simp)
    · simp at hx; subst hx
      exact PDj.join fun y hy => hs.1 y (by simp [hy])
  · simp at hx; subst hx
    exact PDj.join fun y hy => hs.2.1 y hy
  · simp at hx
    rcases hx with rfl | rfl | rfl
    · exact m.le _ (by simp)
    · exact m.le _ (by simp)
    · exact hl
  · obtain ⟨x, hx, e'⟩ := m.dom k o e
    simp at hx
    rcases hx with rfl | rfl | hx
    · exact ⟨x, by simp, e'⟩
    · exact ⟨x, by simp, e'⟩
    · exact ⟨joinP l, by simp, PLe.join hs.2.2 x hx k o e'⟩
theorem Made.part3 {h a b c : PH} {l : List PH} (m : Made h [a, b, c]) (ml : Made c l) : Made h (a :: b :: l) := by
  have hs := m.sep; have hc : PLe c h := m.le c (by simp); refine ⟨⟨fun x hx => ?_, fun x hx => ?_, ml.sep⟩, fun x hx => ?_, fun k o e => ?_⟩
  · rcases List.mem_cons.1 hx with rfl | hx
    · exact hs.1 _ (by simp)
    · exact (((hs.1 c (by simp)).symm).mono (ml.le x hx)).symm
  · exact (((hs.2.1 c (by simp)).symm).mono (ml.le x hx)).symm
  · simp at hx
    rcases hx with rfl | rfl | hx
    · exact m.le _ (by simp)
    · exact m.le _ (by simp)
    · exact (ml.le x hx).trans hc
  · obtain ⟨x, hx, e'⟩ := m.dom k o e
    simp at hx
    rcases hx with rfl | rfl | rfl
    · exact ⟨x, by simp, e'⟩
    · exact ⟨x, by simp, e'⟩
    · obtain ⟨y, hy, e2⟩ := ml.dom k o e'; exact ⟨y, by simp [hy], e2⟩
theorem NetO.split {ts : List Ten} {op : List Int} {vt vo : Value} {h : PH} (r : NetO ts op vt vo h) : ∃ cs h0 ho hl, RowO 40 cs ts.length 3 vt h0 ∧ IntsO op vo ho ∧ OwnH (flat ts) cs hl ∧ Made h [h0, ho, hl] := by
  obtain ⟨cs, h0, ho, l, r0, r1, o, m⟩ := r; exact ⟨cs, h0, ho, joinP l, r0, r1, ⟨l, o, Made.join m.sep.2.2⟩, m.join3⟩
theorem NetO.join {ts : List Ten} {op : List Int} {vt vo : Value} {h h0 ho hl : PH} {cs : List Value} (r0 : RowO 40 cs ts.length 3 vt h0) (r1 : IntsO op vo ho) (o : OwnH (flat ts) cs hl) (m : Made h [h0, ho, hl]) : NetO ts op vt vo h := by
  obtain ⟨l, o, ml⟩ := o; exact ⟨cs, h0, ho, l, r0, r1, o, m.part3 ml⟩
theorem OwnL.take {xss : List (List Int)} {vs : List Value} {l : List PH} (o : OwnL xss vs l) (n : Nat) : OwnL (xss.take n) (vs.take n) (l.take n) := by
  refine ⟨by simp [o.l1], by simp [o.l2], fun i xs h => ?_⟩; have hi : i < n := by
    rcases Nat.lt_or_ge i n with h' | h'
    · exact h'
    · rw [List.getElem?_take, if_neg (by omega)] at h; cases h
  rw [List.getElem?_take, if_pos hi] at h ⊢; rw [List.getElem?_take, if_pos hi]; exact o.own i xs h
theorem OwnL.drop {xss : List (List Int)} {vs : List Value} {l : List PH} (o : OwnL xss vs l) (n : Nat) : OwnL (xss.drop n) (vs.drop n) (l.drop n) := by
  refine ⟨by simp [o.l1], by simp [o.l2], fun i xs h => ?_⟩; rw [List.getElem?_drop] at h ⊢; rw [List.getElem?_drop]; exact o.own (n + i) xs h
theorem flat_take {ts : List Ten} {i : Nat} (h : i ≤ ts.length) : flat (ts.take i) = (flat ts).take (i * 3) ∧ flat (ts.drop i) = (flat ts).drop (i * 3) := by
  have e : flat ts = flat (ts.take i) ++ flat (ts.drop i) := by rw [← flat_append, List.take_append_drop]
  have hl : (flat (ts.take i)).length = i * 3 := by rw [flat_len, List.length_take, Nat.min_eq_left h]
  constructor
  · rw [e, List.take_left' hl]
  · rw [e, List.drop_left' hl]
theorem sep_mono {l l' : List PH} (h : sepL l) (hs : l'.Sublist l) : sepL l' := by
  induction hs with
  | slnil => exact trivial
  | cons x _ ih => exact ih h.2
  | cons_cons x s ih => exact ⟨fun y hy => h.1 y (s.subset hy), ih h.2⟩
noncomputable def ifB {α : Type} (b : Bool) (x y : α) : α := if b then x else y
theorem NetO.nil : NetO [] [] (.slice none 0 0) (.slice none 0 0) emp :=
  ⟨[], emp, emp, [], RowO.nil, IntsO.nil, OwnL.nil, ⟨by simp [sepL, PDj.emp], fun x hx => by simp at hx; subst hx; exact PLe.emp _, fun k o e => by cases e⟩⟩
end Go.Proofs.YtdkgaejmgnojhaaGreat
namespace Go.Proofs.YtdkgaejmgnojhaaGreat
set_option maxRecDepth 100000
open Go.RowKit
theorem OwnL.piece {ts : List Ten} {vs : List Value} {l : List PH} (o : OwnL (flat ts) vs l) {k : Nat} {t : Ten} (h : ts[k]? = some t) : OwnL (flat [t]) ((vs.drop (k * 3)).take 3) ((l.drop (k * 3)).take 3) := by
  have hk := (List.getElem?_eq_some_iff.1 h).1; have e : ((flat ts).drop (k * 3)).take 3 = flat [t] := by
    rw [← (flat_take (Nat.le_of_lt hk)).2, drop_at h]; rfl
  have := (o.drop (k * 3)).take 3
  rwa [e] at this
theorem OwnL.dropK {ts : List Ten} {vs : List Value} {l : List PH} (o : OwnL (flat ts) vs l) (p q : Nat) : ∀ k, k ≤ ts.length → OwnL (flat (dropK 1 ts p q k)) (dropK 3 vs p q k) (dropK 3 l p q k)
  | 0, _ => OwnL.nil
  | k + 1, hk => by
    have ih := OwnL.dropK o p q k (by omega); have ht : ts[k]? = some ts[k] := List.getElem?_eq_getElem (by omega)
    by_cases h : k ≠ p ∧ k ≠ q
    · rw [dropK_yes h, dropK_yes h, dropK_yes h, one_drop ht, flat_append]; exact ih.append (o.piece ht)
    · rw [dropK_no h, dropK_no h, dropK_no h]; exact ih
theorem dropK_sub {α : Type} (m : Nat) (l : List α) (p q : Nat) : ∀ k, (dropK m l p q k).Sublist (l.take (k * m))
  | 0 => by simp [dropK]
  | k + 1 => by
    have ih := dropK_sub m l p q k; have e : l.take ((k + 1) * m) = l.take (k * m) ++ (l.drop (k * m)).take m := by rw [Nat.add_mul, Nat.one_mul, List.take_add]
    rw [e]
    by_cases h : k ≠ p ∧ k ≠ q
    · rw [dropK_yes h]; exact ih.append (List.Sublist.refl _)
    · rw [dropK_no h]; exact ih.trans (List.sublist_append_left _ _)
theorem OwnH.dropK {ts : List Ten} {cs : List Value} {h : PH} (o : OwnH (flat ts) cs h) (p q : Nat) : ∃ g, PLe g h ∧ OwnH (flat (dropK 1 ts p q ts.length)) (dropK 3 cs p q ts.length) g := by
  obtain ⟨l, ol, m⟩ := o; have hs := (dropK_sub 3 l p q ts.length).trans (List.take_sublist _ _); have hsep := sep_mono m.sep hs; refine ⟨joinP (Go.Proofs.YtdkgaejmgnojhaaGreat.dropK 3 l p q ts.length), fun k o e => ?_, _, ol.dropK p q _ (Nat.le_refl _), Made.join hsep⟩; obtain ⟨y, hy, e'⟩ := joinP_dom e; exact m.le y (hs.subset hy) k o e'
theorem perm_all {k p n : Int} {t : Ten} {ls : List Int} (h : PermOK k p n t ls) : ∀ m : Nat, ((permX (widthI k n) t ls (permD t ls) m).length : Int) = m * widthI k n ∧ ∀ a ∈ permX (widthI k n) t ls (permD t ls) m, 0 ≤ a ∧ a ≤ topI k p n
  | 0 => by simp [permX]
  | m + 1 => by
    have ih := perm_all h m; have ho := h.off m; have he := elt_inR h.ten ho.1 ho.2; have hw := width_range h.ring; rw [permX_step]; refine ⟨?_, fun a ha => ?_⟩
    · rw [List.length_append, he.1, Int.natCast_add, ih.1, show ((m + 1 : Nat) : Int) = (m : Int) + 1 from rfl, Int.add_mul, Int.one_mul]; omega
    · rcases List.mem_append.1 ha with ha | ha
      · exact ih.2 a ha
      · exact he.2 a ha
theorem perm_axes {k p n : Int} {t : Ten} {ls : List Int} (h : PermOK k p n t ls) : axesL ls (permD t ls) := by
  refine ⟨h.len.2.2, (permD_len t ls).symm, fun j hj => ⟨?_, h.dims j (by rw [permD_len]; exact hj), nodup_not_take h.nodup hj⟩⟩; obtain ⟨i, hi, e⟩ := getD_of_mem (h.perm.mem_iff.1 (mem_getD hj)); rw [← e]; exact (h.axes.2.2 i hi).1
theorem perm_ten {k p n : Int} {t : Ten} {ls : List Int} (h : PermOK k p n t ls) : tensorL k p n (permT k n t ls).l (permT k n t ls).d (permT k n t ls).x := by
  have hs := h.small; have ha := perm_axes h; have hx := perm_all h (prodI (permD t ls)).toNat; refine ⟨h.ring, sizeI_ge.2 ⟨ha, hs.2⟩, ?_, hx.2⟩
  show ((permX (widthI k n) t ls (permD t ls) (prodI (permD t ls)).toNat).length : Int) = sizeI ls (permD t ls) * widthI k n
  rw [sizeI_yes ha hs.2, hx.1, show (((prodI (permD t ls)).toNat : Nat) : Int) = prodI (permD t ls) by omega]
theorem setL_of_perm {xs ys : List Int} (h : xs.Perm ys) (hn : ys.Nodup) : setL xs ys :=
  ⟨h.length_eq, fun _ hj => ⟨h.mem_iff.2 (mem_getD hj), nodup_not_take hn hj⟩⟩
theorem net_open {k p n : Int} {ts : List Ten} {op : List Int} (h : netL k p n ts op) : op.Nodup ∧ op.length ≤ 12 := by
  have ha := (sizeI_ge.1 h.2.2.2.2).1; exact ⟨axes_nodup ha, ha.1⟩
theorem mem_keep {t u : Ten} {ks : List Int} {x : Int} : x ∈ keepL t u ks ↔ (x ∈ t.l ∨ x ∈ u.l) ∧ x ∈ ks := by
  unfold keepL
  rw [List.mem_filter, mem_joinI, decide_eq_true_eq]
theorem sum_ten {k p n : Int} {t : Ten} (ht : tensorL k p n t.l t.d t.x) (ks : List Int) : tensorL k p n (sumR k p n t ks).l (sumR k p n t ks).d (sumR k p n t ks).x ∧ (sumR k p n t ks).l = keepL t (oneT k p n) ks ∧ (sumR k p n t ks).d = (keepL t (oneT k p n) ks).map (dimJ t (oneT k p n)) := by
  have := pair_ten (sum_pair ht ks)
  rwa [sumR_pair ht] at this
theorem fin_perm {k p n : Int} {t : Ten} {op : List Int} (ht : tensorL k p n t.l t.d t.x) (hn : op.Nodup) (hs : ∀ x ∈ op, x ∈ t.l) : PermOK k p n (sumR k p n t op) op := by
  obtain ⟨h1, h2, _⟩ := sum_ten ht op; have hk : ∀ x, x ∈ (sumR k p n t op).l ↔ x ∈ op := fun x => by
    rw [h2, mem_keep]; exact ⟨fun h => h.2, fun h => ⟨.inl (hs x h), h⟩⟩
  exact ⟨ht.1, h1, perm_of hn (fun x hx => (hk x).2 hx) (pigeon (axes_nodup (ten_axes h1)) fun x hx => (hk x).1 hx)⟩
noncomputable def finT (k p n : Int) (t : Ten) (op : List Int) : Ten := permT k n (sumR k p n t op) op
def finP (k p n : Int) (ts : List Ten) (op : List Int) (t : Ten) : Prop := netL k p n ts op ∧ tensorL k p n t.l t.d t.x ∧ ∀ x ∈ op, x ∈ t.l
open Classical in
noncomputable def finB (k p n : Int) (ts : List Ten) (op : List Int) (t : Ten) : Bool := decide (finP k p n ts op t)
open Classical in
noncomputable def finR (k p n : Int) (ts : List Ten) (op : List Int) (t : Ten) : Ten := if finP k p n ts op t then finT k p n t op else noTen
theorem finP.perm {k p n : Int} {ts : List Ten} {op : List Int} {t : Ten} (h : finP k p n ts op t) : PermOK k p n (sumR k p n t op) op := fin_perm h.2.1 (net_open h.1).1 h.2.2
theorem FinNo {k p n : Int} {ts : List Ten} {op : List Int} {t : Ten} (h : ¬ finP k p n ts op t) : TenB (finR k p n ts op t) (finB k p n ts op t) (.tuple [tenV (.slice none 0 0) (.slice none 0 0) (.slice none 0 0), .bool false].toArray) emp :=
  ⟨.slice none 0 0, .slice none 0 0, .slice none 0 0, by simp [finB, h], by rw [finR, if_neg h]; exact triO_none⟩
theorem FinYes {k p n : Int} {ts : List Ten} {op : List Int} {t : Ten} {a b c : Value} {h : PH} (hp : finP k p n ts op t) (r : TriO (finT k p n t op) a b c h) : TenB (finR k p n ts op t) (finB k p n ts op t) (.tuple [tenV a b c, .bool true].toArray) h :=
  ⟨a, b, c, by simp [finB, hp], by rw [finR, if_pos hp]; exact r⟩
def partP (k p n : Int) (ts : List Ten) (op : List Int) (ss : List Stp) (m : Int) : Prop := orderL k p n ts op ss ∧ (0 ≤ m ∧ m ≤ ss.length) ∧ ∀ j, j < m.toNat → runFit k p n ts op ss j
open Classical in
noncomputable def partB (k p n : Int) (ts : List Ten) (op : List Int) (ss : List Stp) (m : Int) : Bool := decide (partP k p n ts op ss m)
noncomputable def partTs (k p n : Int) (ts : List Ten) (op : List Int) (ss : List Stp) (m : Int) : List Ten := ifB (partB k p n ts op ss m) (outTo k p n ts op ss m.toNat) []
noncomputable def partOp (k p n : Int) (ts : List Ten) (op : List Int) (ss : List Stp) (m : Int) : List Int := ifB (partB k p n ts op ss m) op []
def PartR (k p n : Int) (ts : List Ten) (op : List Int) (ss : List Stp) (m : Int) (x : Value) (h : PH) : Prop :=
  NetB (ifB (partB k p n ts op ss m) k 0) (ifB (partB k p n ts op ss m) p 0) (ifB (partB k p n ts op ss m) n 0) (partTs k p n ts op ss m) (partOp k p n ts op ss m) (partB k p n ts op ss m) x h
theorem partB_true {k p n : Int} {ts : List Ten} {op : List Int} {ss : List Stp} {m : Int} : partB k p n ts op ss m = true ↔ partP k p n ts op ss m := by simp [partB]
theorem PartNo {k p n m : Int} {ts : List Ten} {op : List Int} {ss : List Stp} (h : ¬ partP k p n ts op ss m) : PartR k p n ts op ss m (.tuple [netV 0 0 0 (.slice none 0 0) (.slice none 0 0), .bool false].toArray) emp := by
  have e : partB k p n ts op ss m = false := by simp [partB, h]
  refine ⟨.slice none 0 0, .slice none 0 0, ?_, ?_⟩
  · rw [e]; rfl
  · rw [partTs, partOp, e]; exact NetO.nil
theorem PartYes {k p n m : Int} {ts : List Ten} {op : List Int} {ss : List Stp} {vt vo : Value} {g : PH} (h : partP k p n ts op ss m) (r : NetO (outTo k p n ts op ss m.toNat) op vt vo g) : PartR k p n ts op ss m (.tuple [netV k p n vt vo, .bool true].toArray) g := by
  have e : partB k p n ts op ss m = true := by simp [partB, h]
  refine ⟨vt, vo, ?_, ?_⟩
  · rw [e]; rfl
  · rw [partTs, partOp, e]; exact r
def conP (k p n : Int) (ts : List Ten) (op : List Int) (ss : List Stp) : Prop := orderL k p n ts op ss ∧ ∀ j, j < ss.length → runFit k p n ts op ss j
open Classical in
noncomputable def conB (k p n : Int) (ts : List Ten) (op : List Int) (ss : List Stp) : Bool := decide (conP k p n ts op ss)
noncomputable def lastT (k p n : Int) (ts : List Ten) (op : List Int) (ss : List Stp) : Ten := (runTo k p n ts op ss ss.length).getD (ts.length + ss.length - 1) noTen
noncomputable def conT (k p n : Int) (ts : List Ten) (op : List Int) (ss : List Stp) : Ten := if ts.length = 0 then oneT k p n else finT k p n (lastT k p n ts op ss) op
open Classical in
noncomputable def conR (k p n : Int) (ts : List Ten) (op : List Int) (ss : List Stp) : Ten := if conP k p n ts op ss then conT k p n ts op ss else noTen
theorem conB_true {k p n : Int} {ts : List Ten} {op : List Int} {ss : List Stp} : conB k p n ts op ss = true ↔ conP k p n ts op ss := by simp [conB]
theorem conB_false {k p n : Int} {ts : List Ten} {op : List Int} {ss : List Stp} : conB k p n ts op ss = false ↔ ¬ conP k p n ts op ss := by simp [conB]
theorem con_part {k p n : Int} {ts : List Ten} {op : List Int} {ss : List Stp} : partP k p n ts op ss ss.length ↔ conP k p n ts op ss := by
  unfold partP conP
  rw [Int.toNat_natCast]; exact ⟨fun h => ⟨h.1, h.2.2⟩, fun h => ⟨h.1, by omega, h.2⟩⟩
section
variable {k p n : Int} {ts : List Ten} {op : List Int} {ss : List Stp}
theorem conP.last (h : conP k p n ts op ss) (hn : ts.length ≠ 0) : finP k p n ts op (lastT k p n ts op ss) ∧ outTo k p n ts op ss ss.length = [lastT k p n ts op ss] := by
  have r := run_ok h.1 ss.length (Nat.le_refl _) h.2; have hl := run_left h.1 (fun e => hn (by rw [e]; rfl)); have hg := r.get (j := ts.length + ss.length - 1) (by omega); refine ⟨⟨h.1.1, hg.1, fun x hx => ?_⟩, by rw [outTo, hl]; rfl⟩; obtain ⟨j, hj, hxj⟩ := run_open h.1 hx ss.length (Nat.le_refl _); rw [hl] at hj
  simp at hj
  show x ∈ ((runTo k p n ts op ss ss.length).getD (ts.length + ss.length - 1) noTen).l
  rw [hg.2.1, ← hj]; exact hxj
theorem conP.empty (h : conP k p n ts op ss) (hn : ts.length = 0) : op = [] := by
  refine List.eq_nil_iff_forall_not_mem.2 fun x hx => ?_; obtain ⟨j, hj, e⟩ := getD_of_mem hx; have ho := (open_at h.1.1.2.2.2.2 hj).2; have e0 : ts = [] := List.eq_nil_of_length_eq_zero hn; rw [e0] at ho
  simp [dimOf] at ho
theorem conP.ten (h : conP k p n ts op ss) : tensorL k p n (conT k p n ts op ss).l (conT k p n ts op ss).d (conT k p n ts op ss).x ∧ (conT k p n ts op ss).l = op := by
  unfold conT
  by_cases hn : ts.length = 0
  · rw [if_pos hn]; exact ⟨one_ten h.1.1.1, (h.empty hn).symm⟩
  · rw [if_neg hn]; exact ⟨perm_ten (h.last hn).1.perm, rfl⟩
end
theorem ConNo {k p n : Int} {ts : List Ten} {op : List Int} {ss : List Stp} (h : ¬ conP k p n ts op ss) : TenB (conR k p n ts op ss) (conB k p n ts op ss) (.tuple [tenV (.slice none 0 0) (.slice none 0 0) (.slice none 0 0), .bool false].toArray) emp :=
  ⟨.slice none 0 0, .slice none 0 0, .slice none 0 0, by simp [conB, h], by rw [conR, if_neg h]; exact triO_none⟩
theorem ConYes {k p n : Int} {ts : List Ten} {op : List Int} {ss : List Stp} {a b c : Value} {h : PH} (hp : conP k p n ts op ss) (r : TriO (conT k p n ts op ss) a b c h) : TenB (conR k p n ts op ss) (conB k p n ts op ss) (.tuple [tenV a b c, .bool true].toArray) h :=
  ⟨a, b, c, by simp [conB, hp], by rw [conR, if_pos hp]; exact r⟩
end Go.Proofs.YtdkgaejmgnojhaaGreat
namespace Go.Proofs.YtdkgaejmgnojhaaGreat
set_option maxRecDepth 100000
open Go.RowKit
section
variable {ts : List Ten} {op : List Int} {i j k : Nat} {t : Ten}
end
theorem dimOf_map {us : List Ten} {f : Int → Int} {x : Int} (h : ∀ t ∈ us, t.d = t.l.map f) (hx : ∃ t ∈ us, x ∈ t.l) : dimOf us x = f x := by
  induction us with
  | nil => obtain ⟨t, ht, _⟩ := hx; simp at ht
  | cons t us ih =>
    rw [dimOf]
    by_cases hm : x ∈ t.l
    · rw [if_pos hm, h t (by simp), map_getD (findI_get hm).1, (findI_get hm).2]
    · rw [if_neg hm]; refine ih (fun u hu => h u (by simp [hu])) ?_; obtain ⟨u, hu, hxu⟩ := hx
      rcases List.mem_cons.1 hu with rfl | hu
      · exact absurd hxu hm
      · exact ⟨u, hu, hxu⟩
theorem dimOf_none {us : List Ten} {x : Int} (hx : ¬ ∃ t ∈ us, x ∈ t.l) : dimOf us x = 0 := Classical.byContradiction fun h => hx (dimOf_mem h)
theorem cons_of_map {us : List Ten} {f : Int → Int} (h : ∀ t ∈ us, t.d = t.l.map f) : consL us := fun i _ t ht j hj t' ht' => by
  rw [ht] at ht'
  cases ht'
  by_cases hx : ∃ u ∈ us.take i, t.l.getD j 0 ∈ u.l
  · right
    rw [dimOf_map (fun u hu => h u (List.mem_of_mem_take hu)) hx, h t (List.mem_of_getElem? ht), map_getD hj]
  · exact .inl (dimOf_none hx)
section
variable {k p n : Int} {ts : List Ten} {op : List Int} {i j : Int}
end
end Go.Proofs.YtdkgaejmgnojhaaGreat
namespace Go.Proofs.YtdkgaejmgnojhaaGreat
set_option maxRecDepth 100000
open Go.RowKit
section
variable {P : Program} {n : Nat} {w0 : World} {K : Env} {HS : List PH} {d : Option Tmp} {ty : TypeId} {ps : String} {af : Array Edge} {g : Option (Nat × Bool)}
end
section
variable {m : Int} {ss : List Stp} {C : List Int} {W : Int} {S : List Int} {T : Int} {n : Nat}
end
def IntsB (xs : List Int) (b : Bool) (x : Value) (h : PH) : Prop := ∃ v, x = .tuple [v, .bool b].toArray ∧ IntsO xs v h
end Go.Proofs.YtdkgaejmgnojhaaGreat
namespace Go.Proofs.YtdkgaejmgnojhaaGreat
set_option maxRecDepth 100000
open Go.RowKit
def plainAt (m k : Nat) : Stp := if k = 0 then ⟨0, 1⟩ else ⟨(k : Int) + 1, (m : Int) + k - 1⟩
def plainTo (m j : Nat) : List Stp := (List.range j).map (plainAt m)
def plainL (m : Nat) : List Stp := plainTo m (m - 1)
theorem plain_step (m j : Nat) : plainTo m (j + 1) = plainTo m j ++ [plainAt m j] := by simp [plainTo, List.range_succ]
theorem plain_len (m j : Nat) : (plainTo m j).length = j := by simp [plainTo]
theorem plain_len' (m : Nat) : (plainL m).length = m - 1 := plain_len m _
theorem net_nil {k p n : Int} {ts : List Ten} {op : List Int} (h : netL k p n ts op) : netL k p n ts [] := by
  refine ⟨h.1, h.2.1, h.2.2.1, h.2.2.2.1, ?_⟩; have : axesL [] (dimsFor ts []) := ⟨by decide, rfl, fun j hj => by simp at hj⟩
  exact sizeI_ge.2 ⟨this, by simp [dimsFor, prodI]⟩
theorem net_one {k p n : Int} {ts : List Ten} {op : List Int} (h : netL k p n ts op) (x : Int) : netL k p n ts [x] ↔ dimOf ts x ≠ 0 := by
  constructor
  · intro h1; have := (open_at h1.2.2.2.2 (j := 0) (Nat.zero_lt_one)).2; have e : ([x] : List Int).getD 0 0 = x := rfl; rw [e] at this
    omega
  · intro h1; obtain ⟨t, ht, hx⟩ := dimOf_mem h1; have hax := net_axes h t ht; have hg := findI_get hx; have hd := net_dim h ht hx; have ha := hax.2.2 _ hg.1
    unfold axP at ha
    rw [hg.2] at ha; rw [← hd] at ha; refine ⟨h.1, h.2.1, h.2.2.1, h.2.2.2.1, sizeI_ge.2 ⟨⟨Nat.le_of_ble_eq_true rfl, rfl, fun j hj => ?_⟩, ?_⟩⟩
    · have e : j = 0 := by simp at hj; omega
      subst e; exact ⟨ha.1, ha.2.1, by simp⟩
    · have e : dimsFor ts [x] = [dimOf ts x] := rfl; rw [e, prodI_cons]; have := ha.2.1
      simp [prodI]
      omega
def totP (k p n : Int) (ts : List Ten) (op : List Int) : Prop := netL k p n ts op ∧ conP k p n ts [] (plainL ts.length)
open Classical in
noncomputable def totB (k p n : Int) (ts : List Ten) (op : List Int) : Bool := decide (totP k p n ts op)
noncomputable def totX (k p n : Int) (ts : List Ten) (op : List Int) : List Int := ifB (totB k p n ts op) (conT k p n ts [] (plainL ts.length)).x []
section
variable {k p n : Int} {ts : List Ten} {op : List Int}
theorem totB_true : totB k p n ts op = true ↔ totP k p n ts op := by simp [totB]
theorem totB_false : totB k p n ts op = false ↔ ¬ totP k p n ts op := by simp [totB]
theorem totX_yes (h : totP k p n ts op) : totX k p n ts op = (conT k p n ts [] (plainL ts.length)).x := by rw [totX, totB_true.2 h]; rfl
theorem totX_no (h : ¬ totP k p n ts op) : totX k p n ts op = [] := by rw [totX, totB_false.2 h]; rfl
theorem totP.inR (h : totP k p n ts op) : InR k p n (totX k p n ts op) := by
  obtain ⟨ht, hl⟩ := h.2.ten; rw [totX_yes h]; have hax := ten_axes ht; have hd : (conT k p n ts [] (plainL ts.length)).d = [] := List.eq_nil_of_length_eq_zero (by rw [← hax.2.1, hl]; rfl); have hx := ht.2.2.1; rw [hl, hd] at hx; have hs : sizeI [] [] = 1 := by
    have : axesL [] [] := ⟨by decide, rfl, fun j hj => by simp at hj⟩
    rw [sizeI_yes this (by decide)]; rfl
  rw [hs, Int.one_mul] at hx; exact ⟨by omega, ht.2.2.2⟩
theorem TotNo (h : ¬ totP k p n ts op) : IntsB (totX k p n ts op) (totB k p n ts op) (.tuple [.slice none 0 0, .bool false].toArray) emp :=
  ⟨.slice none 0 0, by rw [totB_false.2 h], by rw [totX_no h]; exact IntsO.nil⟩
theorem TotYes {v : Value} {g : PH} (h : totP k p n ts op) (r : IntsO (conT k p n ts [] (plainL ts.length)).x v g) : IntsB (totX k p n ts op) (totB k p n ts op) (.tuple [v, .bool true].toArray) g :=
  ⟨v, by rw [totB_true.2 h], by rw [totX_yes h]; exact r⟩
end
def marP (k p n : Int) (ts : List Ten) (op : List Int) (x : Int) : Prop := netL k p n ts op ∧ conP k p n ts [x] (plainL ts.length)
open Classical in
noncomputable def marB (k p n : Int) (ts : List Ten) (op : List Int) (x : Int) : Bool := decide (marP k p n ts op x)
noncomputable def marR (k p n : Int) (ts : List Ten) (op : List Int) (x : Int) : Ten := ifB (marB k p n ts op x) (conT k p n ts [x] (plainL ts.length)) noTen
section
variable {k p n x : Int} {ts : List Ten} {op : List Int}
theorem marB_true : marB k p n ts op x = true ↔ marP k p n ts op x := by simp [marB]
theorem marB_false : marB k p n ts op x = false ↔ ¬ marP k p n ts op x := by simp [marB]
theorem MarNo (h : ¬ marP k p n ts op x) : TenB (marR k p n ts op x) (marB k p n ts op x) (.tuple [tenV (.slice none 0 0) (.slice none 0 0) (.slice none 0 0), .bool false].toArray) emp :=
  ⟨.slice none 0 0, .slice none 0 0, .slice none 0 0, by rw [marB_false.2 h], by rw [marR, marB_false.2 h]; exact triO_none⟩
/-- What the contraction with this one label open says. -/
theorem mar_con (h : netL k p n ts op) : marR k p n ts op x = conR k p n ts [x] (plainL ts.length) ∧ marB k p n ts op x = conB k p n ts [x] (plainL ts.length) := by
  by_cases hc : conP k p n ts [x] (plainL ts.length)
  · have hm : marP k p n ts op x := ⟨h, hc⟩
    exact ⟨by rw [marR, marB_true.2 hm, conR, if_pos hc]; rfl, by rw [marB_true.2 hm, conB_true.2 hc]⟩
  · have hm : ¬ marP k p n ts op x := fun e => hc e.2; exact ⟨by rw [marR, marB_false.2 hm, conR, if_neg hc]; rfl, by rw [marB_false.2 hm, conB_false.2 hc]⟩
end
end Go.Proofs.YtdkgaejmgnojhaaGreat
namespace Go.Proofs.YtdkgaejmgnojhaaGreat
set_option maxRecDepth 100000
open Go.RowKit
set_option maxHeartbeats 1000000 in
theorem ct_i_allIn (xs ys : List Int) (v u : Value) (w : World) (r : IntsR xs v (hp w)) (r' : IntsR ys u (hp w)) : Calls Tryz.prog 91 [v, u].toArray w (RetV w (.bool (decide (∀ x ∈ xs, x ∈ ys)))) := by
  refine calls_in Tryz.func91 rfl Tryz.ntmps91 rfl (Sat.start w) ?_; have hle0 := r.le; have hle1 := r'.le; refine wp_sc (wp_sq (sq_v rfl (v_assign rfl) rfl (sq_end (qs_n (wp_sc (wp_sc (wp_sq (sq_v rfl (v_move rfl) rfl (sq_v rfl (v_len Tryz.underlying26 rfl r.sl) rfl (sq_v rfl (v_move rfl) rfl (sq_end (qs_n (wp_bl ?_))))))))))))); refine wp_lp (σ := Nat) (fun z_ => [(1, u), (4, .bool false), (7, v), (8, num xs.length), (9, num z_)]) (fun z_ => [hp w]) (fun z_ => z_ ≤ xs.length ∧ (∀ j, j < z_ → xs.getD j 0 ∈ ys)) (fun z_ => xs.length - z_) 0 (⟨by omega, fun j hj => by omega⟩) ⟨rfl, rfl, rfl, rfl, (by first | rfl | exact ksub rfl (by first | omega | (simp; done) | (simp; omega))), trivial⟩ (fun _ s => s) ?_; rintro i ⟨hi, ha⟩; refine wp_sc (wp_sq (sq_v rfl (v_lss rfl rfl) rfl (sq_end (qs_n (wp_sc ?_))))); refine wp_cd rfl (fun c10 => ?_) (fun c10 => ?_)
  · refine wp_sk (qs_n (wp_sc (wp_bl (wp_sc (wp_sq ?_))))); refine sq_v rfl (v_idxI Tryz.underlying26 ty_3 rfl rfl r (by first | omega | (simp; omega) | (simp only [List.length_append, List.length_cons, List.length_nil]; omega) | (rw [List.length_set]; omega)) (by first | omega | (simp; omega) | (simp only [List.length_append, List.length_cons, List.length_nil]; omega) | (rw [List.length_set]; omega))) rfl ?_; refine sq_v rfl (v_loadI (k := i) 0 ty_3 rfl rfl r (by first | omega | (simp; omega) | (simp only [List.length_append, List.length_cons, List.length_nil]; omega) | (rw [List.length_set]; omega))) rfl ?_; refine sq_v rfl (v_assign rfl) rfl (sq_end (qs_n (wp_sc (wp_sq (sq_v rfl (v_move rfl) rfl (sq_v rfl (v_move rfl) rfl (sq_u rfl (x_callv rfl en_23 (fun w s => ct_i_hasInt _ _ _ w (r'.mono (s.get 0 rfl)))) rfl (sq_v rfl (v_not rfl) rfl (sq_end (qs_n ?_)))))))))); refine wp_cnd rfl (fun c16 => ?_) (fun c16 => ?_)
    · refine wp_sc (wp_sq (sq_v rfl (v_assign rfl) rfl (sq_end (qs_n (wp_rt (qs_br (qs_r (qs_r (qs_br (qs_r ?_)))))))))); exact qs_ret1 rfl rfl (fin_q (i := 0) rfl (by rw [decide_eq_false]; exact fun h => absurd (h _ (mem_getD (k := i) (by omega))) (by simpa using c16)))
    · refine wp_sk (qs_bn (qs_n (wp_sq ?_))); refine sq_v rfl (v_add rfl rfl ((by unfold I64; omega))) rfl ?_; refine sq_v rfl (v_move rfl) rfl (sq_end ?_); exact qs_bk (i + 1) ⟨by omega, step_all ha (by simpa using c16)⟩ (by omega) ⟨rfl, rfl, rfl, rfl, (by first | rfl | exact ksub rfl (by first | omega | (simp; done) | (simp; omega))), trivial⟩ (fun _ s => s)
  · refine wp_ex (qs_x (qs_x (qs_bx (qs_n (wp_sc (wp_sq (sq_v rfl (v_assign rfl) rfl (sq_end (qs_n (wp_rt ?_)))))))))); exact qs_ret1 rfl rfl (fin_q (i := 0) rfl (by rw [decide_eq_true]; exact all_of fun j hj => ha j (by omega)))
theorem PermNo {k n : Int} {t : Ten} {ls : List Int} {q : Bool} (h : q = false) : TenB (ifB q (permT k n t ls) noTen) q (.tuple [tenV (.slice none 0 0) (.slice none 0 0) (.slice none 0 0), .bool false].toArray) emp :=
  ⟨.slice none 0 0, .slice none 0 0, .slice none 0 0, by rw [h], by rw [h]; exact triO_none⟩
def perP (k p n : Int) (t : Ten) (ls : List Int) : Prop := tensorL k p n t.l t.d t.x ∧ setL t.l ls
open Classical in
noncomputable def perB (k p n : Int) (t : Ten) (ls : List Int) : Bool := decide (perP k p n t ls)
theorem perB_true {k p n : Int} {t : Ten} {ls : List Int} : perB k p n t ls = true ↔ perP k p n t ls := by simp [perB]
theorem perB_no {k p n : Int} {t : Ten} {ls : List Int} (h : ¬ perP k p n t ls) : perB k p n t ls = false := by simp [perB, h]
theorem ct_i_PermuteTensor (k p n : Int) (t : Ten) (ls : List Int) (a b c v : Value) (w : World) (r1 : IntsR t.l a (hp w)) (r2 : IntsR t.d b (hp w)) (r3 : IntsR t.x c (hp w)) (rl : IntsR ls v (hp w)) :
    Calls Tryz.prog 92 [ringV k p n, tenV a b c, v].toArray w (Ret w emp (TenB (ifB (perB k p n t ls) (permT k n t ls) noTen) (perB k p n t ls))) := by
  refine calls_in Tryz.func92 rfl Tryz.ntmps92 rfl (Sat.start w) ?_; have hle0 := r1.le; have hle1 := r2.le; have hle2 := r3.le; have hle3 := rl.le; refine wp_sc (wp_sq ?_); refine sq_x rfl (x_box rfl rfl) rfl ?_; rintro _ _ ⟨b3, rfl, rfl⟩; refine sq_x rfl (x_box rfl rfl) rfl ?_; rintro _ _ ⟨b4, rfl, rfl⟩; refine sq_x rfl (x_alloc ty_40 rfl) rfl ?_; rintro _ _ ⟨b6, rfl, rfl⟩; refine sq_v rfl (v_assign rfl) rfl (sq_end (qs_n (wp_sc (wp_sc (wp_sq (sq_v rfl (v_loadNB 2 ty_24 rfl rfl rfl rfl) rfl (sq_v rfl (v_loadNB 1 ty_40 rfl rfl rfl rfl) rfl (sq_u rfl (x_callv rfl en_34 (fun w s => ct_i_TensorOk _ _ _ _ _ _ _ _ _ w (r1.mono (s.get 3 rfl)) (r2.mono (s.get 3 rfl)) (r3.mono (s.get 3 rfl)))) rfl ?_)))))))); refine sq_bb 10 rfl (fun c10 => ?_) (fun c10 => ?_)
  · refine sq_v rfl (v_not rfl) rfl (sq_v rfl (v_move rfl) rfl (sq_v rfl (v_fieldAddr fd_40_0 ty_26 (by decide) rfl) rfl (sq_v rfl (v_loadB 1 ty_26 rfl rfl rfl) rfl (sq_v rfl (v_move rfl) rfl (sq_u rfl (x_callv rfl en_106 (fun w s => ct_i_sameLabels _ _ _ _ w (r1.mono (s.get 3 rfl)) (rl.mono (s.get 3 rfl)))) rfl (sq_v rfl (v_not rfl) rfl (sq_v rfl (v_pickf rfl rfl) rfl (sq_end (qs_n ?_))))))))); refine wp_cn _ rfl (fun c18 => ?_) (fun c18 => ?_)
    · refine wp_sc (wp_sq (sq_v rfl (v_build [.slice none 0 0, .slice none 0 0, .slice none 0 0] rfl (by kernel_rfl)) rfl ?_)); refine sq_m 0 rfl rfl (m_store 0 ty_40 rfl rfl rfl rfl (by simp [one_sl]) rfl (Nat.le_of_ble_eq_true rfl)) rfl ?_; rintro _ _ ⟨rfl, rfl⟩; refine sq_v rfl (v_assign rfl) rfl (sq_end (qs_n (wp_rt (qs_r ?_)))); exact qs_retct 0 rfl ty_40 rfl rfl rfl rfl (fin_e (i := 3) rfl (PermNo (perB_no (fun h => by first | exact tensorB_false.1 c10 h.1 | exact setB_false.1 c18 h.2))))
    · refine wp_sk (qs_n (wp_sc (wp_sq (sq_v rfl (v_loadNB 2 ty_24 rfl rfl rfl rfl) rfl (sq_v rfl (v_loadNB 1 ty_40 rfl rfl rfl rfl) rfl (sq_v rfl (v_move rfl) rfl ?_)))))); have h1 := tensorB_true.1 c10; have h2 := setB_true.1 c18; have hok : PermOK k p n t ls := ⟨h1.1, h1, setL_perm h2⟩
      refine sq_x rfl (x_call rfl en_107 (fun w s => ct_i_rawPermute _ _ _ _ _ _ _ _ _ w (r1.mono (s.get 3 rfl)) (r2.mono (s.get 3 rfl)) (r3.mono (s.get 3 rfl)) (rl.mono (s.get 3 rfl)) (by first | assumption | omega))) rfl ?_; rintro _ h23 ⟨va23, vb23, vc23, rfl, o23⟩; refine sq_m 1 rfl rfl (m_store 1 ty_40 rfl rfl rfl rfl (by simp [o23.toR.1.sl.one, o23.toR.2.1.sl.one, o23.toR.2.2.sl.one]) rfl (Nat.le_of_ble_eq_true rfl)) rfl ?_; rintro _ _ ⟨rfl, rfl⟩; refine sq_v rfl (v_assign rfl) rfl (sq_end (qs_n (wp_rt ?_))); exact qs_retct 1 rfl ty_40 rfl rfl rfl rfl (fin_t 0 (i := 4) rfl rfl rfl (by rw [perB_true.2 ⟨h1, h2⟩]; exact ⟨_, _, _, rfl, o23⟩))
  · refine sq_v rfl (v_not rfl) rfl (sq_v rfl (v_move rfl) rfl (sq_s rfl rfl (sq_s rfl rfl (sq_s rfl rfl (sq_s rfl rfl (sq_s rfl rfl (sq_v rfl (v_pickt rfl rfl) rfl (sq_end (qs_n (wp_ct rfl (wp_sc (wp_sq (sq_v rfl (v_build [.slice none 0 0, .slice none 0 0, .slice none 0 0] rfl (by kernel_rfl)) rfl ?_))))))))))))); refine sq_m 0 rfl rfl (m_store 0 ty_40 rfl rfl rfl rfl (by simp [one_sl]) rfl (Nat.le_of_ble_eq_true rfl)) rfl ?_; rintro _ _ ⟨rfl, rfl⟩; refine sq_v rfl (v_assign rfl) rfl (sq_end (qs_n (wp_rt (qs_r ?_)))); exact qs_retct 0 rfl ty_40 rfl rfl rfl rfl (fin_e (i := 3) rfl (PermNo (perB_no (fun h => by first | exact tensorB_false.1 c10 h.1 | exact setB_false.1 c18 h.2))))
set_option maxHeartbeats 1000000 in
theorem ct_i_FinishTensor (k p n : Int) (ts : List Ten) (op : List Int) (t : Ten) (vt vo a b c : Value) (w : World) (r : TensR ts vt (hp w)) (r' : IntsR op vo (hp w)) (r1 : IntsR t.l a (hp w)) (r2 : IntsR t.d b (hp w)) (r3 : IntsR t.x c (hp w)) (hs : op.length ≤ 1048576) :
    Calls Tryz.prog 55 [netV k p n vt vo, tenV a b c].toArray w (Ret w emp (TenB (finR k p n ts op t) (finB k p n ts op t))) := by
  refine calls_in Tryz.func55 rfl Tryz.ntmps55 rfl (Sat.start w) ?_; have hle0 := r.le; obtain ⟨cs_r, rr_r, hc_r⟩ := r.at; have hle1 := r'.le; have hle2 := r1.le; have hle3 := r2.le; have hle4 := r3.le; refine wp_sc (wp_sq ?_); refine sq_x rfl (x_box rfl rfl) rfl ?_; rintro _ _ ⟨b2, rfl, rfl⟩; refine sq_x rfl (x_box rfl rfl) rfl ?_; rintro _ _ ⟨b3, rfl, rfl⟩; refine sq_x rfl (x_alloc ty_40 rfl) rfl ?_; rintro _ _ ⟨b4, rfl, rfl⟩; refine sq_v rfl (v_assign rfl) rfl (sq_end (qs_n (wp_sc (wp_sc (wp_sq (sq_v rfl (v_loadNB 2 ty_28 rfl rfl rfl rfl) rfl (sq_u rfl (x_callv rfl en_26 (fun w s => ct_i_NetworkOk _ _ _ _ _ _ _ w (r.mono (s.get 3 rfl)) (r'.mono (s.get 3 rfl)) (by first | assumption | omega))) rfl ?_))))))); refine sq_bb 7 rfl (fun c7 => ?_) (fun c7 => ?_)
  · refine sq_v rfl (v_not rfl) rfl (sq_v rfl (v_move rfl) rfl (sq_v rfl (v_fieldAddr fd_28_0 ty_24 (by decide) rfl) rfl (sq_v rfl (v_loadNB 2 ty_24 rfl rfl rfl rfl) rfl (sq_v rfl (v_loadNB 1 ty_40 rfl rfl rfl rfl) rfl (sq_u rfl (x_callv rfl en_34 (fun w s => ct_i_TensorOk _ _ _ _ _ _ _ _ _ w (r1.mono (s.get 3 rfl)) (r2.mono (s.get 3 rfl)) (r3.mono (s.get 3 rfl)))) rfl (sq_v rfl (v_not rfl) rfl (sq_v rfl (v_pickf rfl rfl) rfl ?_))))))); refine sq_bn 15 rfl (fun c15 => ?_) (fun c15 => ?_)
    · refine sq_v rfl (v_move rfl) rfl (sq_s rfl rfl (sq_s rfl rfl (sq_s rfl rfl (sq_s rfl rfl (sq_s rfl rfl (sq_s rfl rfl (sq_v rfl (v_pickt rfl rfl) rfl (sq_end (qs_n (wp_ct rfl (wp_sc (wp_sq (sq_v rfl (v_build [.slice none 0 0, .slice none 0 0, .slice none 0 0] rfl (by kernel_rfl)) rfl ?_))))))))))))); refine sq_m 0 rfl rfl (m_store 0 ty_40 rfl rfl rfl rfl (by simp [one_sl]) rfl (Nat.le_of_ble_eq_true rfl)) rfl ?_; rintro _ _ ⟨rfl, rfl⟩; refine sq_v rfl (v_assign rfl) rfl (sq_end (qs_n (wp_rt (qs_r ?_)))); exact qs_retct 0 rfl ty_40 rfl rfl rfl rfl (fin_e (i := 3) rfl (FinNo (fun h => by first | exact netB_false.1 c7 h.1 | exact tensorB_false.1 c15 h.2.1 | exact absurd h.2.2 (by simpa using c23))))
    · refine sq_v rfl (v_move rfl) rfl (sq_v rfl (v_fieldAddr fd_28_2 ty_26 (by decide) rfl) rfl (sq_v rfl (v_loadB 2 ty_26 rfl rfl rfl) rfl (sq_v rfl (v_fieldAddr fd_40_0 ty_26 (by decide) rfl) rfl (sq_v rfl (v_loadB 1 ty_26 rfl rfl rfl) rfl (sq_u rfl (x_callv rfl en_91 (fun w s => ct_i_allIn _ _ _ _ w (r'.mono (s.get 3 rfl)) (r1.mono (s.get 3 rfl)))) rfl (sq_v rfl (v_not rfl) rfl (sq_v rfl (v_pickf rfl rfl) rfl (sq_end (qs_n ?_))))))))); refine wp_cnd rfl (fun c23 => ?_) (fun c23 => ?_)
      · refine wp_sc (wp_sq (sq_v rfl (v_build [.slice none 0 0, .slice none 0 0, .slice none 0 0] rfl (by kernel_rfl)) rfl ?_)); refine sq_m 0 rfl rfl (m_store 0 ty_40 rfl rfl rfl rfl (by simp [one_sl]) rfl (Nat.le_of_ble_eq_true rfl)) rfl ?_; rintro _ _ ⟨rfl, rfl⟩; refine sq_v rfl (v_assign rfl) rfl (sq_end (qs_n (wp_rt (qs_r ?_)))); exact qs_retct 0 rfl ty_40 rfl rfl rfl rfl (fin_e (i := 3) rfl (FinNo (fun h => by first | exact netB_false.1 c7 h.1 | exact tensorB_false.1 c15 h.2.1 | exact absurd h.2.2 (by simpa using c23))))
      · refine wp_sk (qs_n (wp_sc (wp_rj 13 [(0, true), (1, true), (2, true), (3, true), (4, true), (5, true), (6, true), (8, true), (9, true), (7, false), (10, false), (11, true), (12, true), (13, false), (14, false)] mixed_ok (by kernel_rfl) ?_))); have hnet := netB_true.1 c7; have hten := tensorB_true.1 c15; have hall : ∀ x ∈ op, x ∈ t.l := (by simpa using c23); have hfp : finP k p n ts op t := ⟨hnet, hten, hall⟩; have hpm := hfp.perm; have hB := perB_true.2 (show perP k p n (sumR k p n t op) op from ⟨hpm.ten, setL_of_perm hpm.perm.symm (net_open hnet).1⟩); refine rj_v rfl rfl (v_fieldAddr fd_28_0 ty_24 (by decide) rfl) rfl (rj_v rfl rfl (v_loadNB 2 ty_24 rfl rfl rfl rfl) rfl (rj_v rfl rfl (v_fieldAddr fd_28_0 ty_24 (by decide) rfl) rfl (rj_v rfl rfl (v_loadNB 2 ty_24 rfl rfl rfl rfl) rfl (rj_v rfl rfl (v_loadNB 1 ty_40 rfl rfl rfl rfl) rfl (rj_v rfl rfl (v_fieldAddr fd_28_2 ty_26 (by decide) rfl) rfl (rj_v rfl rfl (v_loadB 2 ty_26 rfl rfl rfl) rfl (rj_v rfl rfl (v_fieldAddr fd_28_2 ty_26 (by decide) rfl) rfl (rj_v rfl rfl (v_loadB 2 ty_26 rfl rfl rfl) rfl ?_)))))))); refine rj_x rfl rfl (x_call rfl en_14 (fun w s => ct_i_SumLabels _ _ _ _ _ _ _ _ _ w (r1.mono (s.get 3 rfl)) (r2.mono (s.get 3 rfl)) (r3.mono (s.get 3 rfl)) (r'.mono (s.get 3 rfl)))) rfl ?_; rintro _ h32 ⟨va32, vb32, vc32, rfl, o32⟩; refine rj_x rfl rfl (x_call rfl en_92 (fun w s => ct_i_PermuteTensor _ _ _ _ _ _ _ _ _ w (o32.toR.1.mono (s.get 0 rfl)) (o32.toR.2.1.mono (s.get 0 rfl)) (o32.toR.2.2.mono (s.get 0 rfl)) (r'.mono (s.get 4 rfl)))) rfl ?_; rintro _ h35 ⟨va35, vb35, vc35, rfl, o35⟩; refine rj_v rfl rfl (v_extract rfl rfl) rfl (rj_v rfl rfl (v_extract rfl rfl) rfl ?_); refine rj_m 2 rfl rfl rfl rfl (m_store 2 ty_40 rfl rfl rfl rfl (by simp [o35.toR.1.sl.one, o35.toR.2.1.sl.one, o35.toR.2.2.sl.one]) rfl (Nat.le_of_ble_eq_true rfl)) rfl ?_; rintro _ _ ⟨rfl, rfl⟩; refine rj_fv rfl rfl (v_assign rfl) rfl (rj_end ?_); rw [hB] at o35; refine qs_n (wp_rt ?_); exact qs_retct 2 rfl ty_40 rfl rfl rfl rfl (fin_t 0 (i := 5) rfl rfl rfl (by rw [hB]; exact FinYes hfp o35))
  · refine sq_v rfl (v_not rfl) rfl (sq_v rfl (v_move rfl) rfl (sq_s rfl rfl (sq_s rfl rfl (sq_s rfl rfl (sq_s rfl rfl (sq_s rfl rfl (sq_v rfl (v_pickt rfl rfl) rfl (sq_v rfl (v_move rfl) rfl (sq_s rfl rfl ?_))))))))); refine sq_s rfl rfl (sq_s rfl rfl (sq_s rfl rfl (sq_s rfl rfl (sq_s rfl rfl (sq_v rfl (v_pickt rfl rfl) rfl (sq_end (qs_n (wp_ct rfl (wp_sc (wp_sq (sq_v rfl (v_build [.slice none 0 0, .slice none 0 0, .slice none 0 0] rfl (by kernel_rfl)) rfl ?_))))))))))); refine sq_m 0 rfl rfl (m_store 0 ty_40 rfl rfl rfl rfl (by simp [one_sl]) rfl (Nat.le_of_ble_eq_true rfl)) rfl ?_; rintro _ _ ⟨rfl, rfl⟩; refine sq_v rfl (v_assign rfl) rfl (sq_end (qs_n (wp_rt (qs_r ?_)))); exact qs_retct 0 rfl ty_40 rfl rfl rfl rfl (fin_e (i := 3) rfl (FinNo (fun h => by first | exact netB_false.1 c7 h.1 | exact tensorB_false.1 c15 h.2.1 | exact absurd h.2.2 (by simpa using c23))))
end Go.Proofs.YtdkgaejmgnojhaaGreat
namespace Go.Proofs.YtdkgaejmgnojhaaGreat
set_option maxRecDepth 100000
open Go.RowKit
theorem OwnH.at {ts : List Ten} {cs : List Value} {h : PH} (o : OwnH (flat ts) cs h) (i : Nat) (hi : i < ts.length) : ∃ t a b c, ts[i]? = some t ∧ (cs.drop (i * 3)).take 3 = [a, b, c] ∧ IntsR t.l a h ∧ IntsR t.d b h ∧ IntsR t.x c h := by
  obtain ⟨l, ol, m⟩ := o; have ht : ts[i]? = some ts[i] := List.getElem?_eq_getElem hi; obtain ⟨f1, f2, f3⟩ := tens_get ht; obtain ⟨a, h1, e1, g1, r1⟩ := ol.own _ _ f1; obtain ⟨b, h2, e2, g2, r2⟩ := ol.own _ _ f2; obtain ⟨c, h3, e3, g3, r3⟩ := ol.own _ _ f3; exact ⟨_, a, b, c, ht, three_at e1 e2 e3, r1.toR.mono (m.le _ (List.mem_of_getElem? g1)), r2.toR.mono (m.le _ (List.mem_of_getElem? g2)), r3.toR.mono (m.le _ (List.mem_of_getElem? g3))⟩
theorem stp_take {ss : List Stp} {i m : Nat} {x : Stp} (h : (ss.take m)[i]? = some x) : ss[i]? = some x ∧ i < m ∧ i < ss.length := by
  have h1 := (List.getElem?_eq_some_iff.1 h).1; simp only [List.length_take] at h1; rw [List.getElem?_take, if_pos (by omega)] at h; exact ⟨h, by omega, by omega⟩
set_option maxHeartbeats 4000000 in
theorem ct_i_PartialNetwork (k p n m : Int) (ts : List Ten) (op : List Int) (ss : List Stp) (vt vo v : Value) (w : World) (r : TensR ts vt (hp w)) (r' : IntsR op vo (hp w)) (rv : StepsR ss v (hp w)) (hs : op.length ≤ 1048576) :
    Calls Tryz.prog 54 [netV k p n vt vo, v, num m].toArray w (Ret w emp (PartR k p n ts op ss m)) := by
  refine calls_in Tryz.func54 rfl Tryz.ntmps54 rfl (Sat.start w) ?_; have hle0 := r.le; obtain ⟨cs_r, rr_r, hc_r⟩ := r.at; have hle1 := r'.le; have hle2 := rv.le; obtain ⟨cs_rv, rr_rv, hc_rv⟩ := rv.at; refine wp_sc (wp_sq ?_); refine sq_x rfl (x_box rfl rfl) rfl ?_; rintro _ _ ⟨b3, rfl, rfl⟩; refine sq_x rfl (x_alloc ty_28 rfl) rfl ?_; rintro _ _ ⟨b6, rfl, rfl⟩; refine sq_v rfl (v_assign rfl) rfl (sq_end (qs_n (wp_sc (wp_sc (wp_sq (sq_v rfl (v_loadNB 1 ty_28 rfl rfl rfl rfl) rfl (sq_v rfl (v_move rfl) rfl (sq_u rfl (x_callv rfl en_86 (fun w s => ct_i_OrderOk _ _ _ _ _ _ _ _ _ w (r.mono (s.get 2 rfl)) (r'.mono (s.get 2 rfl)) (rv.mono (s.get 2 rfl)) (by first | assumption | omega))) rfl ?_)))))))); refine sq_bb 21 rfl (fun c21 => ?_) (fun c21 => ?_)
  · refine sq_v rfl (v_not rfl) rfl (sq_v rfl (v_move rfl) rfl (sq_v rfl (v_move rfl) rfl (sq_v rfl (v_lss rfl rfl) rfl (sq_v rfl (v_pickf rfl rfl) rfl ?_)))); refine sq_bd 26 rfl (fun c26 => ?_) (fun c26 => ?_)
    · refine sq_v rfl (v_move rfl) rfl (sq_s rfl rfl (sq_s rfl rfl (sq_s rfl rfl (sq_s rfl rfl (sq_v rfl (v_pickt rfl rfl) rfl (sq_end (qs_n (wp_ct rfl (wp_sc (wp_sq (sq_v rfl (v_build [num 0, num 0, num 0, .slice none 0 0, .slice none 0 0] rfl (by kernel_rfl)) rfl ?_))))))))))); refine sq_m 0 rfl rfl (m_store 0 ty_28 rfl rfl rfl rfl (by simp [one_int, one_sl]) rfl (Nat.le_of_ble_eq_true rfl)) rfl ?_; rintro _ _ ⟨rfl, rfl⟩; refine sq_v rfl (v_assign rfl) rfl (sq_end (qs_n (wp_rt (qs_r ?_)))); exact qs_retct 0 rfl ty_28 rfl rfl rfl rfl (fin_e (i := 2) rfl (PartNo (fun h => by first | exact orderB_false.1 c21 h.1 | (have := h.2.1; omega))))
    · refine sq_v rfl (v_move rfl) rfl (sq_v rfl (v_move rfl) rfl (sq_v rfl (v_move rfl) rfl (sq_v rfl (v_len Tryz.underlying65 rfl rv.sl) rfl (sq_v rfl (v_gtr rfl rfl) rfl (sq_v rfl (v_pickf rfl rfl) rfl (sq_end (qs_n ?_))))))); refine wp_cd rfl (fun c32 => ?_) (fun c32 => ?_)
      · refine wp_sc (wp_sq (sq_v rfl (v_build [num 0, num 0, num 0, .slice none 0 0, .slice none 0 0] rfl (by kernel_rfl)) rfl ?_)); refine sq_m 0 rfl rfl (m_store 0 ty_28 rfl rfl rfl rfl (by simp [one_int, one_sl]) rfl (Nat.le_of_ble_eq_true rfl)) rfl ?_; rintro _ _ ⟨rfl, rfl⟩; refine sq_v rfl (v_assign rfl) rfl (sq_end (qs_n (wp_rt (qs_r ?_)))); exact qs_retct 0 rfl ty_28 rfl rfl rfl rfl (fin_e (i := 2) rfl (PartNo (fun h => by first | exact orderB_false.1 c21 h.1 | (have := h.2.1; omega))))
      · refine wp_sk (qs_n (wp_sc (wp_sq (sq_v rfl (v_loadNB 1 ty_28 rfl rfl rfl rfl) rfl ?_)))); have hord := orderB_true.1 c21; have hnet := hord.1; have hax := net_axes hnet; have h12 := hnet.2.1; refine sq_x rfl (x_call rfl en_87 (fun w s => ct_i_startState _ _ _ _ _ _ _ w (r.mono (s.get 2 rfl)) (r'.mono (s.get 2 rfl)) hax h12)) rfl ?_; rintro _ h35 ⟨bb, arr, rfl, rst, _⟩; refine sq_v rfl (v_assign rfl) rfl (sq_end (qs_n (wp_sc (wp_sq (sq_v rfl (v_loadNB 2 ty_28 rfl rfl rfl rfl) rfl ?_))))); refine sq_x rfl (x_call rfl en_31 (fun w s => ct_i_copyNetwork _ _ _ _ _ _ _ w (r.mono (s.get 3 rfl)) (r'.mono (s.get 3 rfl)) (by first | assumption | omega) (by first | assumption | omega))) rfl ?_; rintro _ h37 ⟨vt37, vo37, rfl, o37⟩; obtain ⟨cs_T_37, rr_T_37, hc_T_37⟩ := o37.toR.1.at; refine sq_x rfl (x_alloc ty_28 rfl) rfl ?_; rintro _ _ ⟨b9, rfl, rfl⟩; refine sq_m 0 rfl rfl (m_store 0 ty_28 rfl rfl rfl rfl (by simp [one_int, o37.toR.1.sl.one, o37.toR.2.sl.one]) rfl (Nat.le_of_ble_eq_true rfl)) rfl ?_; rintro _ _ ⟨rfl, rfl⟩; refine sq_end ?_; obtain ⟨cs0, g0, go, gl, rr0, ro, oh, md37⟩ := o37.split; have hst0 := few_steps hax hord.2.2; refine qs_s [box b9 [num k, num p, num n, vt37, vo37] 28, h35, box b6 [num 0, num 0, num 0, .slice none 0 0, .slice none 0 0] 28, box b3 [num k, num p, num n, vt, vo] 28, hp w, g0, go, gl] (fun _ s => Sat.open (A := [box b9 [num k, num p, num n, vt37, vo37] 28, h35, box b6 [num 0, num 0, num 0, .slice none 0 0, .slice none 0 0] 28, box b3 [num k, num p, num n, vt, vo] 28, hp w]) md37 (s.pick [1, 0, 2, 3, 4, 5] (by decide) rfl)) (qs_n (wp_sc (wp_sc (wp_sq (sq_v rfl (v_move rfl) rfl (sq_v rfl (v_move rfl) rfl (sq_v rfl (v_sliceH Tryz.underlying65 ty_92 rfl rfl  rv (by omega) (by omega)) rfl ?_))))))); obtain ⟨cs_S_40, rr_S_40, hc_S_40⟩ := (rv.subH (hi := (m : Int).toNat) (by omega)).at; refine sq_v rfl (v_len Tryz.underlying65 rfl (rv.subH (hi := (m : Int).toNat) (by omega)).sl) rfl (sq_v rfl (v_move rfl) rfl (sq_end (qs_n (wp_bl ?_)))); refine wp_lp (σ := Nat × Value × PH × (List Value) × PH × PH) (fun z_ => [(3, .pointer (some ⟨b3, 0, none⟩)), (6, .pointer (some ⟨b6, 0, none⟩)), (7, .bool false), (8, ptrV bb), (9, .pointer (some ⟨b9, 0, none⟩)), (28, num m), (40, subV v 0 ((m : Int).toNat) 2), (41, num (ss.take ((m : Int).toNat)).length), (42, num z_.1)]) (fun z_ => [box b9 [num k, num p, num n, z_.2.1, vo37] 28, z_.2.2.2.2.2, box b6 [num 0, num 0, num 0, .slice none 0 0, .slice none 0 0] 28, box b3 [num k, num p, num n, vt, vo] 28, hp w, z_.2.2.1, go, z_.2.2.2.2.1]) (fun z_ => z_.1 ≤ (ss.take (m : Int).toNat).length ∧ (∀ j, j < z_.1 → runFit k p n ts op ss j) ∧ StO arr vo (runS ts op ss z_.1) bb z_.2.2.2.2.2 ∧ OwnH (flat (outTo k p n ts op ss z_.1)) z_.2.2.2.1 z_.2.2.2.2.1 ∧ RowO (40) z_.2.2.2.1 (outTo k p n ts op ss z_.1).length 3 z_.2.1 z_.2.2.1) (fun z_ => (ss.take (m : Int).toNat).length - z_.1) (0, vt37, g0, cs0, gl, h35) (⟨by (try dsimp only); omega, fun j hj => by omega, rst, by (try dsimp only); rw [out_zero]; exact oh, by (try dsimp only); rw [out_zero]; exact rr0⟩) ⟨rfl, rfl, rfl, rfl, rfl, rfl, rfl, rfl, (by first | rfl | exact ksub rfl (by first | omega | (simp; done) | (simp; omega))), trivial⟩ (fun _ s => s) ?_; rintro ⟨i, lx, ha, cs, hl, g⟩ ⟨hi, hfit, rst, hlv, rr⟩; dsimp only at hi hfit rst hlv rr ⊢; have hil : i ≤ ss.length ∧ i ≤ (m : Int).toNat := by rw [List.length_take] at hi; omega
        have hRO := run_ok hord i hil.1 hfit; have hfs := run_fine (ss := ss) hnet i; have hall := run_all (ts := ts) (op := op) (ss := ss) hil.1; have hol := out_len (k := k) (p := p) (n := n) (ts := ts) (op := op) (ss := ss) i; obtain ⟨lv0, rst'⟩ := rst.toR; refine wp_sc (wp_sq (sq_v rfl (v_lss rfl rfl) rfl (sq_end (qs_n (wp_sc ?_))))); refine wp_cd rfl (fun c43 => ?_) (fun c43 => ?_)
        · refine wp_sk (qs_n (wp_sc (wp_bl (wp_sc (wp_sq ?_))))); obtain ⟨x44, hx44, hcs44⟩ := hc_S_40 (i) (by first | omega | (rw [List.length_set]; omega)); refine sq_v rfl (v_indexAddr Tryz.underlying65 ty_92 rfl rfl rr_S_40 (by decide) (by omega) (by first | omega | (rw [List.length_set]; omega))) rfl ?_; refine sq_v rfl (v_loadNE 4 ty_92 rfl rfl rr_S_40 (by have := rr_S_40.1; omega) rfl hcs44) rfl ?_; refine sq_x rfl (x_alloc ty_92 rfl) rfl ?_; rintro _ _ ⟨b11, rfl, rfl⟩; refine sq_m 0 rfl rfl (m_store 0 ty_92 rfl rfl rfl rfl (by simp [Value.oneCell']) rfl (Nat.le_of_ble_eq_true rfl)) rfl ?_; rintro _ _ ⟨rfl, rfl⟩; refine sq_end ?_; obtain ⟨hx, him, hiss⟩ := stp_take hx44; obtain ⟨hst, hs1, _⟩ := run_step hord hiss; have htwo := hRO.two hord hiss; rw [stpAt_of hx] at hst hs1; have p0 := place_ge.2 hst.1; have q0 := place_ge.2 hst.2.1; obtain ⟨hpa, hpl⟩ := place_at hst.1; obtain ⟨hqb, hql⟩ := place_at hst.2.1; have hosn := out_step hord hiss hRO (by rw [stpAt_of hx]; exact hpa) (by rw [stpAt_of hx]; exact hqb); have hfa := hfs.few x44.a.toNat; have hfb := hfs.few x44.b.toNat; refine qs_n (wp_sc (wp_rj 10 [(0, true), (1, true), (2, true), (4, true), (5, true), (6, true), (3, false), (7, false), (8, true), (9, true)] mixed_ok (by kernel_rfl) (rj_v rfl rfl (v_move rfl) rfl (rj_v rfl rfl (v_fieldAddr fd_92_0 ty_3 (by decide) rfl) rfl (rj_v rfl rfl (v_loadB 0 ty_3 rfl rfl rfl) rfl (rj_v rfl rfl (v_move rfl) rfl (rj_v rfl rfl (v_fieldAddr fd_92_1 ty_3 (by decide) rfl) rfl (rj_v rfl rfl (v_loadB 0 ty_3 rfl rfl rfl) rfl (rj_u rfl rfl (x_callv rfl en_88 (fun w s => ct_i_place _ _ _ (runS ts op ss i) _ _ w (rst'.mono (s.get 2 rfl)))) rfl (rj_u rfl rfl (x_callv rfl en_88 (fun w s => ct_i_place _ _ _ (runS ts op ss i) _ _ w (rst'.mono (s.get 2 rfl)))) rfl (rj_v rfl rfl (v_assign rfl) rfl ?_))))))))))); refine rj_v rfl rfl (v_assign rfl) rfl (rj_end (qs_n (wp_sc ?_))); refine wp_ra (σ := Nat × PH × PH × Value × Value × Value × Value) 22 (fun z_ => IntsO ((runS ts op ss i).res op x44.a.toNat x44.b.toNat) z_.2.2.2.1 z_.2.2.1 ∧ TriO (pairR k p n (runA k p n ts op ss i) (runB k p n ts op ss i) ((runS ts op ss i).res op x44.a.toNat x44.b.toNat)) z_.2.2.2.2.1 z_.2.2.2.2.2.1 z_.2.2.2.2.2.2 z_.2.1) (fun z_ => [(3, .pointer (some ⟨b3, 0, none⟩)), (6, .pointer (some ⟨b6, 0, none⟩)), (7, .bool false), (8, ptrV bb), (9, .pointer (some ⟨b9, 0, none⟩)), (11, .pointer (some ⟨b11, 0, none⟩)), (12, num ((runS ts op ss i).place x44.a)), (13, num ((runS ts op ss i).place x44.b)), (14, .pointer (some ⟨z_.1, 0, none⟩)), (15, .bool (pairB k p n (runA k p n ts op ss i) (runB k p n ts op ss i) ((runS ts op ss i).res op x44.a.toNat x44.b.toNat))), (28, num m), (40, subV v 0 ((m : Int).toNat) 2), (41, num (ss.take ((m : Int).toNat)).length), (42, num i), (43, .bool (decide ((i : Int) < (ss.take ((m : Int).toNat)).length))), (45, .agg [num x44.a, num x44.b].toArray), (46, ptrV bb), (47, .pointer (some ⟨b11, 0, none⟩)), (48, num x44.a), (49, num ((runS ts op ss i).place x44.a)), (50, ptrV bb), (51, .pointer (some ⟨b11, 1, none⟩)), (52, num x44.b), (53, num ((runS ts op ss i).place x44.b))]) (fun z_ => [box z_.1 [z_.2.2.2.2.1, z_.2.2.2.2.2.1, z_.2.2.2.2.2.2] 40, z_.2.1, z_.2.2.1, box b11 [num x44.a, num x44.b] 92, box b9 [num k, num p, num n, lx, vo37] 28, g, box b6 [num 0, num 0, num 0, .slice none 0 0, .slice none 0 0] 28, box b3 [num k, num p, num n, vt, vo] 28, hp w, ha, go, hl]) mixed_ok (by kernel_rfl) ?_ ?_
          · refine rak_of (rak_v (i := 0) (by kernel_rfl) rfl rfl (v_fieldAddr fd_28_0 ty_24 (by decide) rfl) rfl (rak_v (i := 1) (by kernel_rfl) rfl rfl (v_loadNB 4 ty_24 rfl rfl rfl rfl) rfl (rak_v (i := 2) (by kernel_rfl) rfl rfl (v_fieldAddr fd_28_1 ty_25 (by decide) rfl) rfl (rak_v (i := 3) (by kernel_rfl) rfl rfl (v_loadB 1 ty_25 rfl rfl rfl) rfl (rak_v (i := 4) (by kernel_rfl) rfl rfl (v_move rfl) rfl ?_))))); obtain ⟨t60, a60, b60, c60, ht60, hcs60, rl60, rd60, rx60⟩ := hlv.at (((runS ts op ss i).place x44.a : Int).toNat) (by first | omega | (rw [List.length_set]; omega)); refine rak_v (i := 5) (by kernel_rfl) rfl rfl (v_indexAddr Tryz.underlying25 ty_40 rfl rfl rr.toR (by decide) (by omega) (by omega)) rfl ?_; refine rak_v (i := 6) (by kernel_rfl) rfl rfl (v_loadNE 6 ty_40 rfl rfl rr.toR (by have := rr.toR.1; omega) rfl hcs60) rfl ?_; refine rak_v (i := 7) (by kernel_rfl) rfl rfl (v_fieldAddr fd_28_1 ty_25 (by decide) rfl) rfl (rak_v (i := 8) (by kernel_rfl) rfl rfl (v_loadB 1 ty_25 rfl rfl rfl) rfl (rak_v (i := 9) (by kernel_rfl) rfl rfl (v_move rfl) rfl ?_)); obtain ⟨t65, a65, b65, c65, ht65, hcs65, rl65, rd65, rx65⟩ := hlv.at (((runS ts op ss i).place x44.b : Int).toNat) (by first | omega | (rw [List.length_set]; omega)); refine rak_v (i := 10) (by kernel_rfl) rfl rfl (v_indexAddr Tryz.underlying25 ty_40 rfl rfl rr.toR (by decide) (by omega) (by omega)) rfl ?_; refine rak_v (i := 11) (by kernel_rfl) rfl rfl (v_loadNE 6 ty_40 rfl rfl rr.toR (by have := rr.toR.1; omega) rfl hcs65) rfl ?_; have e60 : t60 = runA k p n ts op ss i := (by have := out_get (k := k) (p := p) (n := n) hpa; rw [ht60] at this; rw [runA, stpAt_of hx]; exact Option.some.inj this); have e65 : t65 = runB k p n ts op ss i := (by have := out_get (k := k) (p := p) (n := n) hqb; rw [ht65] at this; rw [runB, stpAt_of hx]; exact Option.some.inj this); subst e60; subst e65; refine rak_v (i := 12) (by kernel_rfl) rfl rfl (v_move rfl) rfl (rak_v (i := 13) (by kernel_rfl) rfl rfl (v_move rfl) rfl (rak_v (i := 14) (by kernel_rfl) rfl rfl (v_move rfl) rfl ?_)); refine rak_2 (i := 15) (j := 20) (by kernel_rfl) ?_ ?_
            · refine rok_x rfl rfl (x_call rfl en_89 (fun w s => ct_i_resultLabels _ op _ _ (runS ts op ss i) _ _ _ x44.a.toNat x44.b.toNat w (rst'.mono (s.get 2 rfl)) (r'.mono (s.get 5 rfl)) p0 q0 hpa hqb (by omega))) rfl ?_; rintro v70 h70 r70; refine rak_2 (i := 16) (j := 20) (by kernel_rfl) ?_ ?_
              · refine rok_x rfl rfl (x_call rfl en_35 (fun w s => ct_i_ContractPair _ _ _ _ _ _ _ _ _ _ _ _ _ w (rl60.mono (s.get 9 rfl)) (rd60.mono (s.get 9 rfl)) (rx60.mono (s.get 9 rfl)) (rl65.mono (s.get 9 rfl)) (rd65.mono (s.get 9 rfl)) (rx65.mono (s.get 9 rfl)) (r70.toR.mono (s.get 0 rfl)))) rfl ?_; rintro _ h71 ⟨va71, vb71, vc71, rfl, o71⟩; refine rak_rk [(17, true), (18, true), (19, true), (20, false), (21, false), (22, false)] (by kernel_rfl) rfl (rk_v rfl rfl (v_move rfl) rfl (rk_v rfl rfl (v_extract rfl rfl) rfl (rk_v rfl rfl (v_extract rfl rfl) rfl ?_))); refine rk_xb rfl rfl (x_alloc ty_40 rfl) rfl ?_; rintro _ _ ⟨b14, rfl, rfl⟩; refine rk_m 0 rfl rfl rfl rfl (m_store 0 ty_40 rfl rfl rfl rfl (by simp [o71.toR.1.sl.one, o71.toR.2.1.sl.one, o71.toR.2.2.sl.one]) rfl (Nat.le_of_ble_eq_true rfl)) rfl ?_; rintro _ _ ⟨rfl, rfl⟩; refine rk_fv rfl rfl (v_assign rfl) rfl (rk_end ?_); exact qs_mid (b14, h71, h70, v70, va71, vb71, vc71) ⟨r70, o71⟩ ⟨rfl, rfl, rfl, rfl, rfl, rfl, rfl, rfl, rfl, rfl, rfl, rfl, rfl, rfl, rfl, rfl, rfl, rfl, rfl, rfl, rfl, rfl, rfl, rfl, trivial⟩ (fun _ s => s.pick [0, 1, 2, 3, 4, 5, 6, 7, 8, 9, 10, 11] (by decide) rfl)
              · refine rok_xb rfl rfl (x_alloc ty_40 rfl) rfl ?_; rintro _ _ ⟨b14, rfl, rfl⟩; refine rak_rk [(16, false), (17, true), (18, true), (19, true), (21, false), (22, false)] (by kernel_rfl) rfl ?_; refine rk_x rfl rfl (x_call rfl en_35 (fun w s => ct_i_ContractPair _ _ _ _ _ _ _ _ _ _ _ _ _ w (rl60.mono (s.get 10 rfl)) (rd60.mono (s.get 10 rfl)) (rx60.mono (s.get 10 rfl)) (rl65.mono (s.get 10 rfl)) (rd65.mono (s.get 10 rfl)) (rx65.mono (s.get 10 rfl)) (r70.toR.mono (s.get 1 rfl)))) rfl ?_; rintro _ h71 ⟨va71, vb71, vc71, rfl, o71⟩; refine rk_v rfl rfl (v_move rfl) rfl (rk_v rfl rfl (v_extract rfl rfl) rfl (rk_v rfl rfl (v_extract rfl rfl) rfl ?_)); refine rk_m 1 rfl rfl rfl rfl (m_store 1 ty_40 rfl rfl rfl rfl (by simp [o71.toR.1.sl.one, o71.toR.2.1.sl.one, o71.toR.2.2.sl.one]) rfl (Nat.le_of_ble_eq_true rfl)) rfl ?_; rintro _ _ ⟨rfl, rfl⟩; refine rk_fv rfl rfl (v_assign rfl) rfl (rk_end ?_); exact qs_mid (b14, h71, h70, v70, va71, vb71, vc71) ⟨r70, o71⟩ ⟨rfl, rfl, rfl, rfl, rfl, rfl, rfl, rfl, rfl, rfl, rfl, rfl, rfl, rfl, rfl, rfl, rfl, rfl, rfl, rfl, rfl, rfl, rfl, rfl, trivial⟩ (fun _ s => s.pick [1, 0, 2, 3, 4, 5, 6, 7, 8, 9, 10, 11] (by decide) rfl)
            · refine rok_xb rfl rfl (x_alloc ty_40 rfl) rfl ?_; rintro _ _ ⟨b14, rfl, rfl⟩; refine rak_rk [(15, false), (16, false), (17, true), (18, true), (19, true), (21, false), (22, false)] (by kernel_rfl) rfl ?_; refine rk_x rfl rfl (x_call rfl en_89 (fun w s => ct_i_resultLabels _ op _ _ (runS ts op ss i) _ _ _ x44.a.toNat x44.b.toNat w (rst'.mono (s.get 3 rfl)) (r'.mono (s.get 6 rfl)) p0 q0 hpa hqb (by omega))) rfl ?_; rintro v70 h70 r70; refine rk_x rfl rfl (x_call rfl en_35 (fun w s => ct_i_ContractPair _ _ _ _ _ _ _ _ _ _ _ _ _ w (rl60.mono (s.get 10 rfl)) (rd60.mono (s.get 10 rfl)) (rx60.mono (s.get 10 rfl)) (rl65.mono (s.get 10 rfl)) (rd65.mono (s.get 10 rfl)) (rx65.mono (s.get 10 rfl)) (r70.toR.mono (s.get 0 rfl)))) rfl ?_; rintro _ h71 ⟨va71, vb71, vc71, rfl, o71⟩; refine rk_v rfl rfl (v_move rfl) rfl (rk_v rfl rfl (v_extract rfl rfl) rfl (rk_v rfl rfl (v_extract rfl rfl) rfl ?_)); refine rk_m 2 rfl rfl rfl rfl (m_store 2 ty_40 rfl rfl rfl rfl (by simp [o71.toR.1.sl.one, o71.toR.2.1.sl.one, o71.toR.2.2.sl.one]) rfl (Nat.le_of_ble_eq_true rfl)) rfl ?_; rintro _ _ ⟨rfl, rfl⟩; refine rk_fv rfl rfl (v_assign rfl) rfl (rk_end ?_); exact qs_mid (b14, h71, h70, v70, va71, vb71, vc71) ⟨r70, o71⟩ ⟨rfl, rfl, rfl, rfl, rfl, rfl, rfl, rfl, rfl, rfl, rfl, rfl, rfl, rfl, rfl, rfl, rfl, rfl, rfl, rfl, rfl, rfl, rfl, rfl, trivial⟩ (fun _ s => s.pick [2, 0, 1, 3, 4, 5, 6, 7, 8, 9, 10, 11] (by decide) rfl)
          · rintro ⟨b14, h71, h70, v70, va71, vb71, vc71⟩ ⟨r70, o71⟩; dsimp only at r70 o71 ⊢; refine qs_n (wp_sc (wp_sc (wp_sq (sq_v rfl (v_move rfl) rfl (sq_v rfl (v_not rfl) rfl (sq_end ?_)))))); have eK : (runS ts op ss i).res op x44.a.toNat x44.b.toNat = runK ts op ss i := by rw [runK, stpAt_of hx]
            rw [eK] at o71; refine qs_n ?_; refine wp_cn _ rfl (fun c75 => ?_) (fun c75 => ?_)
            · refine wp_sc (wp_sq (sq_v rfl (v_build [num 0, num 0, num 0, .slice none 0 0, .slice none 0 0] rfl (by kernel_rfl)) rfl ?_)); refine sq_m 6 rfl rfl (m_store 6 ty_28 rfl rfl rfl rfl (by simp [one_int, one_sl]) rfl (Nat.le_of_ble_eq_true rfl)) rfl ?_; rintro _ _ ⟨rfl, rfl⟩; refine sq_v rfl (v_assign rfl) rfl (sq_end (qs_n (wp_rt (qs_r (qs_br (qs_r (qs_r (qs_br (qs_r ?_))))))))); exact qs_retct 6 rfl ty_28 rfl rfl rfl rfl (fin_e (i := 8) rfl (PartNo (fun h => by rw [eK] at c75; exact pairB_false.1 c75 (h.2.2 i (by omega)))))
            · refine wp_sk (qs_n (wp_sc (wp_sq (sq_v rfl (v_assign rfl) rfl (sq_end ?_))))); have hpf : runFit k p n ts op ss i := by rw [eK] at c75; exact pairB_true.1 c75
              refine qs_n (wp_sc (wp_sc (wp_sq (sq_v rfl (v_fieldAddr fd_28_1 ty_25 (by decide) rfl) rfl (sq_v rfl (v_loadB 4 ty_25 rfl rfl rfl) rfl (sq_v rfl (v_len Tryz.underlying25 rfl rr.toR.sl) rfl (sq_v rfl (v_move rfl) rfl (sq_end (qs_n (wp_bl ?_)))))))))); refine wp_lp (σ := Nat × Value × PH × (List Value)) (fun z_ => [(3, .pointer (some ⟨b3, 0, none⟩)), (6, .pointer (some ⟨b6, 0, none⟩)), (7, .bool false), (8, ptrV bb), (9, .pointer (some ⟨b9, 0, none⟩)), (11, .pointer (some ⟨b11, 0, none⟩)), (12, num ((runS ts op ss i).place x44.a)), (13, num ((runS ts op ss i).place x44.b)), (14, .pointer (some ⟨b14, 0, none⟩)), (15, .bool (pairB k p n (runA k p n ts op ss i) (runB k p n ts op ss i) ((runS ts op ss i).res op x44.a.toNat x44.b.toNat))), (16, z_.2.1), (28, num m), (40, subV v 0 ((m : Int).toNat) 2), (41, num (ss.take ((m : Int).toNat)).length), (42, num i), (43, .bool (decide ((i : Int) < (ss.take ((m : Int).toNat)).length))), (45, .agg [num x44.a, num x44.b].toArray), (46, ptrV bb), (47, .pointer (some ⟨b11, 0, none⟩)), (48, num x44.a), (49, num ((runS ts op ss i).place x44.a)), (50, ptrV bb), (51, .pointer (some ⟨b11, 1, none⟩)), (52, num x44.b), (53, num ((runS ts op ss i).place x44.b)), (74, .bool (pairB k p n (runA k p n ts op ss i) (runB k p n ts op ss i) ((runS ts op ss i).res op x44.a.toNat x44.b.toNat))), (75, .bool (!(pairB k p n (runA k p n ts op ss i) (runB k p n ts op ss i) ((runS ts op ss i).res op x44.a.toNat x44.b.toNat)))), (77, .pointer (some ⟨b9, 3, none⟩)), (78, lx), (79, num (outTo k p n ts op ss i).length), (80, num z_.1)]) (fun z_ => [z_.2.2.1, box b14 [va71, vb71, vc71] 40, h71, h70, box b11 [num x44.a, num x44.b] 92, box b9 [num k, num p, num n, lx, vo37] 28, g, box b6 [num 0, num 0, num 0, .slice none 0 0, .slice none 0 0] 28, box b3 [num k, num p, num n, vt, vo] 28, hp w, ha, go, hl]) (fun z_ => z_.1 ≤ (outTo k p n ts op ss i).length ∧ z_.2.2.2 = dropK 3 cs ((runS ts op ss i).place x44.a).toNat ((runS ts op ss i).place x44.b).toNat z_.1 ∧ RowO (40) z_.2.2.2 (dropK 1 (outTo k p n ts op ss i) ((runS ts op ss i).place x44.a).toNat ((runS ts op ss i).place x44.b).toNat z_.1).length 3 z_.2.1 z_.2.2.1) (fun z_ => (outTo k p n ts op ss i).length - z_.1) (0, .slice none 0 0, emp, []) (⟨by (try dsimp only); omega, rfl, RowO.nil⟩) ⟨rfl, rfl, rfl, rfl, rfl, rfl, rfl, rfl, rfl, rfl, (by first | rfl | exact ksub rfl (by first | omega | (simp; done) | (simp; omega))), rfl, rfl, rfl, rfl, rfl, rfl, rfl, rfl, rfl, rfl, rfl, rfl, rfl, rfl, rfl, rfl, rfl, rfl, rfl, (by first | rfl | exact ksub rfl (by first | omega | (simp; done) | (simp; omega))), trivial⟩ (fun _ s => (emp_sat s)) ?_; rintro ⟨j, lz, hz, dz⟩ ⟨hj, hdz, rz⟩; dsimp only at hj hdz rz ⊢; have hdl := dropK_len (m := 1) (cs := outTo k p n ts op ss i) (p := ((runS ts op ss i).place x44.a).toNat) (q := ((runS ts op ss i).place x44.b).toNat) j; have hxl : (runS ts op ss i).ixs.length ≤ (runS ts op ss i).all.length := by have := List.length_filter_le (fun i' => !(runS ts op ss i).gone.getD i' false) (List.range (runS ts op ss i).all.length); simpa [Sh.ixs] using this
              refine wp_sc (wp_sq (sq_v rfl (v_lss rfl rfl) rfl (sq_end (qs_n (wp_sc ?_))))); refine wp_cd rfl (fun c81 => ?_) (fun c81 => ?_)
              · refine wp_sk (qs_n (wp_sc (wp_bl (wp_sc (wp_sq (sq_v rfl (v_move rfl) rfl ?_)))))); obtain ⟨t83, a83, b83, c83, ht83, hcs83, rl83, rd83, rx83⟩ := hlv.at (j) (by first | omega | (rw [List.length_set]; omega)); refine sq_v rfl (v_indexAddr Tryz.underlying25 ty_40 rfl rfl rr.toR (by decide) (by omega) (by omega)) rfl ?_; refine sq_v rfl (v_loadNE 10 ty_40 rfl rfl rr.toR (by have := rr.toR.1; omega) rfl hcs83) rfl ?_; refine sq_x rfl (x_alloc ty_40 rfl) rfl ?_; rintro _ _ ⟨b18, rfl, rfl⟩; refine sq_v rfl (v_assign rfl) rfl ?_; refine sq_m 0 rfl rfl (m_store 0 ty_40 rfl rfl rfl rfl (by simp [rl83.sl.one, rd83.sl.one, rx83.sl.one]) rfl (Nat.le_of_ble_eq_true rfl)) rfl ?_; rintro _ _ ⟨rfl, rfl⟩; refine sq_end (qs_n (wp_sc (wp_sq (sq_v rfl (v_move rfl) rfl (sq_v rfl (v_move rfl) rfl (sq_v rfl (v_neq rfl rfl) rfl ?_)))))); refine sq_bd 87 rfl (fun c87 => ?_) (fun c87 => ?_)
                · refine sq_v rfl (v_move rfl) rfl (sq_v rfl (v_move rfl) rfl (sq_v rfl (v_move rfl) rfl (sq_v rfl (v_neq rfl rfl) rfl (sq_v rfl (v_pickt rfl rfl) rfl (sq_end (qs_n ?_)))))); refine wp_cd rfl (fun c92 => ?_) (fun c92 => ?_)
                  · refine wp_sq (sq_v rfl (v_move rfl) rfl (sq_v rfl (v_loadNB 0 ty_40 rfl rfl rfl rfl) rfl ?_)); refine sq_x rfl (x_buildS [.agg [a83, b83, c83].toArray] Tryz.underlying25 ty_40 (by decide) rfl rfl rfl (by decide) (by decide) (by intro v hv; simp at hv; subst hv; rfl)) rfl ?_; intro v95 h95 (r95 : RowO 40 [a83, b83, c83] 1 3 v95 h95); refine sq_m 2 rfl rfl (m_append 2 0 Tryz.underlying25 ty_40 rfl rfl (by decide) rfl rfl rfl rz rfl r95.toR (by simp [rl83.sl.one, rd83.sl.one, rx83.sl.one]) (by unfold maxLen; omega) (by omega)) rfl ?_; intro v96 h_r96 (r96 : RowO 40 (dz ++ [a83, b83, c83]) ((dropK 1 (outTo k p n ts op ss i) ((runS ts op ss i).place x44.a).toNat ((runS ts op ss i).place x44.b).toNat j).length + 1) 3 v96 h_r96); refine sq_v rfl (v_assign rfl) rfl (sq_end (qs_bn (qs_n (wp_sq ?_)))); refine sq_v rfl (v_add rfl rfl ((by unfold I64; omega))) rfl ?_; refine sq_v rfl (v_move rfl) rfl (sq_end ?_); exact qs_bk (j + 1, v96, h_r96, dz ++ [a83, b83, c83]) ⟨by (try dsimp only); omega, by (try dsimp only); rw [dropK_yes ⟨by omega, by omega⟩, ← hdz, hcs83], by (try dsimp only); rw [dropK_yes ⟨by omega, by omega⟩, one_drop ht83, List.length_append]; exact r96⟩ (by simp only; omega) ⟨rfl, rfl, rfl, rfl, rfl, rfl, rfl, rfl, rfl, rfl, (by first | rfl | exact ksub rfl (by first | omega | (simp; done) | (simp; omega))), rfl, rfl, rfl, rfl, rfl, rfl, rfl, rfl, rfl, rfl, rfl, rfl, rfl, rfl, rfl, rfl, rfl, rfl, rfl, (by first | rfl | exact ksub rfl (by first | omega | (simp; done) | (simp; omega))), trivial⟩ (fun _ s => s.pick [2, 3, 4, 5, 6, 7, 8, 9, 10, 11, 12, 13, 14] (by decide) rfl)
                  · refine wp_sk (qs_bn (qs_n (wp_sq ?_))); refine sq_v rfl (v_add rfl rfl ((by unfold I64; omega))) rfl ?_; refine sq_v rfl (v_move rfl) rfl (sq_end ?_); exact qs_bk (j + 1, lz, hz, dz) ⟨by (try dsimp only); omega, by (try dsimp only); rw [dropK_no (by omega)]; exact hdz, by (try dsimp only); rw [dropK_no (by omega)]; exact rz⟩ (by simp only; omega) ⟨rfl, rfl, rfl, rfl, rfl, rfl, rfl, rfl, rfl, rfl, (by first | rfl | exact ksub rfl (by first | omega | (simp; done) | (simp; omega))), rfl, rfl, rfl, rfl, rfl, rfl, rfl, rfl, rfl, rfl, rfl, rfl, rfl, rfl, rfl, rfl, rfl, rfl, rfl, (by first | rfl | exact ksub rfl (by first | omega | (simp; done) | (simp; omega))), trivial⟩ (fun _ s => s.pick [1, 2, 3, 4, 5, 6, 7, 8, 9, 10, 11, 12, 13] (by decide) rfl)
                · refine sq_v rfl (v_move rfl) rfl (sq_s rfl rfl (sq_s rfl rfl (sq_s rfl rfl (sq_v rfl (v_pickf rfl rfl) rfl (sq_end (qs_n (wp_cf rfl (wp_sk (qs_bn (qs_n (wp_sq ?_))))))))))); refine sq_v rfl (v_add rfl rfl ((by unfold I64; omega))) rfl ?_; refine sq_v rfl (v_move rfl) rfl (sq_end ?_); exact qs_bk (j + 1, lz, hz, dz) ⟨by (try dsimp only); omega, by (try dsimp only); rw [dropK_no (by omega)]; exact hdz, by (try dsimp only); rw [dropK_no (by omega)]; exact rz⟩ (by simp only; omega) ⟨rfl, rfl, rfl, rfl, rfl, rfl, rfl, rfl, rfl, rfl, (by first | rfl | exact ksub rfl (by first | omega | (simp; done) | (simp; omega))), rfl, rfl, rfl, rfl, rfl, rfl, rfl, rfl, rfl, rfl, rfl, rfl, rfl, rfl, rfl, rfl, rfl, rfl, rfl, (by first | rfl | exact ksub rfl (by first | omega | (simp; done) | (simp; omega))), trivial⟩ (fun _ s => s.pick [1, 2, 3, 4, 5, 6, 7, 8, 9, 10, 11, 12, 13] (by decide) rfl)
              · refine wp_ex (qs_x (qs_x (qs_bx (qs_n (wp_sc (wp_sq (sq_v rfl (v_move rfl) rfl (sq_v rfl (v_loadNB 1 ty_40 rfl rfl rfl rfl) rfl ?_)))))))); refine sq_x rfl (x_buildS [.agg [va71, vb71, vc71].toArray] Tryz.underlying25 ty_40 (by decide) rfl rfl rfl (by decide) (by decide) (by intro v hv; simp at hv; subst hv; rfl)) rfl ?_; intro v100 h100 (r100 : RowO 40 [va71, vb71, vc71] 1 3 v100 h100); refine sq_m 1 rfl rfl (m_append 1 0 Tryz.underlying25 ty_40 rfl rfl (by decide) rfl rfl rfl rz rfl r100.toR (by simp [o71.toR.1.sl.one, o71.toR.2.1.sl.one, o71.toR.2.2.sl.one]) (by unfold maxLen; omega) (by omega)) rfl ?_; intro v101 h_r101 (r101 : RowO 40 (dz ++ [va71, vb71, vc71]) ((dropK 1 (outTo k p n ts op ss i) ((runS ts op ss i).place x44.a).toNat ((runS ts op ss i).place x44.b).toNat j).length + 1) 3 v101 h_r101); refine sq_v rfl (v_fieldAddr fd_28_1 ty_25 (by decide) rfl) rfl ?_; refine sq_m 6 rfl rfl (m_store1 6 ty_25 rfl rfl r101.toR.sl.one rfl (Nat.le_of_ble_eq_true rfl)) rfl ?_; rintro _ _ ⟨rfl, rfl⟩; refine sq_end (qs_n (wp_sq (sq_v rfl (v_move rfl) rfl (sq_v rfl (v_move rfl) rfl (sq_v rfl (v_move rfl) rfl ?_))))); refine sq_m 7 rfl rfl (x_call rfl en_90 (fun w s => ct_i_contract arr op vo _ bb _ _ x44.a.toNat x44.b.toNat w _ (s.get 7 rfl) rst (r'.mono (s.getR 7 10 rfl rfl (by decide))) p0 q0 hpa hqb (by omega) (by omega))) rfl ?_; rintro _ h106 ⟨rfl, rst2⟩; refine sq_end (qs_bn (qs_n (wp_sq ?_))); refine sq_v rfl (v_add rfl rfl ((by unfold I64; omega))) rfl ?_; refine sq_v rfl (v_move rfl) rfl (sq_end ?_); refine qs_dj 13 3 rfl rfl rfl (fun hdj => ?_); have ej : j = (outTo k p n ts op ss i).length := by omega
                subst ej; obtain ⟨g2, hg2, oh2⟩ := hlv.dropK ((runS ts op ss i).place x44.a).toNat ((runS ts op ss i).place x44.b).toNat; rw [← hdz] at oh2; have oh3 := oh2.snoc o71 (hdj.mono hg2); exact qs_bk (i + 1, v101, h_r101, dz ++ [va71, vb71, vc71], PUn g2 h71, h106) ⟨by (try dsimp only); rw [List.length_take]; omega, step_all hfit hpf, by (try dsimp only); rw [hs1]; exact rst2, by (try dsimp only); rw [hosn]; exact oh3, by (try dsimp only); rw [hosn, List.length_append]; exact r101⟩ (by simp only; omega) ⟨rfl, rfl, rfl, rfl, rfl, rfl, rfl, rfl, (by first | rfl | exact ksub rfl (by first | omega | (simp; done) | (simp; omega))), trivial⟩ (fun _ s => ((Sat.merge (s.pick (HS' := [hl, h71, box b9 [num k, num p, num n, v101, vo37] 28, h106, box b6 [num 0, num 0, num 0, .slice none 0 0, .slice none 0 0] 28, box b3 [num k, num p, num n, vt, vo] 28, hp w, h_r101, go]) [13, 3, 6, 7, 8, 9, 10, 1, 12] (by decide) rfl)).less (i := 0) rfl (PUn.mono_l hg2 hdj)).pick [1, 2, 3, 4, 5, 6, 7, 0] (by decide) rfl)
        · refine wp_ex (qs_x (qs_x (qs_bx (qs_n (wp_sc (wp_sq (sq_v rfl (v_loadNB 0 ty_28 rfl rfl rfl rfl) rfl ?_))))))); refine sq_m 2 rfl rfl (m_store 2 ty_28 rfl rfl rfl rfl (by simp [one_int, rr.toR.sl.one, ro.toR.sl.one]) rfl (Nat.le_of_ble_eq_true rfl)) rfl ?_; rintro _ _ ⟨rfl, rfl⟩; refine sq_v rfl (v_assign rfl) rfl (sq_end (qs_n (wp_rt ?_))); have ei : i = (m : Int).toNat := by have : ¬ i < (ss.take (m : Int).toNat).length := (by omega); rw [List.length_take] at this; omega
          refine qs_close [box b6 _ _, hp w] [ha, go, hl] (fun _ s => s.pick [2, 4, 5, 6, 7] (by decide) rfl) (fun md => ?_); exact qs_retct 1 rfl ty_28 rfl rfl rfl rfl (fin_t 0 (i := 2) rfl rfl rfl (PartYes ⟨hord, ⟨by omega, by omega⟩, by rw [← ei]; exact hfit⟩ (by rw [← ei]; exact NetO.join rr ro hlv md)))
  · refine sq_v rfl (v_not rfl) rfl (sq_v rfl (v_move rfl) rfl (sq_s rfl rfl (sq_s rfl rfl (sq_v rfl (v_pickt rfl rfl) rfl (sq_v rfl (v_move rfl) rfl (sq_s rfl rfl (sq_s rfl rfl (sq_s rfl rfl (sq_s rfl rfl ?_))))))))); refine sq_v rfl (v_pickt rfl rfl) rfl (sq_end (qs_n (wp_ct rfl (wp_sc (wp_sq (sq_v rfl (v_build [num 0, num 0, num 0, .slice none 0 0, .slice none 0 0] rfl (by kernel_rfl)) rfl ?_)))))); refine sq_m 0 rfl rfl (m_store 0 ty_28 rfl rfl rfl rfl (by simp [one_int, one_sl]) rfl (Nat.le_of_ble_eq_true rfl)) rfl ?_; rintro _ _ ⟨rfl, rfl⟩; refine sq_v rfl (v_assign rfl) rfl (sq_end (qs_n (wp_rt (qs_r ?_)))); exact qs_retct 0 rfl ty_28 rfl rfl rfl rfl (fin_e (i := 2) rfl (PartNo (fun h => by first | exact orderB_false.1 c21 h.1 | (have := h.2.1; omega))))
theorem ct_L_iPartial (k p n m : Int) (ts : List Ten) (op : List Int) (ss : List Stp) (vt vo v : Value) (w : World) (r : TensR ts vt (hp w)) (r' : IntsR op vo (hp w)) (rv : StepsR ss v (hp w)) (hs : op.length ≤ 1048576) :
    Calls Tryz.prog 54 [netV k p n vt vo, v, num m].toArray w (Ret w emp (NetB (ifB (partB k p n ts op ss m) k 0) (ifB (partB k p n ts op ss m) p 0) (ifB (partB k p n ts op ss m) n 0) (partTs k p n ts op ss m) (partOp k p n ts op ss m) (partB k p n ts op ss m))) :=
  ct_i_PartialNetwork k p n m ts op ss vt vo v w r r' rv hs
end Go.Proofs.YtdkgaejmgnojhaaGreat
namespace Go.Proofs.YtdkgaejmgnojhaaGreat
set_option maxRecDepth 100000
open Go.RowKit
theorem con_out {k p n : Int} {ts : List Ten} {op : List Int} {ss : List Stp} (h : conP k p n ts op ss) : partTs k p n ts op ss ss.length = outTo k p n ts op ss ss.length ∧ partOp k p n ts op ss ss.length = op ∧ partB k p n ts op ss ss.length = true ∧ ((outTo k p n ts op ss ss.length).length = 0 ↔ ts.length = 0) := by
  have hB := partB_true.2 (con_part.2 h); refine ⟨by rw [partTs, hB, Int.toNat_natCast]; rfl, by rw [partOp, hB]; rfl, hB, ?_⟩
  by_cases hn : ts.length = 0
  · have hs := h.1.2.1; have e : ss.length = 0 := by omega
    rw [e, out_zero]
  · rw [(h.last hn).2]
    simp [hn]
set_option maxHeartbeats 4000000 in
theorem ct_i_Contract (k p n : Int) (ts : List Ten) (op : List Int) (ss : List Stp) (vt vo v : Value) (w : World) (r : TensR ts vt (hp w)) (r' : IntsR op vo (hp w)) (rv : StepsR ss v (hp w)) (hs : op.length ≤ 1048576) :
    Calls Tryz.prog 29 [netV k p n vt vo, v].toArray w (Ret w emp (TenB (conR k p n ts op ss) (conB k p n ts op ss))) := by
  refine calls_in Tryz.func29 rfl Tryz.ntmps29 rfl (Sat.start w) ?_; have hle0 := r.le; obtain ⟨cs_r, rr_r, hc_r⟩ := r.at; have hle1 := r'.le; have hle2 := rv.le; obtain ⟨cs_rv, rr_rv, hc_rv⟩ := rv.at; refine wp_sc (wp_sq ?_); refine sq_x rfl (x_box rfl rfl) rfl ?_; rintro _ _ ⟨b2, rfl, rfl⟩; refine sq_x rfl (x_alloc ty_40 rfl) rfl ?_; rintro _ _ ⟨b4, rfl, rfl⟩; refine sq_v rfl (v_assign rfl) rfl (sq_end (qs_n (wp_sc (wp_sq (sq_v rfl (v_loadNB 1 ty_28 rfl rfl rfl rfl) rfl (sq_v rfl (v_move rfl) rfl (sq_v rfl (v_move rfl) rfl (sq_v rfl (v_len Tryz.underlying65 rfl rv.sl) rfl ?_)))))))); refine sq_x rfl (x_call rfl en_54 (fun w s => ct_L_iPartial _ _ _ _ _ _ _ _ _ _ w (r.mono (s.get 2 rfl)) (r'.mono (s.get 2 rfl)) (rv.mono (s.get 2 rfl)) (by first | assumption | omega))) rfl ?_; rintro _ h13 ⟨vt13, vo13, rfl, o13⟩; obtain ⟨cs_T_13, rr_T_13, hc_T_13⟩ := o13.toR.1.at; refine sq_v rfl (v_move rfl) rfl (sq_v rfl (v_extract rfl rfl) rfl (sq_v rfl (v_extract rfl rfl) rfl ?_)); refine sq_x rfl (x_alloc ty_28 rfl) rfl ?_; rintro _ _ ⟨b6, rfl, rfl⟩; refine sq_m 0 rfl rfl (m_store 0 ty_28 rfl rfl rfl rfl (by simp [one_int, o13.toR.1.sl.one, o13.toR.2.sl.one]) rfl (Nat.le_of_ble_eq_true rfl)) rfl ?_; rintro _ _ ⟨rfl, rfl⟩; refine sq_v rfl (v_assign rfl) rfl (sq_end (qs_n (wp_sc (wp_sc (wp_sq (sq_v rfl (v_move rfl) rfl (sq_v rfl (v_not rfl) rfl (sq_end (qs_n ?_))))))))); refine wp_cn _ rfl (fun c17 => ?_) (fun c17 => ?_)
  · refine wp_sc (wp_sq (sq_v rfl (v_build [.slice none 0 0, .slice none 0 0, .slice none 0 0] rfl (by kernel_rfl)) rfl ?_)); refine sq_m 2 rfl rfl (m_store 2 ty_40 rfl rfl rfl rfl (by simp [one_sl]) rfl (Nat.le_of_ble_eq_true rfl)) rfl ?_; rintro _ _ ⟨rfl, rfl⟩; refine sq_v rfl (v_assign rfl) rfl (sq_end (qs_n (wp_rt (qs_r ?_)))); exact qs_retct 2 rfl ty_40 rfl rfl rfl rfl (fin_e (i := 4) rfl (ConNo (fun h => by rw [(con_out h).2.2.1] at c17; cases c17)))
  · refine wp_sk (qs_n (wp_sc (wp_sc (wp_sq ?_)))); have hcon := con_part.1 (partB_true.1 c17); have hout := con_out hcon; have hring := hcon.1.1.1; rw [hout.1] at o13 hc_T_13 rr_T_13; refine sq_v rfl (v_fieldAddr fd_28_1 ty_25 (by decide) rfl) rfl (sq_v rfl (v_loadB 0 ty_25 rfl rfl rfl) rfl (sq_v rfl (v_len Tryz.underlying25 rfl o13.toR.1.sl) rfl (sq_v rfl (v_eql rfl rfl) rfl (sq_end (qs_n ?_))))); refine wp_cd rfl (fun c22 => ?_) (fun c22 => ?_)
    · refine wp_sc (wp_sq (sq_v rfl (v_fieldAddr fd_28_0 ty_24 (by decide) rfl) rfl (sq_v rfl (v_loadNB 3 ty_24 rfl rfl rfl rfl) rfl ?_))); refine sq_x rfl (x_call rfl en_36 (fun w s => ct_i_scalarOne _ _ _ w (by first | assumption | omega))) rfl ?_; rintro _ h25 ⟨va25, vb25, vc25, rfl, o25⟩; refine sq_m 3 rfl rfl (m_store 3 ty_40 rfl rfl rfl rfl (by simp [o25.toR.1.sl.one, o25.toR.2.1.sl.one, o25.toR.2.2.sl.one]) rfl (Nat.le_of_ble_eq_true rfl)) rfl ?_; rintro _ _ ⟨rfl, rfl⟩; refine sq_v rfl (v_assign rfl) rfl (sq_end (qs_n (wp_rt (qs_r ?_)))); exact qs_retct 3 rfl ty_40 rfl rfl rfl rfl (fin_t 0 (i := 5) rfl rfl rfl (ConYes hcon (by rw [conT, if_pos (by rw [← hout.2.2.2]; omega)]; exact o25)))
    · refine wp_sk (qs_n (wp_sc (wp_rj 8 [(0, true), (1, true), (2, true), (3, true), (4, true), (5, false), (6, true), (7, true), (8, false), (9, false)] mixed_ok (by kernel_rfl) (rj_v rfl rfl (v_loadNB 3 ty_28 rfl rfl rfl rfl) rfl (rj_v rfl rfl (v_fieldAddr fd_28_1 ty_25 (by decide) rfl) rfl (rj_v rfl rfl (v_loadB 0 ty_25 rfl rfl rfl) rfl ?_)))))); obtain ⟨t29, a29, b29, c29, ht29, hcs29, rl29, rd29, rx29⟩ := hc_T_13 (0) (by first | omega | (rw [List.length_set]; omega));  have hn0 : ts.length ≠ 0 := (fun e => c22 (by rw [hout.2.2.2.2 e]; rfl)); obtain ⟨hfin, hlast⟩ := hcon.last hn0; have hol : (outTo k p n ts op ss ss.length).length = 1 := (by rw [hlast]; rfl)
      refine rj_v rfl rfl (v_indexAddr Tryz.underlying25 ty_40 rfl rfl rr_T_13 (by decide) (by omega) (by omega)) rfl ?_; refine rj_v rfl rfl (v_loadNE 1 ty_40 rfl rfl rr_T_13 (by have := rr_T_13.1; omega) rfl hcs29) rfl ?_; have e29 : t29 = lastT k p n ts op ss := (by rw [hlast] at ht29; simpa using ht29.symm); subst e29; refine rj_x rfl rfl (x_call rfl en_55 (fun w s => ct_i_FinishTensor _ _ _ _ _ _ _ _ _ _ _ w (r.mono (s.get 4 rfl)) (r'.mono (s.get 4 rfl)) (rl29.mono (s.get 1 rfl)) (rd29.mono (s.get 1 rfl)) (rx29.mono (s.get 1 rfl)) (by first | assumption | omega))) rfl ?_; rintro _ h31 ⟨va31, vb31, vc31, rfl, o31⟩; refine rj_v rfl rfl (v_extract rfl rfl) rfl (rj_v rfl rfl (v_extract rfl rfl) rfl ?_); refine rj_m 3 rfl rfl rfl rfl (m_store 3 ty_40 rfl rfl rfl rfl (by simp [o31.toR.1.sl.one, o31.toR.2.1.sl.one, o31.toR.2.2.sl.one]) rfl (Nat.le_of_ble_eq_true rfl)) rfl ?_; rintro _ _ ⟨rfl, rfl⟩; refine rj_fv rfl rfl (v_assign rfl) rfl (rj_end ?_); have hfb : finB k p n ts op (lastT k p n ts op ss) = true := by simp [finB, hfin]
      rw [finR, if_pos hfin] at o31; refine qs_n (wp_rt ?_); exact qs_retct 3 rfl ty_40 rfl rfl rfl rfl (fin_t 0 (i := 5) rfl rfl rfl (by rw [hfb]; exact ConYes hcon (by rw [conT, if_neg hn0]; exact o31)))
end Go.Proofs.YtdkgaejmgnojhaaGreat
namespace Go.Proofs.YtdkgaejmgnojhaaGreat
set_option maxRecDepth 100000
open Go.RowKit
theorem ct_i_PlainOrder (k p n : Int) (ts : List Ten) (op : List Int) (vt vo : Value) (w : World) (r : TensR ts vt (hp w)) (r' : IntsR op vo (hp w)) (hs : op.length ≤ 1048576) :
    Calls Tryz.prog 30 [netV k p n vt vo].toArray w (Ret w emp (StepsO (ifB (netB k p n ts op) (plainL ts.length) []))) := by
  refine calls_in Tryz.func30 rfl Tryz.ntmps30 rfl (Sat.start w) ?_; have hle0 := r.le; obtain ⟨cs_r, rr_r, hc_r⟩ := r.at; have hle1 := r'.le; refine wp_sc (wp_sq ?_); refine sq_x rfl (x_box rfl rfl) rfl ?_; rintro _ _ ⟨b1, rfl, rfl⟩; refine sq_v rfl (v_assign rfl) rfl (sq_end (qs_n (wp_sc (wp_sc (wp_sq (sq_v rfl (v_loadNB 0 ty_28 rfl rfl rfl rfl) rfl (sq_u rfl (x_callv rfl en_26 (fun w s => ct_i_NetworkOk _ _ _ _ _ _ _ w (r.mono (s.get 1 rfl)) (r'.mono (s.get 1 rfl)) (by first | assumption | omega))) rfl (sq_v rfl (v_not rfl) rfl (sq_end (qs_n ?_)))))))))); refine wp_cn _ rfl (fun c8 => ?_) (fun c8 => ?_)
  · refine wp_sc (wp_sq (sq_v rfl (v_assign rfl) rfl (sq_end (qs_n (wp_rt (qs_r ?_)))))); exact qs_ret1 rfl rfl (fin_e (i := 1) rfl (by rw [c8]; exact StepsO.nil))
  · refine wp_sk (qs_n (wp_sc (wp_sq (sq_v rfl (v_assign rfl) rfl (sq_end (qs_n (wp_sc (wp_sq (sq_v rfl (v_fieldAddr fd_28_1 ty_25 (by decide) rfl) rfl (sq_v rfl (v_loadB 0 ty_25 rfl rfl rfl) rfl (sq_v rfl (v_len Tryz.underlying25 rfl r.sl) rfl (sq_v rfl (v_assign rfl) rfl (sq_end (qs_n (wp_sc (wp_sc (wp_sq (sq_v rfl (v_assign rfl) rfl (sq_end (qs_n (wp_bl ?_))))))))))))))))))))); refine wp_lp (σ := Nat × Value × PH) (fun z_ => [(2, .slice none 0 0), (3, z_.2.1), (4, num ts.length), (5, num z_.1)]) (fun z_ => [z_.2.2, box b1 [num k, num p, num n, vt, vo] 28, hp w]) (fun z_ => z_.1 ≤ ts.length - 1 ∧ StepsO (plainTo ts.length z_.1) z_.2.1 z_.2.2) (fun z_ => ts.length - 1 - z_.1) (0, .slice none 0 0, emp) (⟨by (try dsimp only); omega, StepsO.nil⟩) ⟨rfl, (by first | rfl | exact ksub rfl (by first | omega | (simp; done) | (simp; omega))), rfl, (by first | rfl | exact ksub rfl (by first | omega | (simp; done) | (simp; omega))), trivial⟩ (fun _ s => (emp_sat s)) ?_; rintro ⟨i, lv, lh⟩ ⟨hi, q⟩; dsimp only at hi q ⊢; obtain ⟨cs_q, rr_q, hc_q⟩ := q.toR.at; have hle_q := q.toR.le; have hpl := plain_len ts.length i; have h12 := (netB_true.1 c8).2.1; refine wp_sc (wp_sc (wp_sq (sq_v rfl (v_move rfl) rfl (sq_v rfl (v_move rfl) rfl ?_)))); refine sq_v rfl (v_sub rfl rfl ((by unfold I64; omega))) rfl ?_; refine sq_v rfl (v_lss rfl rfl) rfl (sq_end (qs_n ?_)); refine wp_cd rfl (fun c15 => ?_) (fun c15 => ?_)
    · refine wp_sk (qs_n (wp_sc (wp_bl (wp_sc (wp_sq (sq_v rfl (v_move rfl) rfl (sq_v rfl (v_eql rfl rfl) rfl (sq_end (qs_n ?_))))))))); refine wp_cd rfl (fun c19 => ?_) (fun c19 => ?_)
      · refine wp_sq (sq_v rfl (v_move rfl) rfl (sq_v rfl (v_build [num 0, num 1] rfl (by kernel_rfl)) rfl ?_)); refine sq_x rfl (x_buildS [.agg [num 0, num 1].toArray] Tryz.underlying65 ty_92 (by decide) rfl rfl rfl (by decide) (by decide) (by intro v hv; simp at hv; subst hv; rfl)) rfl ?_; intro v22 h22 (r22 : RowO 92 [num 0, num 1] 1 2 v22 h22); refine sq_m 1 rfl rfl (m_appS (ss := (plainTo ts.length i)) (us := ([⟨(0), (1)⟩] : List Stp)) 1 0 Tryz.underlying65 ty_92 rfl rfl rfl rfl q rfl r22.toR (by first | omega | (simp; omega) | (simp only [List.length_append, List.length_cons, List.length_nil]; omega) | (rw [List.length_set]; omega))) rfl ?_; intro v23 h_r23 r23; obtain ⟨cs_S_23, rr_S_23, hc_S_23⟩ := r23.toR.at; refine sq_v rfl (v_assign rfl) rfl (sq_end (qs_bn (qs_n (wp_sq (sq_v rfl (v_move rfl) rfl ?_))))); refine sq_v rfl (v_add rfl rfl ((by unfold I64; omega))) rfl ?_; refine sq_v rfl (v_assign rfl) rfl (sq_end ?_); exact qs_bk (i + 1, v23, h_r23) ⟨by (try dsimp only); omega, by (try dsimp only); rw [plain_step, plainAt, if_pos (by omega)]; exact r23⟩ (by simp only; omega) ⟨rfl, (by first | rfl | exact ksub rfl (by first | omega | (simp; done) | (simp; omega))), rfl, (by first | rfl | exact ksub rfl (by first | omega | (simp; done) | (simp; omega))), trivial⟩ (fun _ s => s.pick [1, 2, 3] (by decide) rfl)
      · refine wp_sq (sq_v rfl (v_move rfl) rfl (sq_v rfl (v_move rfl) rfl ?_)); refine sq_v rfl (v_add rfl rfl ((by unfold I64; omega))) rfl ?_; refine sq_v rfl (v_move rfl) rfl (sq_v rfl (v_move rfl) rfl ?_); refine sq_v rfl (v_add rfl rfl ((by unfold I64; omega))) rfl ?_; refine sq_v rfl (v_sub rfl rfl ((by unfold I64; omega))) rfl ?_; refine sq_v rfl (v_build [num (i + 1), num ((ts.length + i) - 1)] rfl (by kernel_rfl)) rfl ?_; refine sq_x rfl (x_buildS [.agg [num (i + 1), num ((ts.length + i) - 1)].toArray] Tryz.underlying65 ty_92 (by decide) rfl rfl rfl (by decide) (by decide) (by intro v hv; simp at hv; subst hv; rfl)) rfl ?_; intro v32 h32 (r32 : RowO 92 [num (i + 1), num ((ts.length + i) - 1)] 1 2 v32 h32); refine sq_m 1 rfl rfl (m_appS (ss := (plainTo ts.length i)) (us := ([⟨(i + 1), ((ts.length + i) - 1)⟩] : List Stp)) 1 0 Tryz.underlying65 ty_92 rfl rfl rfl rfl q rfl r32.toR (by first | omega | (simp; omega) | (simp only [List.length_append, List.length_cons, List.length_nil]; omega) | (rw [List.length_set]; omega))) rfl ?_; intro v33 h_r33 r33; obtain ⟨cs_S_33, rr_S_33, hc_S_33⟩ := r33.toR.at; refine sq_v rfl (v_assign rfl) rfl (sq_end (qs_bn (qs_n (wp_sq (sq_v rfl (v_move rfl) rfl ?_))))); refine sq_v rfl (v_add rfl rfl ((by unfold I64; omega))) rfl ?_; refine sq_v rfl (v_assign rfl) rfl (sq_end ?_); exact qs_bk (i + 1, v33, h_r33) ⟨by (try dsimp only); omega, by (try dsimp only); rw [plain_step, plainAt, if_neg (by omega)]; exact r33⟩ (by simp only; omega) ⟨rfl, (by first | rfl | exact ksub rfl (by first | omega | (simp; done) | (simp; omega))), rfl, (by first | rfl | exact ksub rfl (by first | omega | (simp; done) | (simp; omega))), trivial⟩ (fun _ s => s.pick [1, 2, 3] (by decide) rfl)
    · refine wp_ex (qs_x (qs_x (qs_bx (qs_n (wp_sc (wp_sq (sq_v rfl (v_move rfl) rfl (sq_v rfl (v_assign rfl) rfl (sq_end (qs_n (wp_rt ?_))))))))))); exact qs_ret1 rfl rfl (fin_t 0 (i := 2) rfl rfl rfl (by rw [c8]; show StepsO (plainL ts.length) _ _; rw [plainL, show ts.length - 1 = i by omega]; exact q))
/-- A network with other open labels. -/
def opnP (k p n : Int) (ts : List Ten) (op os : List Int) : Prop := netL k p n ts op ∧ netL k p n ts os
open Classical in
noncomputable def opnB (k p n : Int) (ts : List Ten) (op os : List Int) : Bool := decide (opnP k p n ts op os)
theorem opnB_true {k p n : Int} {ts : List Ten} {op os : List Int} : opnB k p n ts op os = true ↔ opnP k p n ts op os := by simp [opnB]
theorem opnB_false {k p n : Int} {ts : List Ten} {op os : List Int} : opnB k p n ts op os = false ↔ ¬ opnP k p n ts op os := by simp [opnB]
theorem OpnNo {k p n : Int} {ts : List Ten} {op os : List Int} (h : ¬ opnP k p n ts op os) : NetB (ifB (opnB k p n ts op os) k 0) (ifB (opnB k p n ts op os) p 0) (ifB (opnB k p n ts op os) n 0) (ifB (opnB k p n ts op os) ts []) (ifB (opnB k p n ts op os) os []) (opnB k p n ts op os) (.tuple [netV 0 0 0 (.slice none 0 0) (.slice none 0 0), .bool false].toArray) emp := by
  rw [opnB_false.2 h]; exact ⟨_, _, rfl, NetO.nil⟩
theorem OpnYes {k p n : Int} {ts : List Ten} {op os : List Int} {vt vo : Value} {g : PH} (h : opnP k p n ts op os) (r : NetO ts os vt vo g) : NetB (ifB (opnB k p n ts op os) k 0) (ifB (opnB k p n ts op os) p 0) (ifB (opnB k p n ts op os) n 0) (ifB (opnB k p n ts op os) ts []) (ifB (opnB k p n ts op os) os []) (opnB k p n ts op os) (.tuple [netV k p n vt vo, .bool true].toArray) g := by
  rw [opnB_true.2 h]; exact ⟨_, _, rfl, r⟩
set_option maxHeartbeats 2000000 in
theorem ct_i_OpenNetwork (k p n : Int) (ts : List Ten) (op os : List Int) (vt vo v : Value) (w : World) (r : TensR ts vt (hp w)) (r' : IntsR op vo (hp w)) (ro : IntsR os v (hp w)) (hs : op.length ≤ 1048576) (hss : os.length ≤ 1048576) :
    Calls Tryz.prog 8 [netV k p n vt vo, v].toArray w (Ret w emp (NetB (ifB (opnB k p n ts op os) k 0) (ifB (opnB k p n ts op os) p 0) (ifB (opnB k p n ts op os) n 0) (ifB (opnB k p n ts op os) ts []) (ifB (opnB k p n ts op os) os []) (opnB k p n ts op os))) := by
  refine calls_in Tryz.func8 rfl Tryz.ntmps8 rfl (Sat.start w) ?_; have hle0 := r.le; obtain ⟨cs_r, rr_r, hc_r⟩ := r.at; have hle1 := r'.le; have hle2 := ro.le; refine wp_sc (wp_sq ?_); refine sq_x rfl (x_box rfl rfl) rfl ?_; rintro _ _ ⟨b2, rfl, rfl⟩; refine sq_x rfl (x_alloc ty_28 rfl) rfl ?_; rintro _ _ ⟨b4, rfl, rfl⟩; refine sq_v rfl (v_assign rfl) rfl (sq_end (qs_n (wp_sc (wp_sc (wp_sq (sq_v rfl (v_loadNB 1 ty_28 rfl rfl rfl rfl) rfl (sq_u rfl (x_callv rfl en_26 (fun w s => ct_i_NetworkOk _ _ _ _ _ _ _ w (r.mono (s.get 2 rfl)) (r'.mono (s.get 2 rfl)) (by first | assumption | omega))) rfl (sq_v rfl (v_not rfl) rfl (sq_end (qs_n ?_)))))))))); refine wp_cn _ rfl (fun c9 => ?_) (fun c9 => ?_)
  · refine wp_sc (wp_sq (sq_v rfl (v_build [num 0, num 0, num 0, .slice none 0 0, .slice none 0 0] rfl (by kernel_rfl)) rfl ?_)); refine sq_m 0 rfl rfl (m_store 0 ty_28 rfl rfl rfl rfl (by simp [one_int, one_sl]) rfl (Nat.le_of_ble_eq_true rfl)) rfl ?_; rintro _ _ ⟨rfl, rfl⟩; refine sq_v rfl (v_assign rfl) rfl (sq_end (qs_n (wp_rt (qs_r ?_)))); exact qs_retct 0 rfl ty_28 rfl rfl rfl rfl (fin_e (i := 2) rfl (OpnNo (fun h => netB_false.1 c9 h.1)))
  · refine wp_sk (qs_n (wp_sc (wp_sq ?_))); have hnet := netB_true.1 c9; refine sq_v rfl (v_loadNB 1 ty_28 rfl rfl rfl rfl) rfl ?_; refine sq_x rfl (x_call rfl en_31 (fun w s => ct_i_copyNetwork _ _ _ _ _ _ _ w (r.mono (s.get 2 rfl)) (r'.mono (s.get 2 rfl)) (by first | assumption | omega) (by first | assumption | omega))) rfl ?_; rintro _ h12 ⟨vt12, vo12, rfl, o12⟩; obtain ⟨cs_T_12, rr_T_12, hc_T_12⟩ := o12.toR.1.at; refine sq_x rfl (x_alloc ty_28 rfl) rfl ?_; rintro _ _ ⟨b6, rfl, rfl⟩; refine sq_m 0 rfl rfl (m_store 0 ty_28 rfl rfl rfl rfl (by simp [one_int, o12.toR.1.sl.one, o12.toR.2.sl.one]) rfl (Nat.le_of_ble_eq_true rfl)) rfl ?_; rintro _ _ ⟨rfl, rfl⟩; refine sq_end (qs_n (wp_sc (wp_sq (sq_v rfl (v_move rfl) rfl ?_)))); refine sq_x rfl (x_call rfl en_32 (fun w s => ct_i_copyInts _ _ w (ro.mono (s.get 4 rfl)) (by first | assumption | omega))) rfl ?_; rintro v14 h14 r14; refine sq_v rfl (v_fieldAddr fd_28_2 ty_26 (by decide) rfl) rfl ?_; refine sq_m 1 rfl rfl (m_store1 1 ty_26 rfl rfl r14.toR.sl.one rfl (Nat.le_of_ble_eq_true rfl)) rfl ?_; rintro _ _ ⟨rfl, rfl⟩; refine sq_end (qs_n (wp_sc (wp_sc (wp_sq (sq_v rfl (v_loadNB 1 ty_28 rfl rfl rfl rfl) rfl (sq_u rfl (x_callv rfl en_26 (fun w s => ct_i_NetworkOk _ _ _ _ _ _ _ w (o12.toR.1.mono (s.get 2 rfl)) (r14.toR.mono (s.get 0 rfl)) (by first | assumption | omega))) rfl (sq_v rfl (v_not rfl) rfl (sq_end (qs_n ?_))))))))); refine wp_cn _ rfl (fun c18 => ?_) (fun c18 => ?_)
    · refine wp_sc (wp_sq (sq_v rfl (v_build [num 0, num 0, num 0, .slice none 0 0, .slice none 0 0] rfl (by kernel_rfl)) rfl ?_)); refine sq_m 3 rfl rfl (m_store 3 ty_28 rfl rfl rfl rfl (by simp [one_int, one_sl]) rfl (Nat.le_of_ble_eq_true rfl)) rfl ?_; rintro _ _ ⟨rfl, rfl⟩; refine sq_v rfl (v_assign rfl) rfl (sq_end (qs_n (wp_rt (qs_r ?_)))); exact qs_retct 3 rfl ty_28 rfl rfl rfl rfl (fin_e (i := 5) rfl (OpnNo (fun h => netB_false.1 c18 h.2)))
    · refine wp_sk (qs_n (wp_sc (wp_sq (sq_v rfl (v_loadNB 1 ty_28 rfl rfl rfl rfl) rfl ?_)))); refine sq_m 3 rfl rfl (m_store 3 ty_28 rfl rfl rfl rfl (by simp [one_int, o12.toR.1.sl.one, r14.toR.sl.one]) rfl (Nat.le_of_ble_eq_true rfl)) rfl ?_; rintro _ _ ⟨rfl, rfl⟩; refine sq_v rfl (v_assign rfl) rfl (sq_end (qs_n (wp_rt ?_))); obtain ⟨cs0, g0, go, gl, rr0, roo, oh, md12⟩ := o12.split; refine qs_close [box b4 [num k, num p, num n, vt12, v14] 28, hp w] [g0, h14, gl] (fun _ s => (Sat.open (A := [box b4 [num k, num p, num n, vt12, v14] 28, hp w, h14]) md12 (s.pick [2, 3, 5, 0] (by decide) rfl)).pick [0, 1, 3, 2, 5] (by decide) rfl) (fun md => ?_); exact qs_retct 1 rfl ty_28 rfl rfl rfl rfl (fin_t 0 (i := 2) rfl rfl rfl (OpnYes ⟨hnet, netB_true.1 c18⟩ (NetO.join rr0 r14 oh md)))
end Go.Proofs.YtdkgaejmgnojhaaGreat
namespace Go.Proofs.YtdkgaejmgnojhaaGreat
set_option maxRecDepth 100000
open Go.RowKit
theorem ct_L_iCon (k p n : Int) (ts : List Ten) (op : List Int) (vt vo v : Value) (w : World) (r : TensR ts vt (hp w)) (r' : IntsR op vo (hp w)) (rv : StepsR (plainL ts.length) v (hp w)) (hs : op.length ≤ 1048576) :
    Calls Tryz.prog 29 [netV k p n vt vo, v].toArray w (Ret w emp (TenB (conR k p n ts op (plainL ts.length)) (conB k p n ts op (plainL ts.length)))) :=
  ct_i_Contract k p n ts op _ vt vo v w r r' rv hs
theorem ct_u_PlainOrder (k p n : Int) (ts : List Ten) (op : List Int) (vt vo : Value) (w : World) (r : TensR ts vt (hp w)) (r' : IntsR op vo (hp w)) (hs : op.length ≤ 1048576) (hn : netL k p n ts op) :
    Calls Tryz.prog 30 [netV k p n vt vo].toArray w (Ret w emp (StepsO (plainL ts.length))) := by
  have := ct_i_PlainOrder k p n ts op vt vo w r r' hs; rw [netB_true.2 hn] at this; exact this
theorem TriO.x {t : Ten} {a b c : Value} {h : PH} (r : TriO t a b c h) : ∃ g, PLe g h ∧ IntsO t.x c g := by
  obtain ⟨h1, h2, h3, r1, r2, r3, m⟩ := r; exact ⟨h3, m.le _ (by simp), r3⟩
set_option maxHeartbeats 2000000 in
theorem ct_i_TotalOf (k p n : Int) (ts : List Ten) (op : List Int) (vt vo : Value) (w : World) (r : TensR ts vt (hp w)) (r' : IntsR op vo (hp w)) (hs : op.length ≤ 1048576) :
    Calls Tryz.prog 7 [netV k p n vt vo].toArray w (Ret w emp (IntsB (totX k p n ts op) (totB k p n ts op))) := by
  refine calls_in Tryz.func7 rfl Tryz.ntmps7 rfl (Sat.start w) ?_; have hle0 := r.le; obtain ⟨cs_r, rr_r, hc_r⟩ := r.at; have hle1 := r'.le; refine wp_sc (wp_sq ?_); refine sq_x rfl (x_box rfl rfl) rfl ?_; rintro _ _ ⟨b1, rfl, rfl⟩; refine sq_v rfl (v_assign rfl) rfl (sq_v rfl (v_assign rfl) rfl (sq_end (qs_n (wp_sc (wp_sq (sq_v rfl (v_loadNB 0 ty_28 rfl rfl rfl rfl) rfl ?_)))))); refine sq_x rfl (x_call rfl en_8 (fun w s => ct_i_OpenNetwork _ _ _ _ _ [] _ _ _ w (r.mono (s.get 1 rfl)) (r'.mono (s.get 1 rfl)) (IntsR.nil _) (by first | assumption | omega) (Nat.zero_le _))) rfl ?_; rintro _ h10 ⟨vt10, vo10, rfl, o10⟩; obtain ⟨cs_T_10, rr_T_10, hc_T_10⟩ := o10.toR.1.at; refine sq_v rfl (v_move rfl) rfl (sq_v rfl (v_extract rfl rfl) rfl (sq_v rfl (v_extract rfl rfl) rfl ?_)); refine sq_x rfl (x_alloc ty_28 rfl) rfl ?_; rintro _ _ ⟨b4, rfl, rfl⟩; refine sq_m 0 rfl rfl (m_store 0 ty_28 rfl rfl rfl rfl (by simp [one_int, o10.toR.1.sl.one, o10.toR.2.sl.one]) rfl (Nat.le_of_ble_eq_true rfl)) rfl ?_; rintro _ _ ⟨rfl, rfl⟩; refine sq_v rfl (v_assign rfl) rfl (sq_end (qs_n (wp_sc (wp_sc (wp_sq (sq_v rfl (v_move rfl) rfl (sq_v rfl (v_not rfl) rfl (sq_end (qs_n ?_))))))))); refine wp_cn _ rfl (fun c14 => ?_) (fun c14 => ?_)
  · refine wp_sc (wp_sq (sq_v rfl (v_assign rfl) rfl (sq_v rfl (v_assign rfl) rfl (sq_end (qs_n (wp_rt (qs_r ?_))))))); exact qs_ret2 rfl rfl rfl (fin_e (i := 3) rfl (TotNo (fun h => opnB_false.1 c14 ⟨h.1, net_nil h.1⟩)))
  · refine wp_sk (qs_n (wp_sc ?_)); refine wp_ra (σ := Nat × PH × PH × Value × Value × Value × Value × Value × Value) 9 (fun z_ => StepsO (plainL (ts).length) z_.2.2.2.1 z_.2.2.1 ∧ NetO (ts) ([]) z_.2.2.2.2.1 z_.2.2.2.2.2.1 h10 ∧ TriO (conR k p n ts [] (plainL ts.length)) z_.2.2.2.2.2.2.1 z_.2.2.2.2.2.2.2.1 z_.2.2.2.2.2.2.2.2 z_.2.1) (fun z_ => [(2, .slice none 0 0), (3, .bool false), (6, .pointer (some ⟨z_.1, 0, none⟩)), (7, .bool (conB k p n ts [] (plainL ts.length))), (14, .bool (!(opnB k p n ts op [])))]) (fun z_ => [box z_.1 [z_.2.2.2.2.2.2.1, z_.2.2.2.2.2.2.2.1, z_.2.2.2.2.2.2.2.2] 40, z_.2.1, z_.2.2.1, box b4 [num (k), num (p), num (n), z_.2.2.2.2.1, z_.2.2.2.2.2.1] 28, h10, box b1 [num k, num p, num n, vt, vo] 28, hp w]) mixed_ok (by kernel_rfl) ?_ ?_
    · refine rak_of ?_; have hop := opnB_true.1 c14; have h12 := hop.1.2.1; have ek : ifB (opnB k p n ts op []) k 0 = k := (by rw [c14]; rfl); have ep : ifB (opnB k p n ts op []) p 0 = p := (by rw [c14]; rfl); have en : ifB (opnB k p n ts op []) n 0 = n := (by rw [c14]; rfl); rw [ek, ep, en]; rw [c14] at o10; refine rak_v (i := 0) (by kernel_rfl) rfl rfl (v_loadNB 0 ty_28 rfl rfl rfl rfl) rfl (rak_v (i := 1) (by kernel_rfl) rfl rfl (v_loadNB 0 ty_28 rfl rfl rfl rfl) rfl ?_); refine rak_2 (i := 2) (j := 7) (by kernel_rfl) ?_ ?_
      · refine rok_x rfl rfl (x_call rfl en_30 (fun w s => ct_u_PlainOrder _ _ _ _ [] _ _ w (o10.toR.1.mono (s.get 1 rfl)) (o10.toR.2.mono (s.get 1 rfl)) (Nat.zero_le _) hop.2)) rfl ?_; rintro v18 h18 r18; obtain ⟨cs_S_18, rr_S_18, hc_S_18⟩ := r18.toR.at; refine rak_2 (i := 3) (j := 7) (by kernel_rfl) ?_ ?_
        · refine rok_x rfl rfl (x_call rfl en_29 (fun w s => ct_L_iCon _ _ _ ts [] _ _ _ w (o10.toR.1.mono (s.get 2 rfl)) (o10.toR.2.mono (s.get 2 rfl)) (r18.toR.mono (s.get 0 rfl)) (Nat.zero_le _))) rfl ?_; rintro _ h19 ⟨va19, vb19, vc19, rfl, o19⟩; refine rak_rk [(4, true), (5, true), (6, true), (7, false), (8, false), (9, false)] (by kernel_rfl) rfl (rk_v rfl rfl (v_move rfl) rfl (rk_v rfl rfl (v_extract rfl rfl) rfl (rk_v rfl rfl (v_extract rfl rfl) rfl ?_))); refine rk_xb rfl rfl (x_alloc ty_40 rfl) rfl ?_; rintro _ _ ⟨b6, rfl, rfl⟩; refine rk_m 0 rfl rfl rfl rfl (m_store 0 ty_40 rfl rfl rfl rfl (by simp [o19.toR.1.sl.one, o19.toR.2.1.sl.one, o19.toR.2.2.sl.one]) rfl (Nat.le_of_ble_eq_true rfl)) rfl ?_; rintro _ _ ⟨rfl, rfl⟩; refine rk_fv rfl rfl (v_assign rfl) rfl (rk_end ?_); exact qs_mid (b6, h19, h18, v18, vt10, vo10, va19, vb19, vc19) ⟨r18, o10, o19⟩ ⟨rfl, rfl, rfl, rfl, rfl, trivial⟩ (fun _ s => s.pick [0, 1, 2, 3, 4, 5, 6] (by decide) rfl)
        · refine rok_xb rfl rfl (x_alloc ty_40 rfl) rfl ?_; rintro _ _ ⟨b6, rfl, rfl⟩; refine rak_rk [(3, false), (4, true), (5, true), (6, true), (8, false), (9, false)] (by kernel_rfl) rfl ?_; refine rk_x rfl rfl (x_call rfl en_29 (fun w s => ct_L_iCon _ _ _ ts [] _ _ _ w (o10.toR.1.mono (s.get 3 rfl)) (o10.toR.2.mono (s.get 3 rfl)) (r18.toR.mono (s.get 1 rfl)) (Nat.zero_le _))) rfl ?_; rintro _ h19 ⟨va19, vb19, vc19, rfl, o19⟩; refine rk_v rfl rfl (v_move rfl) rfl (rk_v rfl rfl (v_extract rfl rfl) rfl (rk_v rfl rfl (v_extract rfl rfl) rfl ?_)); refine rk_m 1 rfl rfl rfl rfl (m_store 1 ty_40 rfl rfl rfl rfl (by simp [o19.toR.1.sl.one, o19.toR.2.1.sl.one, o19.toR.2.2.sl.one]) rfl (Nat.le_of_ble_eq_true rfl)) rfl ?_; rintro _ _ ⟨rfl, rfl⟩; refine rk_fv rfl rfl (v_assign rfl) rfl (rk_end ?_); exact qs_mid (b6, h19, h18, v18, vt10, vo10, va19, vb19, vc19) ⟨r18, o10, o19⟩ ⟨rfl, rfl, rfl, rfl, rfl, trivial⟩ (fun _ s => s.pick [1, 0, 2, 3, 4, 5, 6] (by decide) rfl)
      · refine rok_xb rfl rfl (x_alloc ty_40 rfl) rfl ?_; rintro _ _ ⟨b6, rfl, rfl⟩; refine rak_rk [(2, false), (3, false), (4, true), (5, true), (6, true), (8, false), (9, false)] (by kernel_rfl) rfl ?_; refine rk_x rfl rfl (x_call rfl en_30 (fun w s => ct_u_PlainOrder _ _ _ _ [] _ _ w (o10.toR.1.mono (s.get 2 rfl)) (o10.toR.2.mono (s.get 2 rfl)) (Nat.zero_le _) hop.2)) rfl ?_; rintro v18 h18 r18; obtain ⟨cs_S_18, rr_S_18, hc_S_18⟩ := r18.toR.at; refine rk_x rfl rfl (x_call rfl en_29 (fun w s => ct_L_iCon _ _ _ ts [] _ _ _ w (o10.toR.1.mono (s.get 3 rfl)) (o10.toR.2.mono (s.get 3 rfl)) (r18.toR.mono (s.get 0 rfl)) (Nat.zero_le _))) rfl ?_; rintro _ h19 ⟨va19, vb19, vc19, rfl, o19⟩; refine rk_v rfl rfl (v_move rfl) rfl (rk_v rfl rfl (v_extract rfl rfl) rfl (rk_v rfl rfl (v_extract rfl rfl) rfl ?_)); refine rk_m 2 rfl rfl rfl rfl (m_store 2 ty_40 rfl rfl rfl rfl (by simp [o19.toR.1.sl.one, o19.toR.2.1.sl.one, o19.toR.2.2.sl.one]) rfl (Nat.le_of_ble_eq_true rfl)) rfl ?_; rintro _ _ ⟨rfl, rfl⟩; refine rk_fv rfl rfl (v_assign rfl) rfl (rk_end ?_); exact qs_mid (b6, h19, h18, v18, vt10, vo10, va19, vb19, vc19) ⟨r18, o10, o19⟩ ⟨rfl, rfl, rfl, rfl, rfl, trivial⟩ (fun _ s => s.pick [2, 0, 1, 3, 4, 5, 6] (by decide) rfl)
    · rintro ⟨b6, h19, h18, v18, vt10, vo10, va19, vb19, vc19⟩ ⟨r18, o10, o19⟩; dsimp only at r18 o10 o19 ⊢; refine qs_n (wp_sc (wp_sc (wp_sq (sq_v rfl (v_move rfl) rfl (sq_v rfl (v_not rfl) rfl (sq_end (qs_n ?_))))))); refine wp_cn _ rfl (fun c23 => ?_) (fun c23 => ?_)
      · refine wp_sc (wp_sq (sq_v rfl (v_assign rfl) rfl (sq_v rfl (v_assign rfl) rfl (sq_end (qs_n (wp_rt (qs_r ?_))))))); exact qs_ret2 rfl rfl rfl (fin_e (i := 6) rfl (TotNo (fun h => conB_false.1 c23 h.2)))
      · refine wp_sk (qs_n (wp_sc (wp_sq (sq_v rfl (v_fieldAddr fd_40_2 ty_26 (by decide) rfl) rfl (sq_v rfl (v_loadB 0 ty_26 rfl rfl rfl) rfl (sq_v rfl (v_assign rfl) rfl (sq_v rfl (v_assign rfl) rfl (sq_end (qs_n (wp_rt ?_)))))))))); have hc := conB_true.1 c23; rw [conR, if_pos hc] at o19; obtain ⟨g, hg, rg⟩ := o19.x; refine qs_s [g, hp w] (fun _ s => (s.pick (HS' := [h19, hp w]) [1, 6] (by decide) rfl).less (i := 0) rfl hg) ?_; exact qs_ret2 rfl rfl rfl (fin_t 0 (i := 1) rfl rfl rfl (TotYes ⟨(opnB_true.1 c14).1, hc⟩ rg))
end Go.Proofs.YtdkgaejmgnojhaaGreat
namespace Go.Proofs.YtdkgaejmgnojhaaGreat
set_option maxRecDepth 100000
open Go.RowKit
set_option maxHeartbeats 2000000 in
theorem ct_i_Marginal (k p n x : Int) (ts : List Ten) (op : List Int) (vt vo : Value) (w : World) (r : TensR ts vt (hp w)) (r' : IntsR op vo (hp w)) (hs : op.length ≤ 1048576) :
    Calls Tryz.prog 12 [netV k p n vt vo, num x].toArray w (Ret w emp (TenB (marR k p n ts op x) (marB k p n ts op x))) := by
  refine calls_in Tryz.func12 rfl Tryz.ntmps12 rfl (Sat.start w) ?_; have hle0 := r.le; obtain ⟨cs_r, rr_r, hc_r⟩ := r.at; have hle1 := r'.le; refine wp_sc (wp_sq ?_); refine sq_x rfl (x_box rfl rfl) rfl ?_; rintro _ _ ⟨b2, rfl, rfl⟩; refine sq_x rfl (x_alloc ty_40 rfl) rfl ?_; rintro _ _ ⟨b4, rfl, rfl⟩; refine sq_v rfl (v_assign rfl) rfl (sq_end (qs_n (wp_sc (wp_sq (sq_v rfl (v_loadNB 1 ty_28 rfl rfl rfl rfl) rfl (sq_v rfl (v_move rfl) rfl ?_)))))); refine sq_x rfl (x_buildS [num (x)] Tryz.underlying26 ty_3 (by decide) rfl rfl rfl (by decide) (by decide) (by intro v hv; simp at hv; rcases hv with rfl <;> rfl)) rfl ?_; intro v11 h11 (r11 : IntsO [x] v11 h11); refine sq_x rfl (x_call rfl en_8 (fun w s => ct_i_OpenNetwork _ _ _ _ _ _ _ _ _ w (r.mono (s.get 3 rfl)) (r'.mono (s.get 3 rfl)) (r11.toR.mono (s.get 0 rfl)) (by first | assumption | omega) (Nat.le_of_ble_eq_true rfl))) rfl ?_; rintro _ h12 ⟨vt12, vo12, rfl, o12⟩; obtain ⟨cs_T_12, rr_T_12, hc_T_12⟩ := o12.toR.1.at; refine sq_v rfl (v_move rfl) rfl (sq_v rfl (v_extract rfl rfl) rfl (sq_v rfl (v_extract rfl rfl) rfl ?_)); refine sq_x rfl (x_alloc ty_28 rfl) rfl ?_; rintro _ _ ⟨b6, rfl, rfl⟩; refine sq_m 0 rfl rfl (m_store 0 ty_28 rfl rfl rfl rfl (by simp [one_int, o12.toR.1.sl.one, o12.toR.2.sl.one]) rfl (Nat.le_of_ble_eq_true rfl)) rfl ?_; rintro _ _ ⟨rfl, rfl⟩; refine sq_v rfl (v_assign rfl) rfl (sq_end (qs_n (wp_sc (wp_sc (wp_sq (sq_v rfl (v_move rfl) rfl (sq_v rfl (v_not rfl) rfl (sq_end (qs_n ?_))))))))); refine wp_cn _ rfl (fun c16 => ?_) (fun c16 => ?_)
  · refine wp_sc (wp_sq (sq_v rfl (v_build [.slice none 0 0, .slice none 0 0, .slice none 0 0] rfl (by kernel_rfl)) rfl ?_)); refine sq_m 3 rfl rfl (m_store 3 ty_40 rfl rfl rfl rfl (by simp [one_sl]) rfl (Nat.le_of_ble_eq_true rfl)) rfl ?_; rintro _ _ ⟨rfl, rfl⟩; refine sq_v rfl (v_assign rfl) rfl (sq_end (qs_n (wp_rt (qs_r ?_)))); exact qs_retct 3 rfl ty_40 rfl rfl rfl rfl (fin_e (i := 5) rfl (MarNo (fun h => opnB_false.1 c16 ⟨h.1, h.2.1.1⟩)))
  · refine wp_sk (qs_n (wp_sc (wp_rj 6 [(0, true), (1, true), (2, false), (3, false), (4, true), (5, true), (6, false), (7, false)] mixed_ok (by kernel_rfl) ?_))); have hop := opnB_true.1 c16; have h12 := hop.1.2.1; have ek : ifB (opnB k p n ts op [x]) k 0 = k := (by rw [c16]; rfl); have ep : ifB (opnB k p n ts op [x]) p 0 = p := (by rw [c16]; rfl); have en : ifB (opnB k p n ts op [x]) n 0 = n := (by rw [c16]; rfl); rw [ek, ep, en]; rw [c16] at o12; refine rj_v rfl rfl (v_loadNB 0 ty_28 rfl rfl rfl rfl) rfl (rj_v rfl rfl (v_loadNB 0 ty_28 rfl rfl rfl rfl) rfl ?_); refine rj_x rfl rfl (x_call rfl en_30 (fun w s => ct_u_PlainOrder _ _ _ _ [x] _ _ w (o12.toR.1.mono (s.get 1 rfl)) (o12.toR.2.mono (s.get 1 rfl)) (Nat.le_of_ble_eq_true rfl) hop.2)) rfl ?_; rintro v20 h20 r20; obtain ⟨cs_S_20, rr_S_20, hc_S_20⟩ := r20.toR.at; refine rj_x rfl rfl (x_call rfl en_29 (fun w s => ct_L_iCon _ _ _ ts [x] _ _ _ w (o12.toR.1.mono (s.get 2 rfl)) (o12.toR.2.mono (s.get 2 rfl)) (r20.toR.mono (s.get 0 rfl)) (Nat.le_of_ble_eq_true rfl))) rfl ?_; rintro _ h21 ⟨va21, vb21, vc21, rfl, o21⟩; refine rj_v rfl rfl (v_extract rfl rfl) rfl (rj_v rfl rfl (v_extract rfl rfl) rfl ?_); refine rj_m 5 rfl rfl rfl rfl (m_store 5 ty_40 rfl rfl rfl rfl (by simp [o21.toR.1.sl.one, o21.toR.2.1.sl.one, o21.toR.2.2.sl.one]) rfl (Nat.le_of_ble_eq_true rfl)) rfl ?_; rintro _ _ ⟨rfl, rfl⟩; refine rj_fv rfl rfl (v_assign rfl) rfl (rj_end (qs_n (wp_rt ?_))); exact qs_retct 5 rfl ty_40 rfl rfl rfl rfl (fin_t 0 (i := 7) rfl rfl rfl (by rw [(mar_con hop.1).1, (mar_con hop.1).2]; exact ⟨_, _, _, rfl, o21⟩))
end Go.Proofs.YtdkgaejmgnojhaaGreat
