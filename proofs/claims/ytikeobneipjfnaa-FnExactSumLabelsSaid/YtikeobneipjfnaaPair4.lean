/-
  The pair product of the program.
  Conditions: none.
-/
import Derived.Test.YtikeobneipjfnaaPair2
import Derived.Test.YtikeobneipjfnaaLaw7
namespace Go.Proofs.Ytikeobneipjfnaa
set_option maxRecDepth 100000
open Go.RowKit
theorem triO_none : TriO ⟨[], [], []⟩ (.slice none 0 0) (.slice none 0 0) (.slice none 0 0) emp :=
  ⟨emp, emp, emp, IntsO.nil, IntsO.nil, IntsO.nil, ⟨by simp [sepL, PDj.emp], fun x hx => by simp at hx; subst hx; exact PLe.emp _, fun k o e => by cases e⟩⟩
def keepL (t u : Ten) (ks : List Int) : List Int := (joinI t.l u.l).filter fun x => decide (x ∈ ks)
def pairP (k p n : Int) (t u : Ten) (ks : List Int) : Prop := tensorL k p n t.l t.d t.x ∧ tensorL k p n u.l u.d u.x ∧ ¬ mism t u ∧ prodI (joinD t u) ≤ 65536 ∧ 0 ≤ sizeI (keepL t u ks) ((keepL t u ks).map (dimJ t u))
open Classical in
noncomputable def pairB (k p n : Int) (t u : Ten) (ks : List Int) : Bool := decide (pairP k p n t u ks)
open Classical in
noncomputable def pairR (k p n : Int) (t u : Ten) (ks : List Int) : Ten := if pairP k p n t u ks then pairT k p n (dimJ t u) t u (keepL t u ks) else ⟨[], [], []⟩
theorem PairNo {k p n : Int} {t u : Ten} {ks : List Int} (h : ¬ pairP k p n t u ks) : TenB (pairR k p n t u ks) (pairB k p n t u ks) (.tuple [tenV (.slice none 0 0) (.slice none 0 0) (.slice none 0 0), .bool false].toArray) emp :=
  ⟨.slice none 0 0, .slice none 0 0, .slice none 0 0, by simp [pairB, h], by rw [pairR, if_neg h]; exact triO_none⟩
theorem PairYes {k p n : Int} {t u : Ten} {ks : List Int} {a b c : Value} {h : PH} (hp : pairP k p n t u ks) (r : TriO (pairT k p n (dimJ t u) t u (keepL t u ks)) a b c h) : TenB (pairR k p n t u ks) (pairB k p n t u ks) (.tuple [tenV a b c, .bool true].toArray) h :=
  ⟨a, b, c, by simp [pairB, hp], by rw [pairR, if_pos hp]; exact r⟩
theorem pairP.dims {k p n : Int} {t u : Ten} (h1 : tensorL k p n t.l t.d t.x) (h2 : tensorL k p n u.l u.d u.x) (h3 : ¬ mism t u) : t.d = t.l.map (dimJ t u) ∧ u.d = u.l.map (dimJ t u) ∧ joinD t u = (joinI t.l u.l).map (dimJ t u) := by
  have e1 := dimJ_l (u := u) (axes_nodup (ten_axes h1)) (ten_axes h1).2.1
  have e2 := dimJ_r (axes_nodup (ten_axes h2)) (ten_axes h2).2.1 h3
  exact ⟨e1, e2, joinD_map e1 e2⟩
theorem pair_ok {k p n : Int} {t u : Ten} (h1 : tensorL k p n t.l t.d t.x) (h2 : tensorL k p n u.l u.d u.x) (h3 : ¬ mism t u) (h4 : prodI (joinD t u) ≤ 65536) : PairOK k p n t u (dimJ t u) := by
  have e := pairP.dims h1 h2 h3
  exact ⟨h1, h2, e.1, e.2.1, by rw [← e.2.2]; exact h4⟩
theorem keep_ok {k p n : Int} {t u : Ten} {ks : List Int} (ok : PairOK k p n t u (dimJ t u)) (h : 0 ≤ sizeI (keepL t u ks) ((keepL t u ks).map (dimJ t u))) : KeepOK t u (dimJ t u) (keepL t u ks) :=
  ⟨fun l hl => (List.mem_filter.1 hl).1, List.Pairwise.filter _ ok.nd, (sizeI_ge.1 h).2⟩
theorem selP_prod (p : Int → Bool) : ∀ ls ds : List Int, (∀ d ∈ ds, 1 ≤ d) → 1 ≤ prodI (selP p ls ds) ∧ prodI (selP p ls ds) ≤ prodI ds
  | [], ds, h => by
    have := prodI_one h
    cases ds <;> simp [selP, prodI] at * <;> omega
  | l :: ls, [], _ => by simp [selP, prodI]
  | l :: ls, d :: ds, h => by
    have ih := selP_prod p ls ds (fun x hx => h x (by simp [hx]))
    have hd := h d (by simp)
    simp only [selP]
    have h1 : 1 * prodI ds ≤ d * prodI ds := Int.mul_le_mul_of_nonneg_right hd (by omega)
    split
    · rw [prodI_cons, prodI_cons]
      have h2 : d * prodI (selP p ls ds) ≤ d * prodI ds := Int.mul_le_mul_of_nonneg_left ih.2 (by omega)
      have h3 : 1 * 1 ≤ d * prodI (selP p ls ds) := Int.mul_le_mul hd ih.1 (by omega) (by omega)
      omega
    · rw [prodI_cons]; omega
theorem joinD_prod {k p n : Int} {t u : Ten} (h1 : tensorL k p n t.l t.d t.x) (h2 : tensorL k p n u.l u.d u.x) : dimsIn (joinD t u) ∧ 1 ≤ prodI (joinD t u) ∧ prodI (joinD t u) ≤ 16777216 := by
  have a1 := dims_mem (axes_dims (ten_axes h1))
  have a2 := dims_mem (axes_dims (ten_axes h2))
  have p1 := prodI_one fun d hd => (a1 d hd).1
  have s := selP_prod (fun x => decide (x ∉ t.l)) u.l u.d fun d hd => (a2 d hd).1
  have b1 := ten_prod h1
  have b2 := ten_prod h2
  have hm : ∀ (p : Int → Bool) (ls ds : List Int) d, d ∈ selP p ls ds → d ∈ ds := by
    intro p ls
    induction ls with
    | nil => intro ds d hd; cases ds <;> simp [selP] at hd
    | cons l ls ih =>
      intro ds d hd
      cases ds with
      | nil => simp [selP] at hd
      | cons e ds =>
        simp only [selP] at hd
        split at hd
        · rcases List.mem_cons.1 hd with rfl | hd
          · simp
          · exact List.mem_cons_of_mem _ (ih ds d hd)
        · exact List.mem_cons_of_mem _ (ih ds d hd)
  refine ⟨fun j hj => ?_, ?_⟩
  · have := mem_getD hj
    rcases List.mem_append.1 this with h | h
    · exact a1 _ h
    · exact a2 _ (hm _ _ _ _ h)
  · rw [joinD, prodI_append]
    have h3 : 1 * 1 ≤ prodI t.d * prodI (selP (fun x => decide (x ∉ t.l)) u.l u.d) := Int.mul_le_mul p1 s.1 (by omega) (by omega)
    have h4 : prodI t.d * prodI (selP (fun x => decide (x ∉ t.l)) u.l u.d) ≤ 4096 * 4096 := Int.mul_le_mul b1 (by omega) (by omega) (by omega)
    omega
theorem ct_u_joinAxes (t u : Ten) (a b c a' b' c' : Value) (w : World) (r1 : IntsR t.l a (hp w)) (r2 : IntsR t.d b (hp w)) (r3 : IntsR t.x c (hp w)) (r1' : IntsR u.l a' (hp w)) (r2' : IntsR u.d b' (hp w)) (r3' : IntsR u.x c' (hp w)) (ht : t.l.length = t.d.length) (hu : u.l.length = u.d.length) (htn : t.l.Nodup) (hn : u.l.Nodup) (hs : t.l.length + u.l.length ≤ 100000) :
    Calls Try.prog 177 [tenV a b c, tenV a' b' c'].toArray w (Ret w emp (fun x h => ∃ v1 v2 bb L D, x = .tuple [v1, v2, .bool bb].toArray ∧ IntsR L v1 h ∧ IntsR D v2 h ∧ (bb = true ↔ ¬ mism t u) ∧ (bb = true → L = joinI t.l u.l ∧ D = joinD t u))) :=
  (ct_i_joinAxes t u a b c a' b' c' w r1 r2 r3 r1' r2' r3' ht hu htn hn hs).mono fun _ _ hh => by
    obtain ⟨x, h', h1, h2, h3⟩ := hh
    refine ⟨x, h', h1, h2, ?_⟩
    by_cases hm : mism t u
    · exact ⟨_, _, false, [], [], h3.1 hm, IntsR.nil _, IntsR.nil _, ⟨fun e => (by cases e), fun e => absurd hm e⟩, fun e => (by cases e)⟩
    · obtain ⟨v1, v2, e, q1, q2⟩ := h3.2 hm
      exact ⟨v1, v2, true, _, _, e, q1, q2, ⟨fun _ => hm, fun _ => rfl⟩, fun _ => ⟨rfl, rfl⟩⟩
theorem setif_yes {A B L : List Int} {i j : Nat} {y z : Int} (hB : B = if y ∈ L.take j then A.set i z else A) (hj : j < L.length) (e : L.getD j 0 = y) : B.set i z = if y ∈ L.take (j + 1) then A.set i z else A := by
  rw [if_pos (by rw [take_succ hj, e]; simp), hB]
  split
  · rw [List.set_set]
  · rfl
theorem setif_no {A B L : List Int} {i j : Nat} {y z : Int} (hB : B = if y ∈ L.take j then A.set i z else A) (hj : j < L.length) (e : ¬ L.getD j 0 = y) : B = if y ∈ L.take (j + 1) then A.set i z else A := by
  have : y ∈ L.take (j + 1) ↔ y ∈ L.take j := by
    rw [take_succ hj, List.mem_append]
    exact ⟨fun h => h.resolve_right fun h => by simp at h; exact e h.symm, .inl⟩
  rw [hB]
  by_cases h : y ∈ L.take j
  · rw [if_pos h, if_pos (this.2 h)]
  · rw [if_neg h, if_neg fun h' => h (this.1 h')]
set_option maxHeartbeats 8000000 in
theorem ct_i_ContractPair (k p n : Int) (t u : Ten) (ks : List Int) (a b c a' b' c' v : Value) (w : World) (r1 : IntsR t.l a (hp w)) (r2 : IntsR t.d b (hp w)) (r3 : IntsR t.x c (hp w)) (r1' : IntsR u.l a' (hp w)) (r2' : IntsR u.d b' (hp w)) (r3' : IntsR u.x c' (hp w)) (rk : IntsR ks v (hp w)) :
    Calls Try.prog 72 [ringV k p n, tenV a b c, tenV a' b' c', v].toArray w (Ret w emp (TenB (pairR k p n t u ks) (pairB k p n t u ks))) := by
  have hkr : ∀ {L : List Int} {d : List Int}, 0 ≤ sizeI L d → L.length ≤ 12 ∧ d.length ≤ 12 ∧ dimsIn d := fun {L d} h => by
    have := (sizeI_ge.1 h).1
    have h1 := this.1
    have h2 := this.2.1
    exact ⟨h1, by omega, axes_dims this⟩
  refine calls_in Try.func72 rfl Try.ntmps72 rfl (Sat.start w) ?_
  have hle0 := r1.le
  have hle1 := r2.le
  have hle2 := r3.le
  have hle3 := r1'.le
  have hle4 := r2'.le
  have hle5 := r3'.le
  have hle6 := rk.le
  refine wp_sc ?_
  refine wp_sq ?_
  refine sq_x rfl (x_box rfl rfl) rfl ?_; rintro _ _ ⟨b4, rfl, rfl⟩
  refine sq_x rfl (x_box rfl rfl) rfl ?_; rintro _ _ ⟨b5, rfl, rfl⟩
  refine sq_x rfl (x_box rfl rfl) rfl ?_; rintro _ _ ⟨b6, rfl, rfl⟩
  refine sq_x rfl (x_alloc ty_28 rfl) rfl ?_; rintro _ _ ⟨b8, rfl, rfl⟩
  refine sq_v rfl (v_assign rfl) rfl ?_
  refine sq_end ?_
  refine qs_n ?_
  refine wp_sc ?_
  refine wp_sc ?_
  refine wp_sq ?_
  refine sq_v rfl (v_loadNB 3 ty_30 rfl rfl rfl rfl) rfl ?_
  refine sq_v rfl (v_loadNB 2 ty_28 rfl rfl rfl rfl) rfl ?_
  refine sq_u rfl (x_callv rfl en_71 (fun w s => ct_i_TensorOk _ _ _ _ _ _ _ _ _ w (r1.mono (s.get 4 rfl)) (r2.mono (s.get 4 rfl)) (r3.mono (s.get 4 rfl)))) rfl ?_
  refine sq_bb 26 rfl (fun c26 => ?_) (fun c26 => ?_)
  · refine sq_v rfl (v_not rfl) rfl ?_
    refine sq_v rfl (v_move rfl) rfl ?_
    refine sq_v rfl (v_loadNB 3 ty_30 rfl rfl rfl rfl) rfl ?_
    refine sq_v rfl (v_loadNB 1 ty_28 rfl rfl rfl rfl) rfl ?_
    refine sq_u rfl (x_callv rfl en_71 (fun w s => ct_i_TensorOk _ _ _ _ _ _ _ _ _ w (r1'.mono (s.get 4 rfl)) (r2'.mono (s.get 4 rfl)) (r3'.mono (s.get 4 rfl)))) rfl ?_
    refine sq_v rfl (v_not rfl) rfl ?_
    refine sq_v rfl (v_pickf rfl rfl) rfl ?_
    refine sq_end ?_
    refine qs_n ?_
    refine wp_cn _ rfl (fun c33 => ?_) (fun c33 => ?_)
    · refine wp_sc ?_
      refine wp_sq ?_
      refine sq_v rfl (v_build [.slice none 0 0, .slice none 0 0, .slice none 0 0] rfl (by kernel_rfl)) rfl ?_
      refine sq_m 0 rfl rfl (m_store 0 ty_28 rfl rfl rfl rfl (by simp [one_sl]) rfl (Nat.le_of_ble_eq_true rfl)) rfl ?_; rintro _ _ ⟨rfl, rfl⟩
      refine sq_v rfl (v_assign rfl) rfl ?_
      refine sq_end ?_
      refine qs_n ?_
      refine wp_rt ?_
      refine qs_r ?_
      exact qs_retct 0 rfl ty_28 rfl rfl rfl rfl (fin_e (i := 4) rfl (PairNo (fun h => by first | exact tensorB_false.1 c26 h.1 | exact tensorB_false.1 c33 h.2.1)))
    · refine wp_sk ?_
      refine qs_n ?_
      refine wp_sc ?_
      refine wp_sq ?_
      have h1 := tensorB_true.1 c26; have h2 := tensorB_true.1 c33; have hat := ten_axes h1; have hau := ten_axes h2; have htl := hat.2.1; have hul := hau.2.1; have h12 := hat.1; have h12' := hau.1; have htn := axes_nodup hat; have hun := axes_nodup hau; have htp := ten_prod h1; have hup := ten_prod h2; have hjd := joinD_prod h1 h2
      refine sq_v rfl (v_loadNB 2 ty_28 rfl rfl rfl rfl) rfl ?_
      refine sq_v rfl (v_loadNB 1 ty_28 rfl rfl rfl rfl) rfl ?_
      refine sq_x rfl (x_call rfl en_177 (fun w s => ct_u_joinAxes _ _ _ _ _ _ _ _ w (r1.mono (s.get 4 rfl)) (r2.mono (s.get 4 rfl)) (r3.mono (s.get 4 rfl)) (r1'.mono (s.get 4 rfl)) (r2'.mono (s.get 4 rfl)) (r3'.mono (s.get 4 rfl)) (by first | assumption | omega) (by first | assumption | omega) (by first | assumption | omega) (by first | assumption | omega) (by first | assumption | omega))) rfl ?_; rintro _ h38 ⟨v1, v2, bb, L, D, rfl, q1, q2, hbb, hLD⟩
      refine sq_v rfl (v_move rfl) rfl ?_
      refine sq_v rfl (v_extract rfl rfl) rfl ?_
      refine sq_v rfl (v_extract rfl rfl) rfl ?_
      refine sq_v rfl (v_extract rfl rfl) rfl ?_
      refine sq_v rfl (v_assign rfl) rfl ?_
      refine sq_v rfl (v_assign rfl) rfl ?_
      refine sq_v rfl (v_assign rfl) rfl ?_
      refine sq_end ?_
      refine qs_n ?_
      refine wp_sc ?_
      refine wp_sc ?_
      refine wp_sq ?_
      refine sq_bb 12 rfl (fun c12 => ?_) (fun c12 => ?_)
      · refine sq_v rfl (v_move rfl) rfl ?_
        refine sq_v rfl (v_not rfl) rfl ?_
        refine sq_v rfl (v_move rfl) rfl ?_
        refine sq_v rfl (v_move rfl) rfl ?_
        have hnm := hbb.1 c12; obtain ⟨eL, eD⟩ := hLD c12; rw [← eD] at hjd; have hjd1 := hjd.1; have hjl := joinI_len t.l u.l; rw [← eL] at hjl
        refine sq_u rfl (x_callv rfl en_159 (fun w s => ct_i_productOf _ _ w (q2.mono (s.get 0 rfl)) (by first | assumption | omega) (by first | assumption | omega))) rfl ?_
        refine sq_v rfl (v_gtr rfl rfl) rfl ?_
        refine sq_v rfl (v_pickf rfl rfl) rfl ?_
        refine sq_end ?_
        refine qs_n ?_
        refine wp_cd rfl (fun c48 => ?_) (fun c48 => ?_)
        · refine wp_sc ?_
          refine wp_sq ?_
          refine sq_v rfl (v_build [.slice none 0 0, .slice none 0 0, .slice none 0 0] rfl (by kernel_rfl)) rfl ?_
          refine sq_m 1 rfl rfl (m_store 1 ty_28 rfl rfl rfl rfl (by simp [one_sl]) rfl (Nat.le_of_ble_eq_true rfl)) rfl ?_; rintro _ _ ⟨rfl, rfl⟩
          refine sq_v rfl (v_assign rfl) rfl ?_
          refine sq_end ?_
          refine qs_n ?_
          refine wp_rt ?_
          refine qs_r ?_
          exact qs_retct 1 rfl ty_28 rfl rfl rfl rfl (fin_e (i := 5) rfl (PairNo (fun h => by first | exact absurd (c12.symm.trans (hbb.2 h.2.2.1)) (by decide) | (have := h.2.2.2.1; rw [← eD] at this; omega))))
        · refine wp_sk ?_
          refine qs_n ?_
          refine wp_sc ?_
          refine wp_sq ?_
          refine sq_v rfl (v_move rfl) rfl ?_
          refine sq_v rfl (v_move rfl) rfl ?_
          refine sq_x rfl (x_call rfl en_178 (fun w s => ct_i_keptOnly _ _ _ _ w (q1.mono (s.get 0 rfl)) (rk.mono (s.get 5 rfl)) (by first | assumption | omega))) rfl ?_; rintro v52 h52 r52
          refine sq_v rfl (v_assign rfl) rfl ?_
          refine sq_end ?_
          obtain ⟨K, hK⟩ : ∃ K, K = L.filter (fun x => decide (x ∈ ks)) := ⟨_, rfl⟩
          have hfl := List.length_filter_le (fun x => decide (x ∈ ks)) L
          rw [← hK] at r52 hfl
          have hKk : K = keepL t u ks := by rw [hK, eL, keepL]
          have ok := pair_ok h1 h2 hnm (by rw [← eD]; omega)
          obtain ⟨ht, hu, eJ⟩ := pairP.dims h1 h2 hnm
          obtain ⟨f, hf⟩ : ∃ f, f = dimJ t u := ⟨_, rfl⟩
          rw [← hf] at ok ht hu eJ
          have eDf : D = L.map f := by rw [eD, eJ, eL]
          have hDL : D.length = L.length := by rw [eDf]; simp
          have hKm : (K.map f).length = K.length := by simp
          have hKL : ∀ x ∈ K, x ∈ L := fun x hx => by rw [hK] at hx; exact (List.mem_filter.1 hx).1
          refine qs_n ?_
          refine wp_sc ?_
          refine wp_sq ?_
          refine sq_v rfl (v_move rfl) rfl ?_
          refine sq_v rfl (v_move rfl) rfl ?_
          refine sq_v rfl (v_len Try.underlying24 rfl r52.toR.sl) rfl ?_
          refine sq_x rfl (x_makeI Try.underlying24 ty_3 rfl rfl (by first | omega | (simp only [List.length_cons, List.length_nil]; omega) | (simp only [List.length_append, List.length_cons, List.length_nil]; omega) | (rw [List.length_set]; omega) | (rw [List.length_replicate]; omega) | (simp; omega)) (by first | omega | (simp only [List.length_cons, List.length_nil]; omega) | (simp only [List.length_append, List.length_cons, List.length_nil]; omega) | (rw [List.length_set]; omega) | (rw [List.length_replicate]; omega) | (simp; omega)) (by first | omega | (simp only [List.length_cons, List.length_nil]; omega) | (simp only [List.length_append, List.length_cons, List.length_nil]; omega) | (rw [List.length_set]; omega) | (rw [List.length_replicate]; omega) | (simp; omega))) rfl ?_; intro v56 h56 r56
          refine sq_v rfl (v_build [v52, v56, .slice none 0 0] rfl (by obtain ⟨_, _, rfl⟩ := r52.toR.sl; obtain ⟨_, _, rfl⟩ := r56.toR.sl; kernel_rfl)) rfl ?_
          refine sq_x rfl (x_alloc ty_28 rfl) rfl ?_; rintro _ _ ⟨b14, rfl, rfl⟩
          refine sq_m 0 rfl rfl (m_store 0 ty_28 rfl rfl rfl rfl (by simp [r52.toR.sl.one, r56.toR.sl.one, one_sl]) rfl (Nat.le_of_ble_eq_true rfl)) rfl ?_; rintro _ _ ⟨rfl, rfl⟩
          refine sq_end ?_
          refine qs_n ?_
          refine wp_sc ?_
          refine wp_sc ?_
          refine wp_sq ?_
          refine sq_v rfl (v_move rfl) rfl ?_
          refine sq_v rfl (v_len Try.underlying24 rfl r52.toR.sl) rfl ?_
          refine sq_v rfl (v_move rfl) rfl ?_
          refine sq_end ?_
          refine qs_n ?_
          refine wp_bl ?_
          refine wp_lp (σ := Nat × PH) (fun z_ => [(4, .pointer (some ⟨b4, 0, none⟩)), (5, .pointer (some ⟨b5, 0, none⟩)), (6, .pointer (some ⟨b6, 0, none⟩)), (8, .pointer (some ⟨b8, 0, none⟩)), (9, .bool false), (10, v1), (11, v2), (14, .pointer (some ⟨b14, 0, none⟩)), (58, v52), (59, num K.length), (60, num z_.1)]) (fun z_ => [box b14 [v52, v56, .slice none 0 0] 28, z_.2, h52, h38, box b8 [.slice none 0 0, .slice none 0 0, .slice none 0 0] 28, box b6 [a', b', c'] 28, box b5 [a, b, c] 28, box b4 [num k, num p, num n] 30, hp w]) (fun z_ => z_.1 ≤ K.length ∧ IntsO ((K.map f).take z_.1 ++ List.replicate ((K.map f).length - z_.1) 0) v56 z_.2) (fun z_ => K.length - z_.1) (0, h56) (⟨by (try dsimp only); omega, by (try dsimp only); simpa using r56⟩) ⟨rfl, rfl, rfl, rfl, rfl, rfl, rfl, rfl, rfl, rfl, (by first | rfl | exact ksub rfl (by first | omega | (simp; done) | (simp; omega))), trivial⟩ (fun _ s => s) ?_
          rintro ⟨i, g⟩ ⟨hi, q⟩
          dsimp only at hi q ⊢
          have hle_q := q.toR.le
          have hll : ((K.map f).take i ++ List.replicate ((K.map f).length - i) 0).length = K.length := by simp; omega
          refine wp_sc ?_
          refine wp_sq ?_
          refine sq_v rfl (v_lss rfl rfl) rfl ?_
          refine sq_end ?_
          refine qs_n ?_
          refine wp_sc ?_
          refine wp_cd rfl (fun c61 => ?_) (fun c61 => ?_)
          · refine wp_sk ?_
            refine qs_n ?_
            refine wp_sc ?_
            refine wp_bl ?_
            refine wp_sc ?_
            refine wp_sq ?_
            refine sq_v rfl (v_move rfl) rfl ?_
            refine sq_v rfl (v_idxI Try.underlying24 ty_3 rfl rfl r52.toR (by first | omega | (simp only [List.length_cons, List.length_nil]; omega) | (simp only [List.length_append, List.length_cons, List.length_nil]; omega) | (rw [List.length_set]; omega) | (rw [List.length_replicate]; omega) | (simp; omega)) (by first | omega | (simp only [List.length_cons, List.length_nil]; omega) | (simp only [List.length_append, List.length_cons, List.length_nil]; omega) | (rw [List.length_set]; omega) | (rw [List.length_replicate]; omega) | (simp; omega))) rfl ?_
            refine sq_v rfl (v_loadI (k := i) 2 ty_3 rfl rfl r52.toR (by first | omega | (simp only [List.length_cons, List.length_nil]; omega) | (simp only [List.length_append, List.length_cons, List.length_nil]; omega) | (rw [List.length_set]; omega) | (rw [List.length_replicate]; omega) | (simp; omega))) rfl ?_
            refine sq_v rfl (v_assign rfl) rfl ?_
            refine sq_v rfl (v_assign rfl) rfl ?_
            refine sq_end ?_
            refine qs_n ?_
            refine wp_sc ?_
            refine wp_sq ?_
            refine sq_v rfl (v_move rfl) rfl ?_
            refine sq_v rfl (v_len Try.underlying24 rfl q1.sl) rfl ?_
            refine sq_v rfl (v_move rfl) rfl ?_
            refine sq_end ?_
            refine qs_n ?_
            refine wp_bl ?_
            refine wp_lp (σ := Nat × (List Int) × PH) (fun z_ => [(4, .pointer (some ⟨b4, 0, none⟩)), (5, .pointer (some ⟨b5, 0, none⟩)), (6, .pointer (some ⟨b6, 0, none⟩)), (8, .pointer (some ⟨b8, 0, none⟩)), (9, .bool false), (10, v1), (11, v2), (14, .pointer (some ⟨b14, 0, none⟩)), (15, num i), (16, num (K.getD i 0)), (58, v52), (59, num K.length), (60, num i), (61, .bool (decide ((i : Int) < K.length))), (62, num i), (64, num (K.getD i 0)), (65, v1), (66, num L.length), (67, num z_.1)]) (fun z_ => [box b14 [v52, v56, .slice none 0 0] 28, z_.2.2, h52, h38, box b8 [.slice none 0 0, .slice none 0 0, .slice none 0 0] 28, box b6 [a', b', c'] 28, box b5 [a, b, c] 28, box b4 [num k, num p, num n] 30, hp w]) (fun z_ => z_.1 ≤ L.length ∧ (z_.2.1 = if K.getD i 0 ∈ L.take z_.1 then ((K.map f).take i ++ List.replicate ((K.map f).length - i) 0).set i (f (K.getD i 0)) else ((K.map f).take i ++ List.replicate ((K.map f).length - i) 0)) ∧ z_.2.1.length = K.length ∧ IntsO z_.2.1 v56 z_.2.2) (fun z_ => L.length - z_.1) (0, ((K.map f).take i ++ List.replicate ((K.map f).length - i) 0), g) (⟨by (try dsimp only); omega, by (try dsimp only); simp, hll, q⟩) ⟨rfl, rfl, rfl, rfl, rfl, rfl, rfl, rfl, rfl, rfl, rfl, rfl, rfl, rfl, rfl, rfl, rfl, rfl, (by first | rfl | exact ksub rfl (by first | omega | (simp; done) | (simp; omega))), trivial⟩ (fun _ s => s) ?_
            rintro ⟨j, B, g2⟩ ⟨hj, hB, hBl, q2b⟩
            dsimp only at hj hB hBl q2b ⊢
            have hle_q2b := q2b.toR.le
            refine wp_sc ?_
            refine wp_sq ?_
            refine sq_v rfl (v_lss rfl rfl) rfl ?_
            refine sq_end ?_
            refine qs_n ?_
            refine wp_sc ?_
            refine wp_cd rfl (fun c68 => ?_) (fun c68 => ?_)
            · refine wp_sk ?_
              refine qs_n ?_
              refine wp_sc ?_
              refine wp_bl ?_
              refine wp_sc ?_
              refine wp_sq ?_
              refine sq_v rfl (v_move rfl) rfl ?_
              refine sq_v rfl (v_idxI Try.underlying24 ty_3 rfl rfl q1 (by first | omega | (simp only [List.length_cons, List.length_nil]; omega) | (simp only [List.length_append, List.length_cons, List.length_nil]; omega) | (rw [List.length_set]; omega) | (rw [List.length_replicate]; omega) | (simp; omega)) (by first | omega | (simp only [List.length_cons, List.length_nil]; omega) | (simp only [List.length_append, List.length_cons, List.length_nil]; omega) | (rw [List.length_set]; omega) | (rw [List.length_replicate]; omega) | (simp; omega))) rfl ?_
              refine sq_v rfl (v_loadI (k := j) 3 ty_3 rfl rfl q1 (by first | omega | (simp only [List.length_cons, List.length_nil]; omega) | (simp only [List.length_append, List.length_cons, List.length_nil]; omega) | (rw [List.length_set]; omega) | (rw [List.length_replicate]; omega) | (simp; omega))) rfl ?_
              refine sq_v rfl (v_assign rfl) rfl ?_
              refine sq_v rfl (v_assign rfl) rfl ?_
              refine sq_end ?_
              refine qs_n ?_
              refine wp_sc ?_
              refine wp_sq ?_
              refine sq_v rfl (v_move rfl) rfl ?_
              refine sq_v rfl (v_move rfl) rfl ?_
              refine sq_v rfl (v_eql rfl rfl) rfl ?_
              refine sq_end ?_
              refine qs_n ?_
              refine wp_cd rfl (fun c74 => ?_) (fun c74 => ?_)
              · refine wp_rj 8 [(0, true), (1, true), (2, true), (3, true), (4, true), (5, true), (6, true), (7, true), (8, false)] mixed_ok (by kernel_rfl) ?_
                refine rj_v rfl rfl (v_fieldAddr fd_28_1 ty_24 (by decide) rfl) rfl ?_
                refine rj_v rfl rfl (v_loadB 0 ty_24 rfl rfl rfl) rfl ?_
                refine rj_v rfl rfl (v_move rfl) rfl ?_
                refine rj_v rfl rfl (v_move rfl) rfl ?_
                refine rj_v rfl rfl (v_move rfl) rfl ?_
                refine rj_v rfl rfl (v_idxI Try.underlying24 ty_3 rfl rfl q2 (by first | omega | (simp only [List.length_cons, List.length_nil]; omega) | (simp only [List.length_append, List.length_cons, List.length_nil]; omega) | (rw [List.length_set]; omega) | (rw [List.length_replicate]; omega) | (simp; omega)) (by first | omega | (simp only [List.length_cons, List.length_nil]; omega) | (simp only [List.length_append, List.length_cons, List.length_nil]; omega) | (rw [List.length_set]; omega) | (rw [List.length_replicate]; omega) | (simp; omega))) rfl ?_
                refine rj_v rfl rfl (v_loadI (k := j) 3 ty_3 rfl rfl q2 (by first | omega | (simp only [List.length_cons, List.length_nil]; omega) | (simp only [List.length_append, List.length_cons, List.length_nil]; omega) | (rw [List.length_set]; omega) | (rw [List.length_replicate]; omega) | (simp; omega))) rfl ?_
                refine rj_v rfl rfl (v_idxI Try.underlying24 ty_3 rfl rfl q2b.toR (by first | omega | (simp only [List.length_cons, List.length_nil]; omega) | (simp only [List.length_append, List.length_cons, List.length_nil]; omega) | (rw [List.length_set]; omega) | (rw [List.length_replicate]; omega) | (simp; omega)) (by first | omega | (simp only [List.length_cons, List.length_nil]; omega) | (simp only [List.length_append, List.length_cons, List.length_nil]; omega) | (rw [List.length_set]; omega) | (rw [List.length_replicate]; omega) | (simp; omega))) rfl ?_
                refine rj_m 1 rfl rfl rfl rfl (m_storeI (k := i) 1 ty_3 rfl rfl rfl q2b (by first | omega | (simp only [List.length_cons, List.length_nil]; omega) | (simp only [List.length_append, List.length_cons, List.length_nil]; omega) | (rw [List.length_set]; omega) | (rw [List.length_replicate]; omega) | (simp; omega))) rfl ?_; rintro _ h_q15_8 ⟨rfl, q15_8⟩
                refine rj_end ?_
                have eDj : D.getD j 0 = f (K.getD i 0) := by rw [eDf, map_getD (by omega), c74]
                rw [eDj] at q15_8
                refine qs_bn ?_
                refine qs_n ?_
                refine wp_sq ?_
                refine sq_v rfl (v_add rfl rfl ((by unfold I64; omega))) rfl ?_
                refine sq_v rfl (v_move rfl) rfl ?_
                refine sq_end ?_
                exact qs_bk (j + 1, B.set i (f (K.getD i 0)), h_q15_8) ⟨by (try dsimp only); omega, setif_yes hB (by omega) c74, by (try dsimp only); rw [List.length_set]; exact hBl, q15_8⟩ (by simp only; omega) ⟨rfl, rfl, rfl, rfl, rfl, rfl, rfl, rfl, rfl, rfl, rfl, rfl, rfl, rfl, rfl, rfl, rfl, rfl, (by first | rfl | exact ksub rfl (by first | omega | (simp; done) | (simp; omega))), trivial⟩ (fun _ s => s)
              · refine wp_sk ?_
                refine qs_bn ?_
                refine qs_n ?_
                refine wp_sq ?_
                refine sq_v rfl (v_add rfl rfl ((by unfold I64; omega))) rfl ?_
                refine sq_v rfl (v_move rfl) rfl ?_
                refine sq_end ?_
                exact qs_bk (j + 1, B, g2) ⟨by (try dsimp only); omega, setif_no hB (by omega) c74, hBl, q2b⟩ (by simp only; omega) ⟨rfl, rfl, rfl, rfl, rfl, rfl, rfl, rfl, rfl, rfl, rfl, rfl, rfl, rfl, rfl, rfl, rfl, rfl, (by first | rfl | exact ksub rfl (by first | omega | (simp; done) | (simp; omega))), trivial⟩ (fun _ s => s)
            · refine wp_ex ?_
              refine qs_x ?_
              refine qs_x ?_
              refine qs_bx ?_
              refine qs_bn ?_
              refine qs_n ?_
              refine wp_sq ?_
              refine sq_v rfl (v_add rfl rfl ((by unfold I64; omega))) rfl ?_
              refine sq_v rfl (v_move rfl) rfl ?_
              refine sq_end ?_
              exact qs_bk (i + 1, g2) ⟨by (try dsimp only); omega, by (try dsimp only); rw [← set_prefix (by omega), map_getD (by omega)]; rw [if_pos (by rw [List.take_of_length_le (by omega)]; exact hKL _ (mem_getD (by omega)))] at hB; rw [← hB]; exact q2b⟩ (by simp only; omega) ⟨rfl, rfl, rfl, rfl, rfl, rfl, rfl, rfl, rfl, rfl, (by first | rfl | exact ksub rfl (by first | omega | (simp; done) | (simp; omega))), trivial⟩ (fun _ s => s)
          · refine wp_ex ?_
            refine qs_x ?_
            refine qs_x ?_
            refine qs_bx ?_
            refine qs_n ?_
            refine wp_sc ?_
            refine wp_sc ?_
            refine wp_sq ?_
            rw [List.take_of_length_le (by omega), show (K.map f).length - i = 0 by omega, List.replicate_zero, List.append_nil] at q;
            refine sq_v rfl (v_loadNB 0 ty_28 rfl rfl rfl rfl) rfl ?_
            refine sq_u rfl (x_callv rfl en_160 (fun w s => ct_i_TensorSize _ _ _ _ _ w (r52.toR.mono (s.get 2 rfl)) (q.toR.mono (s.get 1 rfl)))) rfl ?_
            refine sq_v rfl (v_eql rfl rfl) rfl ?_
            refine sq_end ?_
            refine qs_n ?_
            refine wp_cd rfl (fun c87 => ?_) (fun c87 => ?_)
            · refine wp_sc ?_
              refine wp_sq ?_
              refine sq_v rfl (v_build [.slice none 0 0, .slice none 0 0, .slice none 0 0] rfl (by kernel_rfl)) rfl ?_
              refine sq_m 4 rfl rfl (m_store 4 ty_28 rfl rfl rfl rfl (by simp [one_sl]) rfl (Nat.le_of_ble_eq_true rfl)) rfl ?_; rintro _ _ ⟨rfl, rfl⟩
              refine sq_v rfl (v_assign rfl) rfl ?_
              refine sq_end ?_
              refine qs_n ?_
              refine wp_rt ?_
              refine qs_r ?_
              exact qs_retct 4 rfl ty_28 rfl rfl rfl rfl (fin_e (i := 8) rfl (PairNo (fun h => by have := h.2.2.2.2; rw [← hKk, ← hf] at this; omega)))
            · refine wp_sk ?_
              refine qs_n ?_
              refine wp_sc ?_
              refine wp_rj 8 [(0, true), (1, true), (2, true), (3, true), (4, true), (5, true), (6, false), (7, false), (8, false)] mixed_ok (by kernel_rfl) ?_
              have hsz : 0 ≤ sizeI K (K.map f) := (by have := sizeI_range K (K.map f); omega); obtain ⟨hK1, hK2, hKi⟩ := hkr hsz; have hk : KeepOK t u f K := (by rw [hf, hKk]; rw [hf] at ok; exact keep_ok ok (by rw [← hKk, ← hf]; exact hsz)); have hKp := hk.small; have hwr := width_range h1.1; have hring := h1.1; have hzl := zeroL_len k p n
              refine rj_v rfl rfl (v_loadNB 7 ty_30 rfl rfl rfl rfl) rfl ?_
              refine rj_v rfl rfl (v_fieldAddr fd_28_0 ty_24 (by decide) rfl) rfl ?_
              refine rj_v rfl rfl (v_loadB 0 ty_24 rfl rfl rfl) rfl ?_
              refine rj_v rfl rfl (v_fieldAddr fd_28_1 ty_24 (by decide) rfl) rfl ?_
              refine rj_v rfl rfl (v_loadB 0 ty_24 rfl rfl rfl) rfl ?_
              refine rj_v rfl rfl (v_loadNB 7 ty_30 rfl rfl rfl rfl) rfl ?_
              refine rj_x rfl rfl (x_call rfl en_135 (fun w s => ct_i_rawZero _ _ _ w (by first | assumption | omega))) rfl ?_; rintro v95 h95 r95
              refine rj_x rfl rfl (x_call rfl en_134 (fun w s => ct_i_fillTensor _ _ _ _ _ _ _ _ _ w (r52.toR.mono (s.get 3 rfl)) (q.toR.mono (s.get 2 rfl)) (r95.toR.mono (s.get 0 rfl)) (by first | assumption | omega) (by first | assumption | omega) (by first | assumption | omega) (by first | assumption | omega) (by first | assumption | omega))) rfl ?_; rintro _ h96 ⟨va96, vb96, vc96, rfl, o96⟩
              refine rj_m 2 rfl rfl rfl rfl (m_store 2 ty_28 rfl rfl rfl rfl (by simp [o96.toR.1.sl.one, o96.toR.2.1.sl.one, o96.toR.2.2.sl.one]) rfl (Nat.le_of_ble_eq_true rfl)) rfl ?_; rintro _ _ ⟨rfl, rfl⟩
              refine rj_end ?_
              obtain ⟨go1, go2, go3, qo1, qo2, qo3, mdo⟩ := o96
              have hKd := map_dim ok.dim hk.sub
              have hnd := ok.nd
              have hDd := map_dim ok.dim (fun _ h => h)
              rw [← eL] at hnd hDd
              rw [← eDf] at hDd
              have hD1 : ∀ d ∈ D, 1 ≤ d := fun d hd => (hDd d hd).1
              have hsA := stepsL_len L t.l t.d
              have hsB := stepsL_len L u.l u.d
              have hsC := stepsL_len L K (K.map f)
              have hA : ∀ a ∈ stepsL L t.l t.d, 0 ≤ a ∧ a ≤ 1048576 := fun a h => by have := steps_in (fun d hd => (dims_mem (axes_dims hat) d hd).1) a h; omega
              have hBs : ∀ a ∈ stepsL L u.l u.d, 0 ≤ a ∧ a ≤ 1048576 := fun a h => by have := steps_in (fun d hd => (dims_mem (axes_dims hau) d hd).1) a h; omega
              have hC : ∀ a ∈ stepsL L K (K.map f), 0 ≤ a ∧ a ≤ 1048576 := fun a h => by have := steps_in (fun d hd => (hKd d hd).1) a h; omega
              refine qs_s [h95, box b14 [va96, vb96, vc96] 28, g, h52, h38, box b8 [.slice none 0 0, .slice none 0 0, .slice none 0 0] 28, box b6 [a', b', c'] 28, box b5 [a, b, c] 28, box b4 [num k, num p, num n] 30, hp w, go1, go2, go3] (fun _ s => Sat.open (A := [h95, box b14 [va96, vb96, vc96] 28, g, h52, h38, box b8 [.slice none 0 0, .slice none 0 0, .slice none 0 0] 28, box b6 [a', b', c'] 28, box b5 [a, b, c] 28, box b4 [num k, num p, num n] 30, hp w]) mdo (s.pick [0, 1, 2, 3, 4, 5, 6, 7, 8, 9, 10] (by decide) rfl)) ?_
              refine qs_n ?_
              refine wp_sc ?_
              refine wp_rj 12 [(0, true), (1, true), (3, true), (4, true), (6, true), (7, true), (2, false), (5, false), (8, false), (9, true), (10, true), (11, true)] mixed_ok (by kernel_rfl) ?_
              refine rj_v rfl rfl (v_loadNB 7 ty_28 rfl rfl rfl rfl) rfl ?_
              refine rj_v rfl rfl (v_move rfl) rfl ?_
              refine rj_v rfl rfl (v_loadNB 6 ty_28 rfl rfl rfl rfl) rfl ?_
              refine rj_v rfl rfl (v_move rfl) rfl ?_
              refine rj_v rfl rfl (v_loadNB 1 ty_28 rfl rfl rfl rfl) rfl ?_
              refine rj_v rfl rfl (v_move rfl) rfl ?_
              refine rj_x rfl rfl (x_call rfl en_136 (fun w s => ct_i_stridesOf _ _ _ _ _ _ _ w (r1.mono (s.get 9 rfl)) (r2.mono (s.get 9 rfl)) (q1.mono (s.get 4 rfl)) (by first | assumption | omega) (dims_mem (axes_dims hat)) (by first | assumption | omega) (by first | assumption | omega))) rfl ?_; rintro v99 h99 r99
              refine rj_x rfl rfl (x_call rfl en_136 (fun w s => ct_i_stridesOf _ _ _ _ _ _ _ w (r1'.mono (s.get 10 rfl)) (r2'.mono (s.get 10 rfl)) (q1.mono (s.get 5 rfl)) (by first | assumption | omega) (dims_mem (axes_dims hau)) (by first | assumption | omega) (by first | assumption | omega))) rfl ?_; rintro v102 h102 r102
              refine rj_x rfl rfl (x_call rfl en_136 (fun w s => ct_i_stridesOf K (K.map f) _ _ _ _ _ w (qo1.toR.mono (s.get 12 rfl)) (qo2.toR.mono (s.get 13 rfl)) (q1.mono (s.get 6 rfl)) (by first | assumption | omega) hKd (by first | assumption | omega) (by first | assumption | omega))) rfl ?_; rintro v105 h105 r105
              refine rj_v rfl rfl (v_assign rfl) rfl ?_
              refine rj_v rfl rfl (v_assign rfl) rfl ?_
              refine rj_v rfl rfl (v_assign rfl) rfl ?_
              refine rj_end ?_
              refine qs_n ?_
              refine wp_sc ?_
              refine wp_sq ?_
              refine sq_v rfl (v_move rfl) rfl ?_
              refine sq_v rfl (v_len Try.underlying24 rfl q1.sl) rfl ?_
              refine sq_x rfl (x_makeI Try.underlying24 ty_3 rfl rfl (by first | omega | (simp only [List.length_cons, List.length_nil]; omega) | (simp only [List.length_append, List.length_cons, List.length_nil]; omega) | (rw [List.length_set]; omega) | (rw [List.length_replicate]; omega) | (simp; omega)) (by first | omega | (simp only [List.length_cons, List.length_nil]; omega) | (simp only [List.length_append, List.length_cons, List.length_nil]; omega) | (rw [List.length_set]; omega) | (rw [List.length_replicate]; omega) | (simp; omega)) (by first | omega | (simp only [List.length_cons, List.length_nil]; omega) | (simp only [List.length_append, List.length_cons, List.length_nil]; omega) | (rw [List.length_set]; omega) | (rw [List.length_replicate]; omega) | (simp; omega))) rfl ?_; intro v108 h108 r108
              refine sq_v rfl (v_assign rfl) rfl ?_
              refine sq_end ?_
              refine qs_n ?_
              refine wp_sc ?_
              refine wp_sq ?_
              refine sq_v rfl (v_loadNB 12 ty_30 rfl rfl rfl rfl) rfl ?_
              refine sq_u rfl (x_callv rfl en_175 (fun w s => ct_i_rawWidth _ _ _ w)) rfl ?_
              refine sq_x rfl (x_makeI Try.underlying24 ty_3 rfl rfl (by first | omega | (simp only [List.length_cons, List.length_nil]; omega) | (simp only [List.length_append, List.length_cons, List.length_nil]; omega) | (rw [List.length_set]; omega) | (rw [List.length_replicate]; omega) | (simp; omega)) (by first | omega | (simp only [List.length_cons, List.length_nil]; omega) | (simp only [List.length_append, List.length_cons, List.length_nil]; omega) | (rw [List.length_set]; omega) | (rw [List.length_replicate]; omega) | (simp; omega)) (by first | omega | (simp only [List.length_cons, List.length_nil]; omega) | (simp only [List.length_append, List.length_cons, List.length_nil]; omega) | (rw [List.length_set]; omega) | (rw [List.length_replicate]; omega) | (simp; omega))) rfl ?_; intro v111 h111 r111
              refine sq_v rfl (v_assign rfl) rfl ?_
              refine sq_end ?_
              refine qs_n ?_
              refine wp_bl ?_
              refine wp_lp (σ := Nat × PH × PH × PH × (List Int)) (fun z_ => [(4, .pointer (some ⟨b4, 0, none⟩)), (5, .pointer (some ⟨b5, 0, none⟩)), (6, .pointer (some ⟨b6, 0, none⟩)), (8, .pointer (some ⟨b8, 0, none⟩)), (9, .bool false), (11, v2), (14, .pointer (some ⟨b14, 0, none⟩)), (19, v99), (20, v102), (21, v105), (22, v108), (23, v111)]) (fun z_ => [z_.2.2.2.1, z_.2.1, h105, h102, h99, h95, box b14 [va96, vb96, vc96] 28, g, h52, h38, box b8 [.slice none 0 0, .slice none 0 0, .slice none 0 0] 28, box b6 [a', b', c'] 28, box b5 [a, b, c] 28, box b4 [num k, num p, num n] 30, hp w, go1, go2, z_.2.2.1]) (fun z_ => z_.1 < (prodI D).toNat ∧ z_.2.2.2.2.length = (widthI k n).toNat ∧ IntsO (idxL D z_.1) v108 z_.2.1 ∧ IntsO (pairX k p n f t u K z_.1) vc96 z_.2.2.1 ∧ IntsO z_.2.2.2.2 v111 z_.2.2.2.1) (fun z_ => (prodI D).toNat - z_.1) (0, h108, go3, h111, (List.replicate (widthI k n : Int).toNat 0)) (⟨by (try dsimp only); omega, by (try dsimp only); simp, by (try dsimp only); rw [show ((0 : Nat) : Int) = 0 from rfl, idxL_zero, hDL]; simpa using r108, qo3, r111⟩) ⟨rfl, rfl, rfl, rfl, rfl, rfl, rfl, rfl, rfl, rfl, rfl, rfl, trivial⟩ (fun _ s => s) ?_
              rintro ⟨m, gi, gx, gz, zs⟩ ⟨hm, hzs, qi, qx, qz⟩
              dsimp only at hm hzs qi qx qz ⊢
              have hle_qi := qi.toR.le
              have hle_qx := qx.toR.le
              have hle_qz := qz.toR.le
              have hil := idxL_len D m
              have hii := idxL_in hD1 m
              have hib : ∀ b ∈ idxL D m, 0 ≤ b ∧ b ≤ 1048576 := all_of fun j hj => by have := hii.2 j (by omega); have := hjd1 j (by omega); omega
              have hpx := ok.small hk m
              have ex : dotL (stepsL L t.l t.d) (idxL D m) = atI f (joinI t.l u.l) t.l m := by rw [atI, ← ht, ← eL, ← eDf]
              have ey : dotL (stepsL L u.l u.d) (idxL D m) = atI f (joinI t.l u.l) u.l m := by rw [atI, ← hu, ← eL, ← eDf]
              have ez : dotL (stepsL L K (K.map f)) (idxL D m) = atI f (joinI t.l u.l) K m := by rw [atI, ← eL, ← eDf]
              have hx0 := ok.at_t m
              have hy0 := ok.at_u m
              have hz0 := ok.at_k hk m
              have hXr := ok.el_t m
              have hYr := ok.el_u m
              have hZr := (ok.all hk m).el hring hz0.1 hz0.2
              have hzf := ok.fits hk m
              rw [← ex] at hx0 hXr
              rw [← ey] at hy0 hYr
              rw [← ez] at hz0 hZr hzf
              have hMr := mulL_in hring hXr hYr
              have hxf := elt_fits ok.tt hx0.2
              have hyf := elt_fits ok.uu hy0.2
              have hz1 := Int.mul_nonneg hz0.1 (show 0 ≤ widthI k n by omega)
              have hz2 := Int.add_mul (dotL (stepsL L K (K.map f)) (idxL D m)) 1 (widthI k n)
              rw [Int.one_mul] at hz2
              have hMl := hMr.1
              refine wp_bl ?_
              refine wp_sc ?_
              refine wp_rj 14 [(0, true), (1, true), (2, true), (3, true), (4, true), (5, true), (8, true), (9, true), (10, true), (11, true), (6, false), (7, false), (12, false), (13, false), (14, false)] mixed_ok (by kernel_rfl) ?_
              refine rj_v rfl rfl (v_loadNB 13 ty_30 rfl rfl rfl rfl) rfl ?_
              refine rj_v rfl rfl (v_move rfl) rfl ?_
              refine rj_v rfl rfl (v_loadNB 13 ty_30 rfl rfl rfl rfl) rfl ?_
              refine rj_v rfl rfl (v_loadNB 12 ty_28 rfl rfl rfl rfl) rfl ?_
              refine rj_v rfl rfl (v_move rfl) rfl ?_
              refine rj_v rfl rfl (v_move rfl) rfl ?_
              refine rj_v rfl rfl (v_loadNB 13 ty_30 rfl rfl rfl rfl) rfl ?_
              refine rj_v rfl rfl (v_loadNB 11 ty_28 rfl rfl rfl rfl) rfl ?_
              refine rj_v rfl rfl (v_move rfl) rfl ?_
              refine rj_v rfl rfl (v_move rfl) rfl ?_
              refine rj_u rfl rfl (x_callv rfl en_140 (fun w s => ct_i_dotOf _ _ _ _ w (r99.toR.mono (s.get 4 rfl)) (qi.toR.mono (s.get 1 rfl)) (by first | assumption | omega) (by first | assumption | omega) (by first | assumption | omega) (by first | assumption | omega))) rfl ?_
              refine rj_u rfl rfl (x_callv rfl en_139 (fun w s => ct_i_rawElem _ _ _ _ _ _ _ _ w (by first | assumption | omega) (r3.mono (s.get 14 rfl)) (by first | assumption | omega) (by first | assumption | omega) (by first | assumption | omega))) rfl ?_
              refine rj_u rfl rfl (x_callv rfl en_140 (fun w s => ct_i_dotOf _ _ _ _ w (r102.toR.mono (s.get 3 rfl)) (qi.toR.mono (s.get 1 rfl)) (by first | assumption | omega) (by first | assumption | omega) (by first | assumption | omega) (by first | assumption | omega))) rfl ?_
              refine rj_u rfl rfl (x_callv rfl en_139 (fun w s => ct_i_rawElem _ _ _ _ _ _ _ _ w (by first | assumption | omega) (r3'.mono (s.get 14 rfl)) (by first | assumption | omega) (by first | assumption | omega) (by first | assumption | omega))) rfl ?_
              refine rj_m 0 rfl rfl rfl rfl (x_call rfl en_179 (fun w s => ct_i_mulInto _ _ _ _ _ _ _ _ _ w _ (by first | assumption | omega) (s.get 0 rfl) qz ((eltV_read r3 (by first | assumption | omega) (by first | assumption | omega) (by first | assumption | omega)).mono (s.getR 0 14 rfl rfl (by decide))) ((eltV_read r3' (by first | assumption | omega) (by first | assumption | omega) (by first | assumption | omega)).mono (s.getR 0 14 rfl rfl (by decide))) (by first | assumption | omega) (by first | assumption | omega) (by first | assumption | omega))) rfl ?_; rintro _ h126 r126
              refine rj_end ?_
              refine qs_n ?_
              refine wp_sc ?_
              refine wp_rj 8 [(0, true), (1, true), (2, true), (3, true), (4, true), (7, true), (5, false), (6, false), (8, false)] mixed_ok (by kernel_rfl) ?_
              refine rj_v rfl rfl (v_loadNB 13 ty_30 rfl rfl rfl rfl) rfl ?_
              refine rj_v rfl rfl (v_loadNB 13 ty_30 rfl rfl rfl rfl) rfl ?_
              refine rj_v rfl rfl (v_loadNB 6 ty_28 rfl rfl rfl rfl) rfl ?_
              refine rj_v rfl rfl (v_move rfl) rfl ?_
              refine rj_v rfl rfl (v_move rfl) rfl ?_
              refine rj_v rfl rfl (v_move rfl) rfl ?_
              refine rj_u rfl rfl (x_callv rfl en_140 (fun w s => ct_i_dotOf _ _ _ _ w (r105.toR.mono (s.get 2 rfl)) (qi.toR.mono (s.get 1 rfl)) (by first | assumption | omega) (by first | assumption | omega) (by first | assumption | omega) (by first | assumption | omega))) rfl ?_
              refine rj_u rfl rfl (x_callv rfl en_139 (fun w s => ct_i_rawElem _ _ _ _ _ _ _ _ w (by first | assumption | omega) (qx.toR.mono (s.get 17 rfl)) (by first | assumption | omega) (by first | assumption | omega) (by first | assumption | omega))) rfl ?_
              refine rj_m 17 rfl rfl rfl rfl (x_call rfl en_141 (fun w s => ct_i_addInto _ _ _ _ _ ((dotL (stepsL L K (K.map f)) (idxL D m) * widthI k n).toNat) (((dotL (stepsL L K (K.map f)) (idxL D m) + 1) * widthI k n).toNat) vc96 _ w _ (by first | assumption | omega) (s.get 17 rfl) qx (r126.toR.mono (s.getR 17 0 rfl rfl (by decide))) (by omega) (by omega) (by rw [hMl]; exact hZr) hMr)) rfl ?_; rintro _ h135 r135
              refine rj_end ?_
              rw [hMl] at r135
              refine qs_n ?_
              refine wp_sc ?_
              refine wp_sq ?_
              refine sq_v rfl (v_move rfl) rfl ?_
              refine sq_v rfl (v_move rfl) rfl ?_
              refine sq_m 1 rfl rfl (x_call rfl en_142 (fun w s => ct_i_nextIndex _ _ _ _ w _ (s.get 1 rfl) (q2.mono (s.getR 1 9 rfl rfl (by decide))) qi (by first | assumption | omega) (by first | assumption | omega) (by first | assumption | omega))) rfl ?_; rintro _ h138 ⟨rfl, r138⟩
              refine sq_v rfl (v_not rfl) rfl ?_
              refine sq_end ?_
              refine qs_n ?_
              refine wp_cnd rfl (fun c139 => ?_) (fun c139 => ?_)
              · refine wp_sc ?_
                refine wp_sq ?_
                refine sq_v rfl (v_loadNB 6 ty_28 rfl rfl rfl rfl) rfl ?_
                refine sq_m 10 rfl rfl (m_store 10 ty_28 rfl rfl rfl rfl (by simp [qo1.toR.sl.one, qo2.toR.sl.one, r135.toR.sl.one]) rfl (Nat.le_of_ble_eq_true rfl)) rfl ?_; rintro _ _ ⟨rfl, rfl⟩
                refine sq_v rfl (v_assign rfl) rfl ?_
                refine sq_end ?_
                refine qs_n ?_
                refine wp_rt ?_
                refine qs_br ?_
                refine qs_r ?_
                refine qs_br ?_
                refine qs_close [box b8 _ _, hp w] [go1, go2, h135] (fun _ s => s.pick [10, 14, 15, 16, 17] (by decide) rfl) (fun md => ?_)
                exact qs_retct 1 rfl ty_28 rfl rfl rfl rfl (fin_t 0 (i := 2) rfl rfl rfl (PairYes ⟨h1, h2, hnm, by rw [← eD]; omega, by rw [← hKk, ← hf]; exact hsz⟩ ⟨_, _, _, (by rw [← hKk, ← hf]; exact qo1), (by rw [← hKk, ← hf]; exact qo2), (by rw [← hKk, ← hf, pairT, ← eL, ← eDf, show (prodI D).toNat = m + 1 by omega, pairX, ← ex, ← ey, ← ez]; exact r135), md⟩))
              · refine wp_sk ?_
                refine qs_bn ?_
                exact qs_bk (m + 1, h138, h135, h126, mulL k p n (elt t.x (widthI k n) (dotL (stepsL L t.l t.d) (idxL D m))) (elt u.x (widthI k n) (dotL (stepsL L u.l u.d) (idxL D m)))) ⟨by (try dsimp only); omega, hMl, r138, by (try dsimp only); rw [pairX, ← ex, ← ey, ← ez]; exact r135, r126⟩ (by simp only; omega) ⟨rfl, rfl, rfl, rfl, rfl, rfl, rfl, rfl, rfl, rfl, rfl, rfl, trivial⟩ (fun _ s => s)
      · refine sq_v rfl (v_move rfl) rfl ?_
        refine sq_v rfl (v_not rfl) rfl ?_
        refine sq_v rfl (v_move rfl) rfl ?_
        refine sq_s rfl rfl ?_
        refine sq_s rfl rfl ?_
        refine sq_s rfl rfl ?_
        refine sq_v rfl (v_pickt rfl rfl) rfl ?_
        refine sq_end ?_
        refine qs_n ?_
        refine wp_ct rfl ?_
        refine wp_sc ?_
        refine wp_sq ?_
        refine sq_v rfl (v_build [.slice none 0 0, .slice none 0 0, .slice none 0 0] rfl (by kernel_rfl)) rfl ?_
        refine sq_m 1 rfl rfl (m_store 1 ty_28 rfl rfl rfl rfl (by simp [one_sl]) rfl (Nat.le_of_ble_eq_true rfl)) rfl ?_; rintro _ _ ⟨rfl, rfl⟩
        refine sq_v rfl (v_assign rfl) rfl ?_
        refine sq_end ?_
        refine qs_n ?_
        refine wp_rt ?_
        refine qs_r ?_
        exact qs_retct 1 rfl ty_28 rfl rfl rfl rfl (fin_e (i := 5) rfl (PairNo (fun h => by first | exact absurd (c12.symm.trans (hbb.2 h.2.2.1)) (by decide) | (have := h.2.2.2.1; rw [← eD] at this; omega))))
  · refine sq_v rfl (v_not rfl) rfl ?_
    refine sq_v rfl (v_move rfl) rfl ?_
    refine sq_s rfl rfl ?_
    refine sq_s rfl rfl ?_
    refine sq_s rfl rfl ?_
    refine sq_s rfl rfl ?_
    refine sq_v rfl (v_pickt rfl rfl) rfl ?_
    refine sq_end ?_
    refine qs_n ?_
    refine wp_ct rfl ?_
    refine wp_sc ?_
    refine wp_sq ?_
    refine sq_v rfl (v_build [.slice none 0 0, .slice none 0 0, .slice none 0 0] rfl (by kernel_rfl)) rfl ?_
    refine sq_m 0 rfl rfl (m_store 0 ty_28 rfl rfl rfl rfl (by simp [one_sl]) rfl (Nat.le_of_ble_eq_true rfl)) rfl ?_; rintro _ _ ⟨rfl, rfl⟩
    refine sq_v rfl (v_assign rfl) rfl ?_
    refine sq_end ?_
    refine qs_n ?_
    refine wp_rt ?_
    refine qs_r ?_
    exact qs_retct 0 rfl ty_28 rfl rfl rfl rfl (fin_e (i := 4) rfl (PairNo (fun h => by first | exact tensorB_false.1 c26 h.1 | exact tensorB_false.1 c33 h.2.1)))
end Go.Proofs.Ytikeobneipjfnaa
