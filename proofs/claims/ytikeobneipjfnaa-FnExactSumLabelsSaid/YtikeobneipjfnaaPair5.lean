/-
  A tensor summed over the labels that are not kept, in the program and in the reference: the same answers.
  Conditions: none.
-/
import Derived.Test.YtikeobneipjfnaaPair3
import Derived.Test.YtikeobneipjfnaaPair4
import Derived.Test.YtikeobneipjfnaaRkb
namespace Go.Proofs.Ytikeobneipjfnaa
set_option maxRecDepth 100000
open Go.RowKit
def oneT (k p n : Int) : Ten := ⟨[], [], oneL k p n⟩
theorem one_ten {k p n : Int} (h : ringL k p n) : tensorL k p n (oneT k p n).l (oneT k p n).d (oneT k p n).x := by
  have hs : sizeI [] [] = 1 := by
    have : axesL [] [] := ⟨by decide, rfl, fun j hj => by simp at hj⟩
    rw [sizeI_yes this (by decide)]; rfl
  have ho := oneL_in h
  have hw := width_range h
  refine ⟨h, by simp only [oneT]; omega, ?_, ho.2⟩
  have := ho.1
  simp only [oneT]
  rw [hs]
  omega
theorem one_mism (k p n : Int) (t : Ten) : ¬ mism t (oneT k p n) := by
  rintro ⟨i, hi, _⟩
  simp [oneT] at hi
theorem one_joinD (k p n : Int) (t : Ten) : joinD t (oneT k p n) = t.d := by simp [joinD, oneT, selP]
theorem keep_axes {k p n : Int} {t u : Ten} {f : Int → Int} {K : List Int} (ok : PairOK k p n t u f) (hs : ∀ l ∈ K, l ∈ joinI t.l u.l) (hn : K.Nodup) (h12 : K.length ≤ 12) : axesL K (K.map f) := by
  refine ⟨h12, by simp, fun j hj => ⟨?_, ?_, nodup_not_take hn hj⟩⟩
  · rcases mem_joinI.1 (hs _ (mem_getD hj)) with h | h
    · obtain ⟨i, hi, e⟩ := getD_of_mem h
      rw [← e]; exact ((ten_axes ok.tt).2.2 i hi).1
    · obtain ⟨i, hi, e⟩ := getD_of_mem h
      rw [← e]; exact ((ten_axes ok.uu).2.2 i hi).1
  · rw [map_getD hj]
    exact ok.dim _ (hs _ (mem_getD hj))
theorem sum_pair {k p n : Int} {t : Ten} (h : tensorL k p n t.l t.d t.x) (ks : List Int) : pairP k p n t (oneT k p n) ks := by
  have h1 := one_ten h.1
  have hm := one_mism k p n t
  have hp := ten_prod h
  have ok := pair_ok h h1 hm (by rw [one_joinD]; omega)
  have hd := pairP.dims h h1 hm
  have ej := hd.2.2
  refine ⟨h, h1, hm, by rw [one_joinD]; omega, sizeI_ge.2 ⟨keep_axes ok (fun l hl => (List.mem_filter.1 hl).1) (List.Pairwise.filter _ ok.nd) ?_, ?_⟩⟩
  · have h1 := List.length_filter_le (fun x => decide (x ∈ ks)) (joinI t.l (oneT k p n).l)
    have h2 := joinI_len t.l (oneT k p n).l
    have h3 := (ten_axes h).1
    have h4 : (oneT k p n).l.length = 0 := rfl
    unfold keepL
    omega
  · have hs := selP_prod (fun x => decide (x ∈ ks)) (joinI t.l (oneT k p n).l) (joinD t (oneT k p n)) (by rw [one_joinD]; exact fun d hd => (dims_mem (axes_dims (ten_axes h)) d hd).1)
    rw [ej, selP_map, ← ej, one_joinD] at hs
    exact Int.le_trans hs.2 hp
open Classical in
noncomputable def sumR (k p n : Int) (t : Ten) (ks : List Int) : Ten := if tensorL k p n t.l t.d t.x then pairT k p n (dimJ t (oneT k p n)) t (oneT k p n) (keepL t (oneT k p n) ks) else ⟨[], [], []⟩
theorem sumR_no {k p n : Int} {t : Ten} {ks : List Int} (h : ¬ tensorL k p n t.l t.d t.x) : TenT (sumR k p n t ks) (tenV (.slice none 0 0) (.slice none 0 0) (.slice none 0 0)) emp := by
  rw [sumR, if_neg h]; exact ⟨_, _, _, rfl, triO_none⟩
theorem sumR_pair {k p n : Int} {t : Ten} {ks : List Int} (h : tensorL k p n t.l t.d t.x) : pairR k p n t (oneT k p n) ks = sumR k p n t ks := by
  rw [sumR, if_pos h, pairR, if_pos (sum_pair h ks)]
set_option maxHeartbeats 2000000 in
theorem ct_s_l08Sum (k p n : Int) (t : Ten) (ks : List Int) (a b c v : Value) (w : World) (r1 : IntsR t.l a (hp w)) (r2 : IntsR t.d b (hp w)) (r3 : IntsR t.x c (hp w)) (rk : IntsR ks v (hp w)) (ht : tensorL k p n t.l t.d t.x) :
    Calls Try.prog 70 [ringV k p n, tenV a b c, v].toArray w (Ret w emp (TenT (sumR k p n t ks))) := by
  have hring := ht.1
  have hp := sum_pair ht ks
  have ok := pair_ok hp.1 hp.2.1 hp.2.2.1 hp.2.2.2.1
  have hk := keep_ok ok hp.2.2.2.2
  have h12 := (sizeI_ge.1 hp.2.2.2.2).1.1
  refine calls_in Try.func70 rfl Try.ntmps70 rfl (Sat.start w) ?_
  have hle0 := r1.le
  have hle1 := r2.le
  have hle2 := r3.le
  have hle3 := rk.le
  refine wp_sc ?_
  refine wp_sq ?_
  refine sq_x rfl (x_box rfl rfl) rfl ?_; rintro _ _ ⟨b3, rfl, rfl⟩
  refine sq_x rfl (x_box rfl rfl) rfl ?_; rintro _ _ ⟨b4, rfl, rfl⟩
  refine sq_x rfl (x_alloc ty_28 rfl) rfl ?_; rintro _ _ ⟨b6, rfl, rfl⟩
  refine sq_end ?_
  refine qs_n ?_
  refine wp_sc ?_
  refine wp_rj 7 [(0, true), (1, true), (2, true), (5, true), (3, false), (4, true), (6, false), (7, false)] mixed_ok (by kernel_rfl) ?_
  refine rj_v rfl rfl (v_loadNB 2 ty_30 rfl rfl rfl rfl) rfl ?_
  refine rj_v rfl rfl (v_loadNB 1 ty_28 rfl rfl rfl rfl) rfl ?_
  refine rj_v rfl rfl (v_loadNB 2 ty_30 rfl rfl rfl rfl) rfl ?_
  refine rj_v rfl rfl (v_move rfl) rfl ?_
  refine rj_x rfl rfl (x_call rfl en_173 (fun w s => ct_s_l02One _ _ _ w (by first | assumption | omega))) rfl ?_; rintro v10 h10 r10
  refine rj_v rfl rfl (v_build [.slice none 0 0, .slice none 0 0, v10] rfl (by obtain ⟨_, _, rfl⟩ := r10.toR.sl; kernel_rfl)) rfl ?_
  refine rj_x rfl rfl (x_call rfl en_172 (fun w s => ct_s_l08Pair _ _ _ _ (oneT k p n) (dimJ t (oneT k p n)) (keepL t (oneT k p n) ks) _ _ _ _ _ _ _ _ w (r1.mono (s.get 4 rfl)) (r2.mono (s.get 4 rfl)) (r3.mono (s.get 4 rfl)) (IntsR.nil _) (IntsR.nil _) (r10.toR.mono (s.get 0 rfl)) (rk.mono (s.get 4 rfl)) ok rfl hk h12)) rfl ?_; rintro _ h13 ⟨va13, vb13, vc13, rfl, o13⟩
  refine rj_m 2 rfl rfl rfl rfl (m_store 2 ty_28 rfl rfl rfl rfl (by simp [o13.toR.1.sl.one, o13.toR.2.1.sl.one, o13.toR.2.2.sl.one]) rfl (Nat.le_of_ble_eq_true rfl)) rfl ?_; rintro _ _ ⟨rfl, rfl⟩
  refine rj_end ?_
  refine qs_n ?_
  refine wp_rt ?_
  exact qs_retc 2 rfl ty_28 rfl rfl rfl (fin_t 0 (i := 5) rfl rfl rfl (by rw [sumR, if_pos ht]; exact ⟨_, _, _, rfl, o13⟩))
set_option maxHeartbeats 2000000 in
theorem ct_s_SumLabels (k p n : Int) (t : Ten) (ks : List Int) (a b c v : Value) (w : World) (r1 : IntsR t.l a (hp w)) (r2 : IntsR t.d b (hp w)) (r3 : IntsR t.x c (hp w)) (rk : IntsR ks v (hp w)) :
    Calls Try.prog 16 [ringV k p n, tenV a b c, v].toArray w (Ret w emp (TenT (sumR k p n t ks))) := by
  refine calls_in Try.func16 rfl Try.ntmps16 rfl (Sat.start w) ?_
  have hle0 := r1.le
  have hle1 := r2.le
  have hle2 := r3.le
  have hle3 := rk.le
  refine wp_sc ?_
  refine wp_sq ?_
  refine sq_x rfl (x_box rfl rfl) rfl ?_; rintro _ _ ⟨b3, rfl, rfl⟩
  refine sq_x rfl (x_box rfl rfl) rfl ?_; rintro _ _ ⟨b4, rfl, rfl⟩
  refine sq_x rfl (x_alloc ty_28 rfl) rfl ?_; rintro _ _ ⟨b6, rfl, rfl⟩
  refine sq_end ?_
  refine qs_n ?_
  refine wp_sc ?_
  refine wp_sc ?_
  refine wp_sq ?_
  refine sq_v rfl (v_loadNB 2 ty_30 rfl rfl rfl rfl) rfl ?_
  refine sq_v rfl (v_loadNB 1 ty_28 rfl rfl rfl rfl) rfl ?_
  refine sq_u rfl (x_callv rfl en_69 (fun w s => ct_s_TensorOk _ _ _ _ _ _ _ _ _ w (r1.mono (s.get 3 rfl)) (r2.mono (s.get 3 rfl)) (r3.mono (s.get 3 rfl)))) rfl ?_
  refine sq_v rfl (v_not rfl) rfl ?_
  refine sq_end ?_
  refine qs_n ?_
  refine wp_cn _ rfl (fun c10 => ?_) (fun c10 => ?_)
  · refine wp_sc ?_
    refine wp_sq ?_
    refine sq_v rfl (v_build [.slice none 0 0, .slice none 0 0, .slice none 0 0] rfl (by kernel_rfl)) rfl ?_
    refine sq_m 0 rfl rfl (m_store 0 ty_28 rfl rfl rfl rfl (by simp [one_sl]) rfl (Nat.le_of_ble_eq_true rfl)) rfl ?_; rintro _ _ ⟨rfl, rfl⟩
    refine sq_end ?_
    refine qs_n ?_
    refine wp_rt ?_
    refine qs_r ?_
    exact qs_retc 0 rfl ty_28 rfl rfl rfl (fin_e (i := 3) rfl (sumR_no (tensorB_false.1 c10)))
  · refine wp_sk ?_
    refine qs_n ?_
    refine wp_sc ?_
    refine wp_sq ?_
    refine sq_v rfl (v_loadNB 2 ty_30 rfl rfl rfl rfl) rfl ?_
    refine sq_v rfl (v_loadNB 1 ty_28 rfl rfl rfl rfl) rfl ?_
    refine sq_v rfl (v_move rfl) rfl ?_
    refine sq_x rfl (x_call rfl en_70 (fun w s => ct_s_l08Sum _ _ _ _ _ _ _ _ _ w (r1.mono (s.get 3 rfl)) (r2.mono (s.get 3 rfl)) (r3.mono (s.get 3 rfl)) (rk.mono (s.get 3 rfl)) (tensorB_true.1 c10))) rfl ?_; rintro _ h15 ⟨va15, vb15, vc15, rfl, o15⟩
    refine sq_m 1 rfl rfl (m_store 1 ty_28 rfl rfl rfl rfl (by simp [o15.toR.1.sl.one, o15.toR.2.1.sl.one, o15.toR.2.2.sl.one]) rfl (Nat.le_of_ble_eq_true rfl)) rfl ?_; rintro _ _ ⟨rfl, rfl⟩
    refine sq_end ?_
    refine qs_n ?_
    refine wp_rt ?_
    exact qs_retc 1 rfl ty_28 rfl rfl rfl (fin_t 0 (i := 4) rfl rfl rfl (⟨_, _, _, rfl, o15⟩))
set_option maxHeartbeats 2000000 in
theorem ct_i_SumLabels (k p n : Int) (t : Ten) (ks : List Int) (a b c v : Value) (w : World) (r1 : IntsR t.l a (hp w)) (r2 : IntsR t.d b (hp w)) (r3 : IntsR t.x c (hp w)) (rk : IntsR ks v (hp w)) :
    Calls Try.prog 20 [ringV k p n, tenV a b c, v].toArray w (Ret w emp (TenT (sumR k p n t ks))) := by
  refine calls_in Try.func20 rfl Try.ntmps20 rfl (Sat.start w) ?_
  have hle0 := r1.le
  have hle1 := r2.le
  have hle2 := r3.le
  have hle3 := rk.le
  refine wp_sc ?_
  refine wp_sq ?_
  refine sq_x rfl (x_box rfl rfl) rfl ?_; rintro _ _ ⟨b3, rfl, rfl⟩
  refine sq_x rfl (x_box rfl rfl) rfl ?_; rintro _ _ ⟨b4, rfl, rfl⟩
  refine sq_x rfl (x_alloc ty_28 rfl) rfl ?_; rintro _ _ ⟨b6, rfl, rfl⟩
  refine sq_end ?_
  refine qs_n ?_
  refine wp_sc ?_
  refine wp_sc ?_
  refine wp_sq ?_
  refine sq_v rfl (v_loadNB 2 ty_30 rfl rfl rfl rfl) rfl ?_
  refine sq_v rfl (v_loadNB 1 ty_28 rfl rfl rfl rfl) rfl ?_
  refine sq_u rfl (x_callv rfl en_71 (fun w s => ct_i_TensorOk _ _ _ _ _ _ _ _ _ w (r1.mono (s.get 3 rfl)) (r2.mono (s.get 3 rfl)) (r3.mono (s.get 3 rfl)))) rfl ?_
  refine sq_v rfl (v_not rfl) rfl ?_
  refine sq_end ?_
  refine qs_n ?_
  refine wp_cn _ rfl (fun c12 => ?_) (fun c12 => ?_)
  · refine wp_sc ?_
    refine wp_sq ?_
    refine sq_v rfl (v_build [.slice none 0 0, .slice none 0 0, .slice none 0 0] rfl (by kernel_rfl)) rfl ?_
    refine sq_m 0 rfl rfl (m_store 0 ty_28 rfl rfl rfl rfl (by simp [one_sl]) rfl (Nat.le_of_ble_eq_true rfl)) rfl ?_; rintro _ _ ⟨rfl, rfl⟩
    refine sq_end ?_
    refine qs_n ?_
    refine wp_rt ?_
    refine qs_r ?_
    exact qs_retc 0 rfl ty_28 rfl rfl rfl (fin_e (i := 3) rfl (sumR_no (tensorB_false.1 c12)))
  · refine wp_sk ?_
    refine qs_n ?_
    refine wp_sc ?_
    refine wp_ra (σ := Nat × PH × PH × Value × Value × Value × Value × Value × Value) 11 (fun z_ => TriO ⟨[], [], oneL k p n⟩ z_.2.2.2.1 z_.2.2.2.2.1 z_.2.2.2.2.2.1 z_.2.2.1 ∧ TriO (pairR k p n t ⟨[], [], oneL k p n⟩ ks) z_.2.2.2.2.2.2.1 z_.2.2.2.2.2.2.2.1 z_.2.2.2.2.2.2.2.2 z_.2.1) (fun z_ => [(6, .pointer (some ⟨b6, 0, none⟩)), (7, .pointer (some ⟨z_.1, 0, none⟩)), (12, .bool (!(tensorB k p n t.l t.d t.x)))]) (fun z_ => [box z_.1 [z_.2.2.2.2.2.2.1, z_.2.2.2.2.2.2.2.1, z_.2.2.2.2.2.2.2.2] 28, z_.2.1, z_.2.2.1, box b6 [.slice none 0 0, .slice none 0 0, .slice none 0 0] 28, box b4 [a, b, c] 28, box b3 [num k, num p, num n] 30, hp w]) mixed_ok (by kernel_rfl) ?_ ?_
    · refine rak_of ?_
      have ht := tensorB_true.1 c12; have hring := ht.1
      refine rak_v (i := 0) (by kernel_rfl) rfl rfl (v_loadNB 2 ty_30 rfl rfl rfl rfl) rfl ?_
      refine rak_v (i := 1) (by kernel_rfl) rfl rfl (v_loadNB 1 ty_28 rfl rfl rfl rfl) rfl ?_
      refine rak_v (i := 2) (by kernel_rfl) rfl rfl (v_loadNB 2 ty_30 rfl rfl rfl rfl) rfl ?_
      refine rak_v (i := 4) (by kernel_rfl) rfl rfl (v_move rfl) rfl ?_
      refine rak_2 (i := 3) (j := 9) (by kernel_rfl) ?_ ?_
      · refine rok_x rfl rfl (x_call rfl en_73 (fun w s => ct_i_scalarOne _ _ _ w (by first | assumption | omega))) rfl ?_; rintro _ h18 ⟨va18, vb18, vc18, rfl, o18⟩
        refine rak_2 (i := 5) (j := 9) (by kernel_rfl) ?_ ?_
        · refine rok_x rfl rfl (x_call rfl en_72 (fun w s => ct_i_ContractPair _ _ _ _ _ _ _ _ _ _ _ _ _ w (r1.mono (s.get 4 rfl)) (r2.mono (s.get 4 rfl)) (r3.mono (s.get 4 rfl)) (o18.toR.1.mono (s.get 0 rfl)) (o18.toR.2.1.mono (s.get 0 rfl)) (o18.toR.2.2.mono (s.get 0 rfl)) (rk.mono (s.get 4 rfl)))) rfl ?_; rintro _ h20 ⟨va20, vb20, vc20, rfl, o20⟩
          refine rak_rk [(6, true), (7, true), (8, true), (9, false), (10, false), (11, false)] (by kernel_rfl) rfl ?_
          refine rk_v rfl rfl (v_move rfl) rfl ?_
          refine rk_v rfl rfl (v_extract rfl rfl) rfl ?_
          refine rk_v rfl rfl (v_extract rfl rfl) rfl ?_
          refine rk_xb rfl rfl (x_alloc ty_28 rfl) rfl ?_; rintro _ _ ⟨b7, rfl, rfl⟩
          refine rk_m 0 rfl rfl rfl rfl (m_store 0 ty_28 rfl rfl rfl rfl (by simp [o20.toR.1.sl.one, o20.toR.2.1.sl.one, o20.toR.2.2.sl.one]) rfl (Nat.le_of_ble_eq_true rfl)) rfl ?_; rintro _ _ ⟨rfl, rfl⟩
          refine rk_fv rfl rfl (v_assign rfl) rfl ?_
          refine rk_end ?_
          exact qs_mid (b7, h20, h18, va18, vb18, vc18, va20, vb20, vc20) ⟨o18, o20⟩ ⟨rfl, rfl, rfl, trivial⟩ (fun _ s => s.pick [0, 1, 2, 3, 4, 5, 6] (by decide) rfl)
        · refine rok_xb rfl rfl (x_alloc ty_28 rfl) rfl ?_; rintro _ _ ⟨b7, rfl, rfl⟩
          refine rak_rk [(5, false), (6, true), (7, true), (8, true), (10, false), (11, false)] (by kernel_rfl) rfl ?_
          refine rk_x rfl rfl (x_call rfl en_72 (fun w s => ct_i_ContractPair _ _ _ _ _ _ _ _ _ _ _ _ _ w (r1.mono (s.get 5 rfl)) (r2.mono (s.get 5 rfl)) (r3.mono (s.get 5 rfl)) (o18.toR.1.mono (s.get 1 rfl)) (o18.toR.2.1.mono (s.get 1 rfl)) (o18.toR.2.2.mono (s.get 1 rfl)) (rk.mono (s.get 5 rfl)))) rfl ?_; rintro _ h20 ⟨va20, vb20, vc20, rfl, o20⟩
          refine rk_v rfl rfl (v_move rfl) rfl ?_
          refine rk_v rfl rfl (v_extract rfl rfl) rfl ?_
          refine rk_v rfl rfl (v_extract rfl rfl) rfl ?_
          refine rk_m 1 rfl rfl rfl rfl (m_store 1 ty_28 rfl rfl rfl rfl (by simp [o20.toR.1.sl.one, o20.toR.2.1.sl.one, o20.toR.2.2.sl.one]) rfl (Nat.le_of_ble_eq_true rfl)) rfl ?_; rintro _ _ ⟨rfl, rfl⟩
          refine rk_fv rfl rfl (v_assign rfl) rfl ?_
          refine rk_end ?_
          exact qs_mid (b7, h20, h18, va18, vb18, vc18, va20, vb20, vc20) ⟨o18, o20⟩ ⟨rfl, rfl, rfl, trivial⟩ (fun _ s => s.pick [1, 0, 2, 3, 4, 5, 6] (by decide) rfl)
      · refine rok_xb rfl rfl (x_alloc ty_28 rfl) rfl ?_; rintro _ _ ⟨b7, rfl, rfl⟩
        refine rak_rk [(3, false), (5, false), (6, true), (7, true), (8, true), (10, false), (11, false)] (by kernel_rfl) rfl ?_
        refine rk_x rfl rfl (x_call rfl en_73 (fun w s => ct_i_scalarOne _ _ _ w (by first | assumption | omega))) rfl ?_; rintro _ h18 ⟨va18, vb18, vc18, rfl, o18⟩
        refine rk_x rfl rfl (x_call rfl en_72 (fun w s => ct_i_ContractPair _ _ _ _ _ _ _ _ _ _ _ _ _ w (r1.mono (s.get 5 rfl)) (r2.mono (s.get 5 rfl)) (r3.mono (s.get 5 rfl)) (o18.toR.1.mono (s.get 0 rfl)) (o18.toR.2.1.mono (s.get 0 rfl)) (o18.toR.2.2.mono (s.get 0 rfl)) (rk.mono (s.get 5 rfl)))) rfl ?_; rintro _ h20 ⟨va20, vb20, vc20, rfl, o20⟩
        refine rk_v rfl rfl (v_move rfl) rfl ?_
        refine rk_v rfl rfl (v_extract rfl rfl) rfl ?_
        refine rk_v rfl rfl (v_extract rfl rfl) rfl ?_
        refine rk_m 2 rfl rfl rfl rfl (m_store 2 ty_28 rfl rfl rfl rfl (by simp [o20.toR.1.sl.one, o20.toR.2.1.sl.one, o20.toR.2.2.sl.one]) rfl (Nat.le_of_ble_eq_true rfl)) rfl ?_; rintro _ _ ⟨rfl, rfl⟩
        refine rk_fv rfl rfl (v_assign rfl) rfl ?_
        refine rk_end ?_
        exact qs_mid (b7, h20, h18, va18, vb18, vc18, va20, vb20, vc20) ⟨o18, o20⟩ ⟨rfl, rfl, rfl, trivial⟩ (fun _ s => s.pick [2, 0, 1, 3, 4, 5, 6] (by decide) rfl)
    · rintro ⟨b7, h20, h18, va18, vb18, vc18, va20, vb20, vc20⟩ ⟨o18, o20⟩
      dsimp only at o18 o20 ⊢
      refine qs_n ?_
      refine wp_sc ?_
      refine wp_sq ?_
      refine sq_v rfl (v_loadNB 0 ty_28 rfl rfl rfl rfl) rfl ?_
      refine sq_m 3 rfl rfl (m_store 3 ty_28 rfl rfl rfl rfl (by simp [o20.toR.1.sl.one, o20.toR.2.1.sl.one, o20.toR.2.2.sl.one]) rfl (Nat.le_of_ble_eq_true rfl)) rfl ?_; rintro _ _ ⟨rfl, rfl⟩
      refine sq_end ?_
      refine qs_n ?_
      refine wp_rt ?_
      exact qs_retc 3 rfl ty_28 rfl rfl rfl (fin_t 1 (i := 6) rfl rfl rfl (by have ht := tensorB_true.1 c12; rw [← sumR_pair ht]; exact ⟨_, _, _, rfl, o20⟩))
end Go.Proofs.Ytikeobneipjfnaa
