/-
  At every ring, tensor and list of labels the program's SumLabels returns what the reference's returns; the result shares no memory with an argument.
  Conditions: none.
-/
import Derived.Test.YtikeobneipjfnaaCard
import Derived.Test.YtikeobneipjfnaaLiftTen
import Derived.Test.YtikeobneipjfnaaPair5
namespace Go.Proofs.Ytikeobneipjfnaa
set_option maxRecDepth 100000
open Go.ChangeShapes Go.WideShapes Go.ChangeAt Go.RowKit
theorem sum_size (k p n : Int) (t : Ten) (ks : List Int) : 0 ≤ tenSize (sumR k p n t ks) ∧ tenSize (sumR k p n t ks) ≤ 1000000 := by
  refine ⟨tenSize_nn _, ?_⟩
  by_cases h : tensorL k p n t.l t.d t.x
  · have hp := sum_pair h ks
    have ok := pair_ok hp.1 hp.2.1 hp.2.2.1 hp.2.2.2.1
    have hk := keep_ok ok hp.2.2.2.2
    have h12 := (sizeI_ge.1 hp.2.2.2.2).1.1
    have hs := ok.small hk (prodI ((joinI t.l (oneT k p n).l).map (dimJ t (oneT k p n)))).toNat
    rw [sumR, if_pos h]
    simp only [tenSize, pairT, List.length_map]
    omega
  · rw [sumR, if_neg h]; simp [tenSize]
set_option maxHeartbeats 4000000 in
theorem ct_l_FnExactSumLabels (k p n : Int) (t : Ten) (ks : List Int) (a b c v : Value) (w : World) (r1 : IntsR t.l a (hp w)) (r2 : IntsR t.d b (hp w)) (r3 : IntsR t.x c (hp w)) (rk : IntsR ks v (hp w)) :
    Calls Try.prog 3 [ringV k p n, tenV a b c, v].toArray w (RetV w (.bool true)) := by
  have htn := tenSize_nn t
  have hrs := sum_size k p n t ks
  refine calls_in Try.func3 rfl Try.ntmps3 rfl (Sat.start w) ?_
  have hle0 := r1.le
  have hle1 := r2.le
  have hle2 := r3.le
  have hle3 := rk.le
  refine wp_sc ?_
  refine wp_sq ?_
  refine sq_x rfl (x_box rfl rfl) rfl ?_; rintro _ _ ⟨b3, rfl, rfl⟩
  refine sq_x rfl (x_box rfl rfl) rfl ?_; rintro _ _ ⟨b4, rfl, rfl⟩
  refine sq_v rfl (v_assign rfl) rfl ?_
  refine sq_end ?_
  refine qs_n ?_
  refine wp_sc ?_
  refine wp_sc ?_
  refine wp_sq ?_
  refine sq_v rfl (v_move rfl) rfl ?_
  refine sq_v rfl (v_len Try.underlying24 rfl rk.sl) rfl ?_
  refine sq_v rfl (v_gtr rfl rfl) rfl ?_
  refine sq_end ?_
  refine qs_n ?_
  refine wp_cd rfl (fun c18 => ?_) (fun c18 => ?_)
  · refine wp_sc ?_
    refine wp_sq ?_
    refine sq_v rfl (v_assign rfl) rfl ?_
    refine sq_end ?_
    refine qs_n ?_
    refine wp_rt ?_
    refine qs_r ?_
    exact qs_ret1 rfl rfl (fin_v (i := 2) rfl)
  · refine wp_sk ?_
    refine qs_n ?_
    refine wp_sc ?_
    refine wp_sq ?_
    refine sq_v rfl (v_assign rfl) rfl ?_
    refine sq_end ?_
    refine qs_n ?_
    refine wp_sc ?_
    refine wp_sq ?_
    refine sq_v rfl (v_loadNB 0 ty_26 rfl rfl rfl rfl) rfl ?_
    refine sq_v rfl (v_move rfl) rfl ?_
    refine sq_u rfl (x_callv rfl en_15 (fun w s => ct_l_szTensor _ _ _ _ _ w (r1.mono (s.get 2 rfl)) (r2.mono (s.get 2 rfl)) (r3.mono (s.get 2 rfl)) (by first | assumption | exact iota_held _ _ | omega | rfl))) rfl ?_
    refine sq_v rfl (v_assign rfl) rfl ?_
    refine sq_end ?_
    refine qs_n ?_
    refine wp_sc ?_
    refine wp_sc ?_
    refine wp_sq ?_
    refine sq_v rfl (v_move rfl) rfl ?_
    refine sq_v rfl (v_lss rfl rfl) rfl ?_
    refine sq_end ?_
    refine qs_n ?_
    refine wp_cd rfl (fun c23 => ?_) (fun c23 => ?_)
    · refine wp_sc ?_
      refine wp_sq ?_
      refine sq_v rfl (v_assign rfl) rfl ?_
      refine sq_end ?_
      refine qs_n ?_
      refine wp_rt ?_
      refine qs_r ?_
      exact qs_ret1 rfl rfl (fin_v (i := 2) rfl)
    · have hz23 := szV_ge c23
      refine wp_sk ?_
      refine qs_n ?_
      refine wp_sc ?_
      refine wp_ra (σ := Nat × PH × PH × Value × PH × Value × Value × Value × Value × Value × Value) 8 (fun z_ => IntsO ks z_.2.2.2.1 z_.2.2.1 ∧ TriO t z_.2.2.2.2.2.1 z_.2.2.2.2.2.2.1 z_.2.2.2.2.2.2.2.1 z_.2.2.2.2.1 ∧ TriO (sumR k p n t ks) z_.2.2.2.2.2.2.2.2.1 z_.2.2.2.2.2.2.2.2.2.1 z_.2.2.2.2.2.2.2.2.2.2 z_.2.1) (fun z_ => [(2, v), (3, .pointer (some ⟨b3, 0, none⟩)), (4, .pointer (some ⟨b4, 0, none⟩)), (6, .bool false), (8, .pointer (some ⟨z_.1, 0, none⟩)), (18, .bool (decide ((1048576 : Int) < ks.length))), (23, .bool (decide ((szV 1048576 (tenSize t) : Int) < 0)))]) (fun z_ => [box z_.1 [z_.2.2.2.2.2.2.2.2.1, z_.2.2.2.2.2.2.2.2.2.1, z_.2.2.2.2.2.2.2.2.2.2] 28, z_.2.1, z_.2.2.1, z_.2.2.2.2.1, box b4 [a, b, c] 26, box b3 [num k, num p, num n] 23, hp w]) mixed_ok (by kernel_rfl) ?_ ?_
      · refine ra_v (i := 0) (by kernel_rfl) rfl rfl (v_loadNB 1 ty_23 rfl rfl rfl rfl) rfl ?_
        refine ra_v (i := 2) (by kernel_rfl) rfl rfl (v_loadNB 0 ty_26 rfl rfl rfl rfl) rfl ?_
        refine ra_v (i := 4) (by kernel_rfl) rfl rfl (v_move rfl) rfl ?_
        refine ra_2 (i := 1) (j := 7) (by kernel_rfl) ?_ ?_
        · refine ro_u rfl rfl (x_callv rfl en_17 (fun w s => ct_l_toRing _ _ _ w)) rfl ?_
          refine ra_2 (i := 3) (j := 7) (by kernel_rfl) ?_ ?_
          · refine ro_x rfl rfl (x_call rfl en_18 (fun w s => ct_L_toTensor _ _ _ _ w (r1.mono (s.get 2 rfl)) (r2.mono (s.get 2 rfl)) (r3.mono (s.get 2 rfl)) (by first | assumption | exact iota_held _ _ | omega | rfl))) rfl ?_; rintro _ h27 ⟨va27, vb27, vc27, rfl, o27⟩
            refine ra_2 (i := 5) (j := 7) (by kernel_rfl) ?_ ?_
            · refine ro_x rfl rfl (x_call rfl en_19 (fun w s => ct_l_toIntS _ _ w (rk.mono (s.get 3 rfl)) (by first | assumption | exact iota_held _ _ | omega | rfl))) rfl ?_; rintro v29 h29 r29
              refine ra_2 (i := 6) (j := 7) (by kernel_rfl) ?_ ?_
              · refine ro_x rfl rfl (x_call rfl en_16 (fun w s => ct_s_SumLabels _ _ _ _ _ _ _ _ _ w (o27.toR.1.mono (s.get 1 rfl)) (o27.toR.2.1.mono (s.get 1 rfl)) (o27.toR.2.2.mono (s.get 1 rfl)) (r29.toR.mono (s.get 0 rfl)))) rfl ?_; rintro _ h30 ⟨va30, vb30, vc30, rfl, o30⟩
                refine ra_rj [(7, false), (8, false)] (by kernel_rfl) rfl ?_
                refine rj_x rfl rfl (x_alloc ty_28 rfl) rfl ?_; rintro _ _ ⟨b8, rfl, rfl⟩
                refine rj_m 0 rfl rfl rfl rfl (m_store 0 ty_28 rfl rfl rfl rfl (by simp [o30.toR.1.sl.one, o30.toR.2.1.sl.one, o30.toR.2.2.sl.one]) rfl (Nat.le_of_ble_eq_true rfl)) rfl ?_; rintro _ _ ⟨rfl, rfl⟩
                refine rj_end ?_
                exact qs_mid (b8, h30, h29, v29, h27, va27, vb27, vc27, va30, vb30, vc30) ⟨r29, o27, o30⟩ ⟨rfl, rfl, rfl, rfl, rfl, rfl, rfl, trivial⟩ (fun _ s => s.pick [0, 1, 2, 3, 4, 5, 6] (by decide) rfl)
              · refine ro_x rfl rfl (x_alloc ty_28 rfl) rfl ?_; rintro _ _ ⟨b8, rfl, rfl⟩
                refine ra_rj [(6, false), (8, false)] (by kernel_rfl) rfl ?_
                refine rj_x rfl rfl (x_call rfl en_16 (fun w s => ct_s_SumLabels _ _ _ _ _ _ _ _ _ w (o27.toR.1.mono (s.get 2 rfl)) (o27.toR.2.1.mono (s.get 2 rfl)) (o27.toR.2.2.mono (s.get 2 rfl)) (r29.toR.mono (s.get 1 rfl)))) rfl ?_; rintro _ h30 ⟨va30, vb30, vc30, rfl, o30⟩
                refine rj_m 1 rfl rfl rfl rfl (m_store 1 ty_28 rfl rfl rfl rfl (by simp [o30.toR.1.sl.one, o30.toR.2.1.sl.one, o30.toR.2.2.sl.one]) rfl (Nat.le_of_ble_eq_true rfl)) rfl ?_; rintro _ _ ⟨rfl, rfl⟩
                refine rj_end ?_
                exact qs_mid (b8, h30, h29, v29, h27, va27, vb27, vc27, va30, vb30, vc30) ⟨r29, o27, o30⟩ ⟨rfl, rfl, rfl, rfl, rfl, rfl, rfl, trivial⟩ (fun _ s => s.pick [1, 0, 2, 3, 4, 5, 6] (by decide) rfl)
            · refine ro_x rfl rfl (x_alloc ty_28 rfl) rfl ?_; rintro _ _ ⟨b8, rfl, rfl⟩
              refine ra_rj [(5, false), (6, false), (8, false)] (by kernel_rfl) rfl ?_
              refine rj_x rfl rfl (x_call rfl en_19 (fun w s => ct_l_toIntS _ _ w (rk.mono (s.get 4 rfl)) (by first | assumption | exact iota_held _ _ | omega | rfl))) rfl ?_; rintro v29 h29 r29
              refine rj_x rfl rfl (x_call rfl en_16 (fun w s => ct_s_SumLabels _ _ _ _ _ _ _ _ _ w (o27.toR.1.mono (s.get 2 rfl)) (o27.toR.2.1.mono (s.get 2 rfl)) (o27.toR.2.2.mono (s.get 2 rfl)) (r29.toR.mono (s.get 0 rfl)))) rfl ?_; rintro _ h30 ⟨va30, vb30, vc30, rfl, o30⟩
              refine rj_m 2 rfl rfl rfl rfl (m_store 2 ty_28 rfl rfl rfl rfl (by simp [o30.toR.1.sl.one, o30.toR.2.1.sl.one, o30.toR.2.2.sl.one]) rfl (Nat.le_of_ble_eq_true rfl)) rfl ?_; rintro _ _ ⟨rfl, rfl⟩
              refine rj_end ?_
              exact qs_mid (b8, h30, h29, v29, h27, va27, vb27, vc27, va30, vb30, vc30) ⟨r29, o27, o30⟩ ⟨rfl, rfl, rfl, rfl, rfl, rfl, rfl, trivial⟩ (fun _ s => s.pick [2, 0, 1, 3, 4, 5, 6] (by decide) rfl)
          · refine ro_x rfl rfl (x_alloc ty_28 rfl) rfl ?_; rintro _ _ ⟨b8, rfl, rfl⟩
            refine ra_rj [(3, false), (5, false), (6, false), (8, false)] (by kernel_rfl) rfl ?_
            refine rj_x rfl rfl (x_call rfl en_18 (fun w s => ct_L_toTensor _ _ _ _ w (r1.mono (s.get 3 rfl)) (r2.mono (s.get 3 rfl)) (r3.mono (s.get 3 rfl)) (by first | assumption | exact iota_held _ _ | omega | rfl))) rfl ?_; rintro _ h27 ⟨va27, vb27, vc27, rfl, o27⟩
            refine rj_x rfl rfl (x_call rfl en_19 (fun w s => ct_l_toIntS _ _ w (rk.mono (s.get 4 rfl)) (by first | assumption | exact iota_held _ _ | omega | rfl))) rfl ?_; rintro v29 h29 r29
            refine rj_x rfl rfl (x_call rfl en_16 (fun w s => ct_s_SumLabels _ _ _ _ _ _ _ _ _ w (o27.toR.1.mono (s.get 1 rfl)) (o27.toR.2.1.mono (s.get 1 rfl)) (o27.toR.2.2.mono (s.get 1 rfl)) (r29.toR.mono (s.get 0 rfl)))) rfl ?_; rintro _ h30 ⟨va30, vb30, vc30, rfl, o30⟩
            refine rj_m 3 rfl rfl rfl rfl (m_store 3 ty_28 rfl rfl rfl rfl (by simp [o30.toR.1.sl.one, o30.toR.2.1.sl.one, o30.toR.2.2.sl.one]) rfl (Nat.le_of_ble_eq_true rfl)) rfl ?_; rintro _ _ ⟨rfl, rfl⟩
            refine rj_end ?_
            exact qs_mid (b8, h30, h29, v29, h27, va27, vb27, vc27, va30, vb30, vc30) ⟨r29, o27, o30⟩ ⟨rfl, rfl, rfl, rfl, rfl, rfl, rfl, trivial⟩ (fun _ s => s.pick [3, 0, 1, 2, 4, 5, 6] (by decide) rfl)
        · refine ro_x rfl rfl (x_alloc ty_28 rfl) rfl ?_; rintro _ _ ⟨b8, rfl, rfl⟩
          refine ra_rj [(1, false), (3, false), (5, false), (6, false), (8, false)] (by kernel_rfl) rfl ?_
          refine rj_u rfl rfl (x_callv rfl en_17 (fun w s => ct_l_toRing _ _ _ w)) rfl ?_
          refine rj_x rfl rfl (x_call rfl en_18 (fun w s => ct_L_toTensor _ _ _ _ w (r1.mono (s.get 3 rfl)) (r2.mono (s.get 3 rfl)) (r3.mono (s.get 3 rfl)) (by first | assumption | exact iota_held _ _ | omega | rfl))) rfl ?_; rintro _ h27 ⟨va27, vb27, vc27, rfl, o27⟩
          refine rj_x rfl rfl (x_call rfl en_19 (fun w s => ct_l_toIntS _ _ w (rk.mono (s.get 4 rfl)) (by first | assumption | exact iota_held _ _ | omega | rfl))) rfl ?_; rintro v29 h29 r29
          refine rj_x rfl rfl (x_call rfl en_16 (fun w s => ct_s_SumLabels _ _ _ _ _ _ _ _ _ w (o27.toR.1.mono (s.get 1 rfl)) (o27.toR.2.1.mono (s.get 1 rfl)) (o27.toR.2.2.mono (s.get 1 rfl)) (r29.toR.mono (s.get 0 rfl)))) rfl ?_; rintro _ h30 ⟨va30, vb30, vc30, rfl, o30⟩
          refine rj_m 3 rfl rfl rfl rfl (m_store 3 ty_28 rfl rfl rfl rfl (by simp [o30.toR.1.sl.one, o30.toR.2.1.sl.one, o30.toR.2.2.sl.one]) rfl (Nat.le_of_ble_eq_true rfl)) rfl ?_; rintro _ _ ⟨rfl, rfl⟩
          refine rj_end ?_
          exact qs_mid (b8, h30, h29, v29, h27, va27, vb27, vc27, va30, vb30, vc30) ⟨r29, o27, o30⟩ ⟨rfl, rfl, rfl, rfl, rfl, rfl, rfl, trivial⟩ (fun _ s => s.pick [3, 0, 1, 2, 4, 5, 6] (by decide) rfl)
      · rintro ⟨b8, h30, h29, v29, h27, va27, vb27, vc27, va30, vb30, vc30⟩ ⟨r29, o27, o30⟩
        dsimp only at r29 o27 o30 ⊢
        refine qs_n ?_
        refine wp_sc ?_
        refine wp_sq ?_
        refine sq_v rfl (v_loadNB 4 ty_26 rfl rfl rfl rfl) rfl ?_
        refine sq_x rfl (x_call rfl en_18 (fun w s => ct_L_toTensor _ _ _ _ w (r1.mono (s.get 6 rfl)) (r2.mono (s.get 6 rfl)) (r3.mono (s.get 6 rfl)) (by first | assumption | exact iota_held _ _ | omega | rfl))) rfl ?_; rintro _ h32 ⟨va32, vb32, vc32, rfl, o32⟩
        refine sq_x rfl (x_alloc ty_28 rfl) rfl ?_; rintro _ _ ⟨b9, rfl, rfl⟩
        refine sq_m 0 rfl rfl (m_store 0 ty_28 rfl rfl rfl rfl (by simp [o32.toR.1.sl.one, o32.toR.2.1.sl.one, o32.toR.2.2.sl.one]) rfl (Nat.le_of_ble_eq_true rfl)) rfl ?_; rintro _ _ ⟨rfl, rfl⟩
        refine sq_end ?_
        refine qs_n ?_
        refine wp_sc ?_
        refine wp_sq ?_
        refine sq_v rfl (v_move rfl) rfl ?_
        refine sq_x rfl (x_call rfl en_19 (fun w s => ct_l_toIntS _ _ w (rk.mono (s.get 8 rfl)) (by first | assumption | exact iota_held _ _ | omega | rfl))) rfl ?_; rintro v34 h34 r34
        refine sq_v rfl (v_assign rfl) rfl ?_
        refine sq_end ?_
        refine qs_n ?_
        refine wp_sc ?_
        refine wp_ra (σ := Nat × PH × Value × Value × Value) 6 (fun z_ => TriO (sumR k p n t ks) z_.2.2.1 z_.2.2.2.1 z_.2.2.2.2 z_.2.1) (fun z_ => [(2, v), (3, .pointer (some ⟨b3, 0, none⟩)), (4, .pointer (some ⟨b4, 0, none⟩)), (6, .bool false), (8, .pointer (some ⟨b8, 0, none⟩)), (9, .pointer (some ⟨b9, 0, none⟩)), (10, v34), (11, .pointer (some ⟨z_.1, 0, none⟩)), (18, .bool (decide ((1048576 : Int) < ks.length))), (23, .bool (decide ((szV 1048576 (tenSize t) : Int) < 0)))]) (fun z_ => [box z_.1 [z_.2.2.1, z_.2.2.2.1, z_.2.2.2.2] 28, z_.2.1, h34, box b9 [va32, vb32, vc32] 28, h32, box b8 [va30, vb30, vc30] 28, h30, h29, h27, box b4 [a, b, c] 26, box b3 [num k, num p, num n] 23, hp w]) mixed_ok (by kernel_rfl) ?_ ?_
        · refine ra_v (i := 0) (by kernel_rfl) rfl rfl (v_loadNB 8 ty_23 rfl rfl rfl rfl) rfl ?_
          refine ra_v (i := 2) (by kernel_rfl) rfl rfl (v_loadNB 1 ty_28 rfl rfl rfl rfl) rfl ?_
          refine ra_v (i := 3) (by kernel_rfl) rfl rfl (v_move rfl) rfl ?_
          refine ra_2 (i := 1) (j := 5) (by kernel_rfl) ?_ ?_
          · refine ro_u rfl rfl (x_callv rfl en_17 (fun w s => ct_l_toRing _ _ _ w)) rfl ?_
            refine ra_2 (i := 4) (j := 5) (by kernel_rfl) ?_ ?_
            · refine ro_x rfl rfl (x_call rfl en_20 (fun w s => ct_i_SumLabels _ _ _ _ _ _ _ _ _ w (o32.toR.1.mono (s.get 2 rfl)) (o32.toR.2.1.mono (s.get 2 rfl)) (o32.toR.2.2.mono (s.get 2 rfl)) (r34.toR.mono (s.get 0 rfl)))) rfl ?_; rintro _ h39 ⟨va39, vb39, vc39, rfl, o39⟩
              refine ra_rj [(5, false), (6, false)] (by kernel_rfl) rfl ?_
              refine rj_x rfl rfl (x_alloc ty_28 rfl) rfl ?_; rintro _ _ ⟨b11, rfl, rfl⟩
              refine rj_m 0 rfl rfl rfl rfl (m_store 0 ty_28 rfl rfl rfl rfl (by simp [o39.toR.1.sl.one, o39.toR.2.1.sl.one, o39.toR.2.2.sl.one]) rfl (Nat.le_of_ble_eq_true rfl)) rfl ?_; rintro _ _ ⟨rfl, rfl⟩
              refine rj_end ?_
              exact qs_mid (b11, h39, va39, vb39, vc39) (o39) ⟨rfl, rfl, rfl, rfl, rfl, rfl, rfl, rfl, rfl, rfl, trivial⟩ (fun _ s => s.pick [0, 1, 2, 3, 4, 5, 6, 7, 8, 9, 10, 11] (by decide) rfl)
            · refine ro_x rfl rfl (x_alloc ty_28 rfl) rfl ?_; rintro _ _ ⟨b11, rfl, rfl⟩
              refine ra_rj [(4, false), (6, false)] (by kernel_rfl) rfl ?_
              refine rj_x rfl rfl (x_call rfl en_20 (fun w s => ct_i_SumLabels _ _ _ _ _ _ _ _ _ w (o32.toR.1.mono (s.get 3 rfl)) (o32.toR.2.1.mono (s.get 3 rfl)) (o32.toR.2.2.mono (s.get 3 rfl)) (r34.toR.mono (s.get 1 rfl)))) rfl ?_; rintro _ h39 ⟨va39, vb39, vc39, rfl, o39⟩
              refine rj_m 1 rfl rfl rfl rfl (m_store 1 ty_28 rfl rfl rfl rfl (by simp [o39.toR.1.sl.one, o39.toR.2.1.sl.one, o39.toR.2.2.sl.one]) rfl (Nat.le_of_ble_eq_true rfl)) rfl ?_; rintro _ _ ⟨rfl, rfl⟩
              refine rj_end ?_
              exact qs_mid (b11, h39, va39, vb39, vc39) (o39) ⟨rfl, rfl, rfl, rfl, rfl, rfl, rfl, rfl, rfl, rfl, trivial⟩ (fun _ s => s.pick [1, 0, 2, 3, 4, 5, 6, 7, 8, 9, 10, 11] (by decide) rfl)
          · refine ro_x rfl rfl (x_alloc ty_28 rfl) rfl ?_; rintro _ _ ⟨b11, rfl, rfl⟩
            refine ra_rj [(1, false), (4, false), (6, false)] (by kernel_rfl) rfl ?_
            refine rj_u rfl rfl (x_callv rfl en_17 (fun w s => ct_l_toRing _ _ _ w)) rfl ?_
            refine rj_x rfl rfl (x_call rfl en_20 (fun w s => ct_i_SumLabels _ _ _ _ _ _ _ _ _ w (o32.toR.1.mono (s.get 3 rfl)) (o32.toR.2.1.mono (s.get 3 rfl)) (o32.toR.2.2.mono (s.get 3 rfl)) (r34.toR.mono (s.get 1 rfl)))) rfl ?_; rintro _ h39 ⟨va39, vb39, vc39, rfl, o39⟩
            refine rj_m 1 rfl rfl rfl rfl (m_store 1 ty_28 rfl rfl rfl rfl (by simp [o39.toR.1.sl.one, o39.toR.2.1.sl.one, o39.toR.2.2.sl.one]) rfl (Nat.le_of_ble_eq_true rfl)) rfl ?_; rintro _ _ ⟨rfl, rfl⟩
            refine rj_end ?_
            exact qs_mid (b11, h39, va39, vb39, vc39) (o39) ⟨rfl, rfl, rfl, rfl, rfl, rfl, rfl, rfl, rfl, rfl, trivial⟩ (fun _ s => s.pick [1, 0, 2, 3, 4, 5, 6, 7, 8, 9, 10, 11] (by decide) rfl)
        · rintro ⟨b11, h39, va39, vb39, vc39⟩ o39
          dsimp only at o39 ⊢
          refine qs_n ?_
          refine wp_sc ?_
          refine wp_sc ?_
          refine wp_sq ?_
          refine sq_v rfl (v_loadNB 0 ty_28 rfl rfl rfl rfl) rfl ?_
          refine sq_v rfl (v_loadNB 5 ty_28 rfl rfl rfl rfl) rfl ?_
          refine sq_u rfl (x_callv rfl en_21 (fun w s => ct_l_eqTensor _ _ _ _ _ _ _ w (o39.toR.1.mono (s.get 1 rfl)) (o39.toR.2.1.mono (s.get 1 rfl)) (o39.toR.2.2.mono (s.get 1 rfl)) (o30.toR.1.mono (s.get 6 rfl)) (o30.toR.2.1.mono (s.get 6 rfl)) (o30.toR.2.2.mono (s.get 6 rfl)))) rfl ?_
          refine sq_v rfl (v_not rfl) rfl ?_
          refine sq_end ?_
          refine qs_n ?_
          refine wp_cf rfl ?_
          refine wp_sk ?_
          refine qs_n ?_
          refine wp_sc ?_
          refine wp_sc ?_
          refine wp_rj 5 [(0, true), (1, true), (2, false), (3, false), (4, true)] mixed_ok (by kernel_rfl) ?_
          refine rj_v rfl rfl (v_loadNB 3 ty_28 rfl rfl rfl rfl) rfl ?_
          refine rj_v rfl rfl (v_loadNB 9 ty_26 rfl rfl rfl rfl) rfl ?_
          refine rj_x rfl rfl (x_call rfl en_18 (fun w s => ct_L_toTensor _ _ _ _ w (r1.mono (s.get 11 rfl)) (r2.mono (s.get 11 rfl)) (r3.mono (s.get 11 rfl)) (by first | assumption | exact iota_held _ _ | omega | rfl))) rfl ?_; rintro _ h46 ⟨va46, vb46, vc46, rfl, o46⟩
          refine rj_u rfl rfl (x_callv rfl en_21 (fun w s => ct_l_eqTensor _ _ _ _ _ _ _ w (o32.toR.1.mono (s.get 5 rfl)) (o32.toR.2.1.mono (s.get 5 rfl)) (o32.toR.2.2.mono (s.get 5 rfl)) (o46.toR.1.mono (s.get 0 rfl)) (o46.toR.2.1.mono (s.get 0 rfl)) (o46.toR.2.2.mono (s.get 0 rfl)))) rfl ?_
          refine rj_v rfl rfl (v_not rfl) rfl ?_
          refine rj_end ?_
          refine qs_n ?_
          refine wp_cf rfl ?_
          refine wp_sk ?_
          refine qs_n ?_
          refine wp_sc ?_
          refine wp_sc ?_
          refine wp_sq ?_
          refine sq_v rfl (v_move rfl) rfl ?_
          refine sq_v rfl (v_move rfl) rfl ?_
          refine sq_x rfl (x_call rfl en_19 (fun w s => ct_l_toIntS _ _ w (rk.mono (s.get 12 rfl)) (by first | assumption | exact iota_held _ _ | omega | rfl))) rfl ?_; rintro v51 h51 r51
          refine sq_u rfl (x_callv rfl en_22 (fun w s => ct_l_eqIntS _ _ _ _ w (r34.toR.mono (s.get 4 rfl)) (r51.toR.mono (s.get 0 rfl)) (by first | assumption | exact iota_held _ _ | omega | rfl))) rfl ?_
          refine sq_v rfl (v_not rfl) rfl ?_
          refine sq_end ?_
          refine qs_n ?_
          refine wp_cf rfl ?_
          refine wp_sk ?_
          refine qs_n ?_
          refine wp_sc ?_
          refine wp_sq ?_
          refine sq_v rfl (v_assign rfl) rfl ?_
          refine sq_end ?_
          refine qs_n ?_
          refine wp_sc ?_
          refine wp_sq ?_
          refine sq_v rfl (v_loadNB 5 ty_28 rfl rfl rfl rfl) rfl ?_
          refine sq_v rfl (v_move rfl) rfl ?_
          refine sq_m 6 rfl rfl (x_call rfl en_23 (fun w s => ct_L_markTensor _ _ _ _ _ w _ (s.get 6 rfl) o32 (by first | assumption | exact iota_held _ _ | omega | rfl))) rfl ?_; rintro _ h56 ⟨rfl, t56, om56, hl56⟩
          refine sq_v rfl (v_assign rfl) rfl ?_
          refine sq_end ?_
          refine qs_n ?_
          refine wp_sc ?_
          refine wp_sq ?_
          refine sq_v rfl (v_move rfl) rfl ?_
          refine sq_v rfl (v_move rfl) rfl ?_
          refine sq_m 4 rfl rfl (x_call rfl en_24 (fun w s => ct_l_markIntS _ _ _ w _ (s.get 4 rfl) r34 (by first | assumption | exact iota_held _ _ | omega | rfl))) rfl ?_; rintro _ h59 ⟨rfl, r59⟩
          refine sq_v rfl (v_assign rfl) rfl ?_
          refine sq_end ?_
          refine qs_n ?_
          refine wp_sc ?_
          refine wp_sc ?_
          refine wp_sq ?_
          refine sq_v rfl (v_move rfl) rfl ?_
          refine sq_v rfl (v_lss rfl rfl) rfl ?_
          refine sq_bd 61 rfl (fun c61 => ?_) (fun c61 => ?_)
          · refine sq_v rfl (v_move rfl) rfl ?_
            refine sq_s rfl rfl ?_
            refine sq_s rfl rfl ?_
            refine sq_s rfl rfl ?_
            refine sq_s rfl rfl ?_
            refine sq_v rfl (v_pickt rfl rfl) rfl ?_
            refine sq_end ?_
            refine qs_n ?_
            refine wp_ct rfl ?_
            refine wp_sc ?_
            refine wp_sq ?_
            refine sq_v rfl (v_assign rfl) rfl ?_
            refine sq_end ?_
            refine qs_n ?_
            refine wp_rt ?_
            refine qs_r ?_
            exfalso; first | omega | contradiction
          · refine sq_v rfl (v_move rfl) rfl ?_
            refine sq_v rfl (v_loadNB 2 ty_28 rfl rfl rfl rfl) rfl ?_
            refine sq_v rfl (v_loadNB 7 ty_28 rfl rfl rfl rfl) rfl ?_
            refine sq_u rfl (x_callv rfl en_21 (fun w s => ct_l_eqTensor _ _ _ _ _ _ _ w (o39.toR.1.mono (s.get 3 rfl)) (o39.toR.2.1.mono (s.get 3 rfl)) (o39.toR.2.2.mono (s.get 3 rfl)) (o30.toR.1.mono (s.get 8 rfl)) (o30.toR.2.1.mono (s.get 8 rfl)) (o30.toR.2.2.mono (s.get 8 rfl)))) rfl ?_
            refine sq_v rfl (v_not rfl) rfl ?_
            refine sq_v rfl (v_pickf rfl rfl) rfl ?_
            refine sq_end ?_
            refine qs_n ?_
            refine wp_cf rfl ?_
            refine wp_sk ?_
            refine qs_n ?_
            refine wp_sc ?_
            refine wp_sq ?_
            refine sq_v rfl (v_assign rfl) rfl ?_
            refine sq_end ?_
            refine qs_n ?_
            refine wp_sc ?_
            refine wp_sq ?_
            refine sq_v rfl (v_loadNB 2 ty_28 rfl rfl rfl rfl) rfl ?_
            refine sq_v rfl (v_move rfl) rfl ?_
            refine sq_m 3 rfl rfl (x_call rfl en_23 (fun w s => ct_L_markTensor _ _ _ _ _ w _ (s.get 3 rfl) o39 (by first | assumption | exact iota_held _ _ | omega | rfl))) rfl ?_; rintro _ h70 ⟨rfl, t70, om70, hl70⟩
            refine sq_v rfl (v_assign rfl) rfl ?_
            refine sq_end ?_
            refine qs_n ?_
            refine wp_sc ?_
            refine wp_sq ?_
            refine sq_v rfl (v_assign rfl) rfl ?_
            refine sq_end ?_
            refine qs_n ?_
            refine wp_sc ?_
            refine wp_sq ?_
            refine sq_v rfl (v_loadNB 2 ty_28 rfl rfl rfl rfl) rfl ?_
            refine sq_v rfl (v_move rfl) rfl ?_
            refine sq_u rfl (x_callv rfl en_25 (fun w s => ct_L_heldTensor _ _ _ _ _ _ w (om70.toR.1.mono (s.get 3 rfl)) (om70.toR.2.1.mono (s.get 3 rfl)) (om70.toR.2.2.mono (s.get 3 rfl)) hl70 (by first | assumption | exact iota_held _ _ | omega | rfl))) rfl ?_
            refine sq_v rfl (v_assign rfl) rfl ?_
            refine sq_end ?_
            refine qs_n ?_
            refine wp_sc ?_
            refine wp_sc ?_
            refine wp_sq ?_
            refine sq_v rfl (v_move rfl) rfl ?_
            refine sq_v rfl (v_lss rfl rfl) rfl ?_
            refine sq_end ?_
            refine qs_n ?_
            refine wp_cd rfl (fun c75 => ?_) (fun c75 => ?_)
            · refine wp_sc ?_
              refine wp_sq ?_
              refine sq_v rfl (v_assign rfl) rfl ?_
              refine sq_end ?_
              refine qs_n ?_
              refine wp_rt ?_
              refine qs_r ?_
              exfalso; first | omega | contradiction
            · refine wp_sk ?_
              refine qs_n ?_
              refine wp_sc ?_
              refine wp_sc ?_
              refine wp_sq ?_
              refine sq_v rfl (v_move rfl) rfl ?_
              refine sq_v rfl (v_move rfl) rfl ?_
              refine sq_v rfl (v_neqs rfl rfl) rfl ?_
              refine sq_end ?_
              refine qs_n ?_
              refine wp_cf rfl ?_
              refine wp_sk ?_
              refine qs_n ?_
              refine wp_sc ?_
              refine wp_ra (σ := Nat × PH × PH × Value × PH × Value × Value × Value × Value × Value × Value) 8 (fun z_ => IntsO ks z_.2.2.2.1 z_.2.2.1 ∧ TriO t z_.2.2.2.2.2.1 z_.2.2.2.2.2.2.1 z_.2.2.2.2.2.2.2.1 z_.2.2.2.2.1 ∧ TriO (sumR k p n t ks) z_.2.2.2.2.2.2.2.2.1 z_.2.2.2.2.2.2.2.2.2.1 z_.2.2.2.2.2.2.2.2.2.2 z_.2.1) (fun z_ => [(6, .bool false), (8, .pointer (some ⟨b8, 0, none⟩)), (11, .pointer (some ⟨b11, 0, none⟩)), (13, num (1 + tenSize (sumR k p n t ks))), (14, num (1 + tenSize (sumR k p n t ks))), (15, .pointer (some ⟨z_.1, 0, none⟩)), (18, .bool (decide ((1048576 : Int) < ks.length))), (23, .bool (decide ((szV 1048576 (tenSize t) : Int) < 0))), (43, .bool (!true)), (48, .bool (!true)), (53, .bool (!true)), (67, .bool (!true)), (75, .bool (decide ((1 + tenSize (sumR k p n t ks) : Int) < 0))), (78, .bool false)]) (fun z_ => [box z_.1 [z_.2.2.2.2.2.2.2.2.1, z_.2.2.2.2.2.2.2.2.2.1, z_.2.2.2.2.2.2.2.2.2.2] 28, z_.2.1, z_.2.2.1, z_.2.2.2.2.1, h51, h46, box b11 [va39, vb39, vc39] 28, h70, h59, box b9 [va32, vb32, vc32] 28, h56, box b8 [va30, vb30, vc30] 28, h30, h29, h27, box b4 [a, b, c] 26, box b3 [num k, num p, num n] 23, hp w]) mixed_ok (by kernel_rfl) ?_ ?_
              · refine ra_v (i := 0) (by kernel_rfl) rfl rfl (v_loadNB 12 ty_23 rfl rfl rfl rfl) rfl ?_
                refine ra_v (i := 2) (by kernel_rfl) rfl rfl (v_loadNB 11 ty_26 rfl rfl rfl rfl) rfl ?_
                refine ra_v (i := 4) (by kernel_rfl) rfl rfl (v_move rfl) rfl ?_
                refine ra_2 (i := 1) (j := 7) (by kernel_rfl) ?_ ?_
                · refine ro_u rfl rfl (x_callv rfl en_17 (fun w s => ct_l_toRing _ _ _ w)) rfl ?_
                  refine ra_2 (i := 3) (j := 7) (by kernel_rfl) ?_ ?_
                  · refine ro_x rfl rfl (x_call rfl en_18 (fun w s => ct_L_toTensor _ _ _ _ w (r1.mono (s.get 13 rfl)) (r2.mono (s.get 13 rfl)) (r3.mono (s.get 13 rfl)) (by first | assumption | exact iota_held _ _ | omega | rfl))) rfl ?_; rintro _ h82 ⟨va82, vb82, vc82, rfl, o82⟩
                    refine ra_2 (i := 5) (j := 7) (by kernel_rfl) ?_ ?_
                    · refine ro_x rfl rfl (x_call rfl en_19 (fun w s => ct_l_toIntS _ _ w (rk.mono (s.get 14 rfl)) (by first | assumption | exact iota_held _ _ | omega | rfl))) rfl ?_; rintro v84 h84 r84
                      refine ra_2 (i := 6) (j := 7) (by kernel_rfl) ?_ ?_
                      · refine ro_x rfl rfl (x_call rfl en_20 (fun w s => ct_i_SumLabels _ _ _ _ _ _ _ _ _ w (o82.toR.1.mono (s.get 1 rfl)) (o82.toR.2.1.mono (s.get 1 rfl)) (o82.toR.2.2.mono (s.get 1 rfl)) (r84.toR.mono (s.get 0 rfl)))) rfl ?_; rintro _ h85 ⟨va85, vb85, vc85, rfl, o85⟩
                        refine ra_rj [(7, false), (8, false)] (by kernel_rfl) rfl ?_
                        refine rj_x rfl rfl (x_alloc ty_28 rfl) rfl ?_; rintro _ _ ⟨b15, rfl, rfl⟩
                        refine rj_m 0 rfl rfl rfl rfl (m_store 0 ty_28 rfl rfl rfl rfl (by simp [o85.toR.1.sl.one, o85.toR.2.1.sl.one, o85.toR.2.2.sl.one]) rfl (Nat.le_of_ble_eq_true rfl)) rfl ?_; rintro _ _ ⟨rfl, rfl⟩
                        refine rj_end ?_
                        exact qs_mid (b15, h85, h84, v84, h82, va82, vb82, vc82, va85, vb85, vc85) ⟨r84, o82, o85⟩ ⟨rfl, rfl, rfl, rfl, rfl, rfl, rfl, rfl, rfl, rfl, rfl, rfl, rfl, rfl, trivial⟩ (fun _ s => s.pick [0, 1, 2, 3, 4, 5, 6, 7, 8, 9, 10, 11, 12, 13, 14, 15, 16, 17] (by decide) rfl)
                      · refine ro_x rfl rfl (x_alloc ty_28 rfl) rfl ?_; rintro _ _ ⟨b15, rfl, rfl⟩
                        refine ra_rj [(6, false), (8, false)] (by kernel_rfl) rfl ?_
                        refine rj_x rfl rfl (x_call rfl en_20 (fun w s => ct_i_SumLabels _ _ _ _ _ _ _ _ _ w (o82.toR.1.mono (s.get 2 rfl)) (o82.toR.2.1.mono (s.get 2 rfl)) (o82.toR.2.2.mono (s.get 2 rfl)) (r84.toR.mono (s.get 1 rfl)))) rfl ?_; rintro _ h85 ⟨va85, vb85, vc85, rfl, o85⟩
                        refine rj_m 1 rfl rfl rfl rfl (m_store 1 ty_28 rfl rfl rfl rfl (by simp [o85.toR.1.sl.one, o85.toR.2.1.sl.one, o85.toR.2.2.sl.one]) rfl (Nat.le_of_ble_eq_true rfl)) rfl ?_; rintro _ _ ⟨rfl, rfl⟩
                        refine rj_end ?_
                        exact qs_mid (b15, h85, h84, v84, h82, va82, vb82, vc82, va85, vb85, vc85) ⟨r84, o82, o85⟩ ⟨rfl, rfl, rfl, rfl, rfl, rfl, rfl, rfl, rfl, rfl, rfl, rfl, rfl, rfl, trivial⟩ (fun _ s => s.pick [1, 0, 2, 3, 4, 5, 6, 7, 8, 9, 10, 11, 12, 13, 14, 15, 16, 17] (by decide) rfl)
                    · refine ro_x rfl rfl (x_alloc ty_28 rfl) rfl ?_; rintro _ _ ⟨b15, rfl, rfl⟩
                      refine ra_rj [(5, false), (6, false), (8, false)] (by kernel_rfl) rfl ?_
                      refine rj_x rfl rfl (x_call rfl en_19 (fun w s => ct_l_toIntS _ _ w (rk.mono (s.get 15 rfl)) (by first | assumption | exact iota_held _ _ | omega | rfl))) rfl ?_; rintro v84 h84 r84
                      refine rj_x rfl rfl (x_call rfl en_20 (fun w s => ct_i_SumLabels _ _ _ _ _ _ _ _ _ w (o82.toR.1.mono (s.get 2 rfl)) (o82.toR.2.1.mono (s.get 2 rfl)) (o82.toR.2.2.mono (s.get 2 rfl)) (r84.toR.mono (s.get 0 rfl)))) rfl ?_; rintro _ h85 ⟨va85, vb85, vc85, rfl, o85⟩
                      refine rj_m 2 rfl rfl rfl rfl (m_store 2 ty_28 rfl rfl rfl rfl (by simp [o85.toR.1.sl.one, o85.toR.2.1.sl.one, o85.toR.2.2.sl.one]) rfl (Nat.le_of_ble_eq_true rfl)) rfl ?_; rintro _ _ ⟨rfl, rfl⟩
                      refine rj_end ?_
                      exact qs_mid (b15, h85, h84, v84, h82, va82, vb82, vc82, va85, vb85, vc85) ⟨r84, o82, o85⟩ ⟨rfl, rfl, rfl, rfl, rfl, rfl, rfl, rfl, rfl, rfl, rfl, rfl, rfl, rfl, trivial⟩ (fun _ s => s.pick [2, 0, 1, 3, 4, 5, 6, 7, 8, 9, 10, 11, 12, 13, 14, 15, 16, 17] (by decide) rfl)
                  · refine ro_x rfl rfl (x_alloc ty_28 rfl) rfl ?_; rintro _ _ ⟨b15, rfl, rfl⟩
                    refine ra_rj [(3, false), (5, false), (6, false), (8, false)] (by kernel_rfl) rfl ?_
                    refine rj_x rfl rfl (x_call rfl en_18 (fun w s => ct_L_toTensor _ _ _ _ w (r1.mono (s.get 14 rfl)) (r2.mono (s.get 14 rfl)) (r3.mono (s.get 14 rfl)) (by first | assumption | exact iota_held _ _ | omega | rfl))) rfl ?_; rintro _ h82 ⟨va82, vb82, vc82, rfl, o82⟩
                    refine rj_x rfl rfl (x_call rfl en_19 (fun w s => ct_l_toIntS _ _ w (rk.mono (s.get 15 rfl)) (by first | assumption | exact iota_held _ _ | omega | rfl))) rfl ?_; rintro v84 h84 r84
                    refine rj_x rfl rfl (x_call rfl en_20 (fun w s => ct_i_SumLabels _ _ _ _ _ _ _ _ _ w (o82.toR.1.mono (s.get 1 rfl)) (o82.toR.2.1.mono (s.get 1 rfl)) (o82.toR.2.2.mono (s.get 1 rfl)) (r84.toR.mono (s.get 0 rfl)))) rfl ?_; rintro _ h85 ⟨va85, vb85, vc85, rfl, o85⟩
                    refine rj_m 3 rfl rfl rfl rfl (m_store 3 ty_28 rfl rfl rfl rfl (by simp [o85.toR.1.sl.one, o85.toR.2.1.sl.one, o85.toR.2.2.sl.one]) rfl (Nat.le_of_ble_eq_true rfl)) rfl ?_; rintro _ _ ⟨rfl, rfl⟩
                    refine rj_end ?_
                    exact qs_mid (b15, h85, h84, v84, h82, va82, vb82, vc82, va85, vb85, vc85) ⟨r84, o82, o85⟩ ⟨rfl, rfl, rfl, rfl, rfl, rfl, rfl, rfl, rfl, rfl, rfl, rfl, rfl, rfl, trivial⟩ (fun _ s => s.pick [3, 0, 1, 2, 4, 5, 6, 7, 8, 9, 10, 11, 12, 13, 14, 15, 16, 17] (by decide) rfl)
                · refine ro_x rfl rfl (x_alloc ty_28 rfl) rfl ?_; rintro _ _ ⟨b15, rfl, rfl⟩
                  refine ra_rj [(1, false), (3, false), (5, false), (6, false), (8, false)] (by kernel_rfl) rfl ?_
                  refine rj_u rfl rfl (x_callv rfl en_17 (fun w s => ct_l_toRing _ _ _ w)) rfl ?_
                  refine rj_x rfl rfl (x_call rfl en_18 (fun w s => ct_L_toTensor _ _ _ _ w (r1.mono (s.get 14 rfl)) (r2.mono (s.get 14 rfl)) (r3.mono (s.get 14 rfl)) (by first | assumption | exact iota_held _ _ | omega | rfl))) rfl ?_; rintro _ h82 ⟨va82, vb82, vc82, rfl, o82⟩
                  refine rj_x rfl rfl (x_call rfl en_19 (fun w s => ct_l_toIntS _ _ w (rk.mono (s.get 15 rfl)) (by first | assumption | exact iota_held _ _ | omega | rfl))) rfl ?_; rintro v84 h84 r84
                  refine rj_x rfl rfl (x_call rfl en_20 (fun w s => ct_i_SumLabels _ _ _ _ _ _ _ _ _ w (o82.toR.1.mono (s.get 1 rfl)) (o82.toR.2.1.mono (s.get 1 rfl)) (o82.toR.2.2.mono (s.get 1 rfl)) (r84.toR.mono (s.get 0 rfl)))) rfl ?_; rintro _ h85 ⟨va85, vb85, vc85, rfl, o85⟩
                  refine rj_m 3 rfl rfl rfl rfl (m_store 3 ty_28 rfl rfl rfl rfl (by simp [o85.toR.1.sl.one, o85.toR.2.1.sl.one, o85.toR.2.2.sl.one]) rfl (Nat.le_of_ble_eq_true rfl)) rfl ?_; rintro _ _ ⟨rfl, rfl⟩
                  refine rj_end ?_
                  exact qs_mid (b15, h85, h84, v84, h82, va82, vb82, vc82, va85, vb85, vc85) ⟨r84, o82, o85⟩ ⟨rfl, rfl, rfl, rfl, rfl, rfl, rfl, rfl, rfl, rfl, rfl, rfl, rfl, rfl, trivial⟩ (fun _ s => s.pick [3, 0, 1, 2, 4, 5, 6, 7, 8, 9, 10, 11, 12, 13, 14, 15, 16, 17] (by decide) rfl)
              · rintro ⟨b15, h85, h84, v84, h82, va82, vb82, vc82, va85, vb85, vc85⟩ ⟨r84, o82, o85⟩
                dsimp only at r84 o82 o85 ⊢
                refine qs_n ?_
                refine wp_sc ?_
                refine wp_sc ?_
                refine wp_sq ?_
                refine sq_v rfl (v_loadNB 0 ty_28 rfl rfl rfl rfl) rfl ?_
                refine sq_v rfl (v_loadNB 11 ty_28 rfl rfl rfl rfl) rfl ?_
                refine sq_u rfl (x_callv rfl en_21 (fun w s => ct_l_eqTensor _ _ _ _ _ _ _ w (o85.toR.1.mono (s.get 1 rfl)) (o85.toR.2.1.mono (s.get 1 rfl)) (o85.toR.2.2.mono (s.get 1 rfl)) (o30.toR.1.mono (s.get 12 rfl)) (o30.toR.2.1.mono (s.get 12 rfl)) (o30.toR.2.2.mono (s.get 12 rfl)))) rfl ?_
                refine sq_v rfl (v_not rfl) rfl ?_
                refine sq_end ?_
                refine qs_n ?_
                refine wp_cf rfl ?_
                refine wp_sk ?_
                refine qs_n ?_
                refine wp_sc ?_
                refine wp_sq ?_
                refine sq_v rfl (v_assign rfl) rfl ?_
                refine sq_end ?_
                refine qs_n ?_
                refine wp_sc ?_
                refine wp_sq ?_
                refine sq_v rfl (v_loadNB 6 ty_28 rfl rfl rfl rfl) rfl ?_
                refine sq_v rfl (v_move rfl) rfl ?_
                refine sq_u rfl (x_callv rfl en_25 (fun w s => ct_L_heldTensor _ _ _ _ _ _ w (om70.toR.1.mono (s.get 7 rfl)) (om70.toR.2.1.mono (s.get 7 rfl)) (om70.toR.2.2.mono (s.get 7 rfl)) hl70 (by first | assumption | exact iota_held _ _ | omega | rfl))) rfl ?_
                refine sq_v rfl (v_assign rfl) rfl ?_
                refine sq_end ?_
                refine qs_n ?_
                refine wp_sc ?_
                refine wp_sc ?_
                refine wp_sq ?_
                refine sq_v rfl (v_move rfl) rfl ?_
                refine sq_v rfl (v_lss rfl rfl) rfl ?_
                refine sq_end ?_
                refine qs_n ?_
                refine wp_cd rfl (fun c94 => ?_) (fun c94 => ?_)
                · refine wp_sc ?_
                  refine wp_sq ?_
                  refine sq_v rfl (v_assign rfl) rfl ?_
                  refine sq_end ?_
                  refine qs_n ?_
                  refine wp_rt ?_
                  refine qs_r ?_
                  exfalso; first | omega | contradiction
                · refine wp_sk ?_
                  refine qs_n ?_
                  refine wp_sc ?_
                  refine wp_sc ?_
                  refine wp_sq ?_
                  refine sq_v rfl (v_move rfl) rfl ?_
                  refine sq_v rfl (v_move rfl) rfl ?_
                  refine sq_v rfl (v_neqs rfl rfl) rfl ?_
                  refine sq_end ?_
                  refine qs_n ?_
                  refine wp_cf rfl ?_
                  refine wp_sk ?_
                  refine qs_n ?_
                  refine wp_sc ?_
                  refine wp_sq ?_
                  refine sq_v rfl (v_assign rfl) rfl ?_
                  refine sq_end ?_
                  refine qs_n ?_
                  refine wp_rt ?_
                  exact qs_ret1 rfl rfl (fin_v (i := 17) rfl)
set_option maxRecDepth 100000 in
theorem lifted_fnExactSumLabels (os : Os) (started : os.Started) (H : Type) (enc : TypeId × Value → H) :
    ReturnsInHanded {} Try.checked os 3 .any (Rows.fnExactSumLabelsSpec.pre6 enc Try.prog Try.f3 Rows.fnExactSumLabelsRow.domain false) (Rows.fnExactSumLabelsSpec.post enc Try.prog Try.f3 false true false false) := by
  refine returnsInHanded_of_change (C := Try.checked) lift_own started (by kernel_rfl) Try.func3
    (ChangeSpec.witness6 (enc := enc) (C := Try.checked) false ⟨#[], #[.agg #[.int .i64 0, .int .i64 0, .int .i64 0], .agg #[.slice none 0 0, .slice none 0 0, .slice none 0 0], .slice none 0 0], []⟩ 8 (by kernel_rfl) (by kernel_rfl) (by kernel_rfl) (by kernel_rfl)) ?_
  intro W base args ds gs before hval0 hW hcnd _
  have hval : ∀ (j : Nat) t v, Try.f3.params[j]? = some t → args[j]? = some v → Value.okWide Try.prog W .any base t v := hval0
  have hW' := hW
  obtain ⟨p, q, hA0, hV, rfl, hfz, hnd⟩ := hW
  have hlt : ∀ x ∈ p, x.block < W.heap.size := fun x hx => by simpa using hW'.lt x (by simp [hx])
  have hA : DataW.TrodAll enc Try.prog W 0 (fun _ => true) true Try.f3.params.toList args.toList ds p := hA0
  have hA1 := hA
  rw [Try.params3] at hA1 hval
  obtain ⟨v0, vs0, d0, ds0, p0, q0, hargs, rfl, rfl, h0, r0⟩ := trodAll_cons hA1
  obtain ⟨v1, vs1, d1, ds1, p1, q1, rfl, rfl, rfl, h1, r1⟩ := trodAll_cons r0
  obtain ⟨v2, vs2, d2, ds2, p2, q2, rfl, rfl, rfl, h2, r2⟩ := trodAll_cons r1
  obtain ⟨rfl, rfl, rfl⟩ := trodAll_nil r2
  obtain rfl : args = #[v0, v1, v2] := by cases args; simp_all
  obtain ⟨rfl, rfl⟩ := trodVars_none hV
  have k0 := hval 0 23 v0 rfl rfl
  have k1 := hval 1 26 v1 rfl rfl
  have k2 := hval 2 24 v2 rfl rfl
  obtain ⟨x0, x1, x2, rfl, _⟩ := arg_ring k0 h0
  obtain ⟨t, a, b, c, rfl, r1, r2, r3⟩ := arg_tensor k1 h1
  obtain ⟨ks, rk, _⟩ := arg_ints k2 h2
  refine (show Calls Try.prog 3 _ W (RetV W (.bool true)) from ct_l_FnExactSumLabels x0 x1 x2 t ks a b c v2 W r1 r2 r3 rk).mono fun e W' ⟨he, hu⟩ => ?_
  subst he
  refine ⟨_, rfl, _, _, _, [], _, [], hW', trodAll_mk1 (shut_bool Try.underlying4 true), trodAll_below lift_laid hu.below (by kernel_rfl) hA hlt, rfl, hu.below.frame _, fun h => by cases h⟩
set_option maxHeartbeats 4000000 in
theorem joined_fnExactSumLabels : joinedFacts Try.pinned.checked.prog 3 Try.f3 Rows.fnExactSumLabelsSpec Rows.fnExactSumLabelsRow = true := by
  unfold joinedFacts
  repeat' (with_reducible refine cd_and ?_ ?_)
  all_goals first | with_reducible exact cd_enter | (with_reducible refine cd_lifts' ?_; rfl) | (with_reducible refine cd_make' ?_; rfl) | (as_aux_lemma => kernel_rfl)
theorem named_fnExactSumLabels : Try.pinned.checked.prog.funcNamed Rows.fnExactSumLabelsRow.func = some 3 := by kernel_rfl
theorem over_fnExactSumLabels : Rows.fnExactSumLabelsRow.holds Try.pinned (OpenSpec.ofChange Rows.fnExactSumLabelsSpec) :=
  OpenClaim.holds_of_wide 3 Try.f3 rfl rfl rfl rfl rfl rfl rfl ⟨rfl, rfl, rfl, rfl, rfl⟩ rfl rfl rfl rfl rfl named_fnExactSumLabels Try.func3 joined_fnExactSumLabels
    (of_decide_eq_true (by kernel_rfl)) (by unfold Func.isWrapper; first | (rw [if_pos (by decide +kernel)]; kernel_rfl) | (rw [if_neg (by decide +kernel)]; exact ⟨rfl, rfl⟩))
    (fun os started H enc _ => lifted_fnExactSumLabels os started H enc)
/-- The law FnExactSumLabels holds at every input. -/
theorem proved_fnExactSumLabels : Rows.FnExactSumLabelsSaid :=
  over_fnExactSumLabels
#print axioms proved_fnExactSumLabels
end Go.Proofs.Ytikeobneipjfnaa
