/-
  The pair product of the reference.
  Conditions: none.
-/
import Derived.Test.YtikeobneipjfnaaPair2
namespace Go.Proofs.Ytikeobneipjfnaa
set_option maxRecDepth 100000
open Go.RowKit
set_option maxHeartbeats 8000000 in
theorem ct_s_l08Pair (k p n : Int) (t u : Ten) (f : Int → Int) (K ks : List Int) (a b c a' b' c' v : Value) (w : World) (r1 : IntsR t.l a (hp w)) (r2 : IntsR t.d b (hp w)) (r3 : IntsR t.x c (hp w)) (r1' : IntsR u.l a' (hp w)) (r2' : IntsR u.d b' (hp w)) (r3' : IntsR u.x c' (hp w)) (rk : IntsR ks v (hp w)) (ok : PairOK k p n t u f) (hK : (joinI t.l u.l).filter (fun x => decide (x ∈ ks)) = K) (hk : KeepOK t u f K) (hkr : K.length ≤ 12) :
    Calls Try.prog 172 [ringV k p n, tenV a b c, tenV a' b' c', v].toArray w (Ret w emp (TenT (pairT k p n f t u K))) := by
  have hring := ok.tt.1
  have hat := ten_axes ok.tt
  have hau := ten_axes ok.uu
  have htp := ten_prod ok.tt
  have hup := ten_prod ok.uu
  have htl := hat.2.1
  have hul := hau.2.1
  have h12 := hat.1
  have h12' := hau.1
  have hun := axes_nodup hau
  have hKd := map_dim ok.dim hk.sub
  have hKi := map_dims fun x hx => ok.dim x (hk.sub x hx)
  have hKp := hk.small
  have hst := ok.ht
  have hsu := ok.hu
  have hwr := width_range hring
  have hKl : K.length = (K.map f).length := by simp
  obtain ⟨L, hL⟩ : ∃ L, joinI t.l u.l = L := ⟨_, rfl⟩
  obtain ⟨D, hD⟩ : ∃ D, L.map f = D := ⟨_, rfl⟩
  have hjl := joinI_len t.l u.l
  have hnd := ok.nd
  have hDd := map_dim ok.dim (fun _ h => h)
  have hwk := ok.work
  have hmt : ∀ l ∈ t.l, l ∈ joinI t.l u.l := fun l hl => mem_joinI.2 (.inl hl)
  have hmu : ∀ l ∈ u.l, l ∈ joinI t.l u.l := fun l hl => mem_joinI.2 (.inr hl)
  have hmk := hk.sub
  rw [hL] at hjl hnd hDd hwk hmt hmu hmk hK
  rw [hD] at hDd hwk
  have hDi : dimsIn D := fun j hj => hDd _ (mem_getD hj)
  have hD1 : ∀ d ∈ D, 1 ≤ d := fun d hd => (hDd d hd).1
  have hD0 := prodI_one hD1
  have hDl : D.length = L.length := by rw [← hD]; simp
  have hsA := stepsL_len L t.l t.d
  have hsB := stepsL_len L u.l u.d
  have hsC := stepsL_len L K (K.map f)
  have hA : ∀ a ∈ stepsL L t.l t.d, 0 ≤ a ∧ a ≤ 4096 := fun a h => by have := steps_in (fun d hd => (dims_mem (axes_dims hat) d hd).1) a h; omega
  have hB : ∀ a ∈ stepsL L u.l u.d, 0 ≤ a ∧ a ≤ 4096 := fun a h => by have := steps_in (fun d hd => (dims_mem (axes_dims hau) d hd).1) a h; omega
  have hC : ∀ a ∈ stepsL L K (K.map f), 0 ≤ a ∧ a ≤ 4096 := fun a h => by have := steps_in (fun d hd => (hKd d hd).1) a h; omega
  refine calls_in Try.func172 rfl Try.ntmps172 rfl (Sat.start w) ?_
  have hle0 := r1.le
  have hle1 := r2.le
  have hle2 := r3.le
  have hle3 := r1'.le
  have hle4 := r2'.le
  have hle5 := r3'.le
  have hle6 := rk.le
  refine wp_sc ?_
  refine wp_sq ?_
  refine sq_x rfl (x_box rfl rfl) rfl ?_; rintro _ _ ⟨b4, rfl, rfl⟩
  refine sq_x rfl (x_box rfl rfl) rfl ?_; rintro _ _ ⟨b5, rfl, rfl⟩
  refine sq_x rfl (x_box rfl rfl) rfl ?_; rintro _ _ ⟨b6, rfl, rfl⟩
  refine sq_x rfl (x_alloc ty_28 rfl) rfl ?_; rintro _ _ ⟨b8, rfl, rfl⟩
  refine sq_end ?_
  refine qs_n ?_
  refine wp_sc ?_
  refine wp_sq ?_
  refine sq_v rfl (v_loadNB 2 ty_28 rfl rfl rfl rfl) rfl ?_
  refine sq_v rfl (v_loadNB 1 ty_28 rfl rfl rfl rfl) rfl ?_
  refine sq_x rfl (x_call rfl en_181 (fun w s => ct_u_l08Join f _ _ _ _ _ _ _ _ w (r1.mono (s.get 4 rfl)) (r2.mono (s.get 4 rfl)) (r1'.mono (s.get 4 rfl)) (r2'.mono (s.get 4 rfl)) (by first | assumption | omega) (by first | assumption | omega) (by first | assumption | omega) (by first | assumption | omega))) rfl ?_; rintro _ h27 ⟨v1, v2, rfl, q1, q2⟩
  refine sq_v rfl (v_move rfl) rfl ?_
  refine sq_v rfl (v_extract rfl rfl) rfl ?_
  refine sq_v rfl (v_extract rfl rfl) rfl ?_
  refine sq_v rfl (v_extract rfl rfl) rfl ?_
  refine sq_v rfl (v_assign rfl) rfl ?_
  refine sq_v rfl (v_assign rfl) rfl ?_
  refine sq_v rfl (v_assign rfl) rfl ?_
  refine sq_end ?_
  rw [hL] at q1
  rw [hL, hD] at q2
  refine qs_n ?_
  refine wp_sc ?_
  refine wp_sq ?_
  refine sq_v rfl (v_move rfl) rfl ?_
  refine sq_v rfl (v_move rfl) rfl ?_
  refine sq_v rfl (v_move rfl) rfl ?_
  refine sq_x rfl (x_call rfl en_192 (fun w s => ct_s_l08Keep _ _ _ _ _ _ w (q1.mono (s.get 0 rfl)) (q2.mono (s.get 0 rfl)) (rk.mono (s.get 5 rfl)) (by first | assumption | omega) (by first | assumption | omega))) rfl ?_; rintro _ h34 ⟨k1, k2, g1, g2, rfl, rk1, rk2, mdk⟩
  refine sq_x rfl (x_alloc ty_28 rfl) rfl ?_; rintro _ _ ⟨b12, rfl, rfl⟩
  refine sq_m 0 rfl rfl (m_store 0 ty_28 rfl rfl rfl rfl (by simp [(rk1.toR.mono (mdk.le g1 (by simp))).sl.one, (rk2.toR.mono (mdk.le g2 (by simp))).sl.one, one_sl]) rfl (Nat.le_of_ble_eq_true rfl)) rfl ?_; rintro _ _ ⟨rfl, rfl⟩
  refine sq_end ?_
  rw [hK] at rk1
  rw [← hD, selP_map, hK] at rk2
  refine qs_n ?_
  refine wp_sc ?_
  refine wp_sq ?_
  refine sq_v rfl (v_loadNB 6 ty_30 rfl rfl rfl rfl) rfl ?_
  refine sq_v rfl (v_fieldAddr fd_28_0 ty_24 (by decide) rfl) rfl ?_
  refine sq_v rfl (v_loadB 0 ty_24 rfl rfl rfl) rfl ?_
  refine sq_v rfl (v_fieldAddr fd_28_1 ty_24 (by decide) rfl) rfl ?_
  refine sq_v rfl (v_loadB 0 ty_24 rfl rfl rfl) rfl ?_
  refine sq_x rfl (x_call rfl en_121 (fun w s => ct_s_l05Zero _ _ _ _ _ _ _ w (by first | assumption | omega) ((rk1.toR.mono (mdk.le g1 (by simp))).mono (s.get 1 rfl)) ((rk2.toR.mono (mdk.le g2 (by simp))).mono (s.get 1 rfl)) (by first | assumption | omega) (by first | assumption | omega) (by first | assumption | omega) (by first | assumption | omega))) rfl ?_; rintro _ h40 ⟨va40, vb40, vc40, rfl, o40⟩
  refine sq_m 1 rfl rfl (m_store 1 ty_28 rfl rfl rfl rfl (by simp [o40.toR.1.sl.one, o40.toR.2.1.sl.one, o40.toR.2.2.sl.one]) rfl (Nat.le_of_ble_eq_true rfl)) rfl ?_; rintro _ _ ⟨rfl, rfl⟩
  refine sq_end ?_
  obtain ⟨go1, go2, go3, qo1, qo2, qo3, mdo⟩ := o40
  refine qs_s [box b12 [va40, vb40, vc40] 28, h34, h27, box b8 [.slice none 0 0, .slice none 0 0, .slice none 0 0] 28, box b6 [a', b', c'] 28, box b5 [a, b, c] 28, box b4 [num k, num p, num n] 30, hp w, go1, go2, go3] (fun _ s => Sat.open (A := [box b12 [va40, vb40, vc40] 28, h34, h27, box b8 [.slice none 0 0, .slice none 0 0, .slice none 0 0] 28, box b6 [a', b', c'] 28, box b5 [a, b, c] 28, box b4 [num k, num p, num n] 30, hp w]) mdo (s.pick [0, 1, 2, 3, 4, 5, 6, 7, 8] (by decide) rfl)) ?_
  refine qs_n ?_
  refine wp_sc ?_
  refine wp_sq ?_
  refine sq_v rfl (v_loadNB 5 ty_28 rfl rfl rfl rfl) rfl ?_
  refine sq_v rfl (v_move rfl) rfl ?_
  refine sq_x rfl (x_call rfl en_215 (fun w s => ct_s_l08Steps _ _ _ _ _ _ _ _ w (r1.mono (s.get 7 rfl)) (r2.mono (s.get 7 rfl)) (r3.mono (s.get 7 rfl)) (q1.mono (s.get 2 rfl)) (by first | assumption | omega) (by first | assumption | omega) (dims_mem (axes_dims hat)) (by first | assumption | omega) (by first | assumption | omega) (by first | assumption | omega))) rfl ?_; rintro v43 h43 r43
  refine sq_v rfl (v_assign rfl) rfl ?_
  refine sq_end ?_
  refine qs_n ?_
  refine wp_sc ?_
  refine wp_sq ?_
  refine sq_v rfl (v_loadNB 5 ty_28 rfl rfl rfl rfl) rfl ?_
  refine sq_v rfl (v_move rfl) rfl ?_
  refine sq_x rfl (x_call rfl en_215 (fun w s => ct_s_l08Steps _ _ _ _ _ _ _ _ w (r1'.mono (s.get 8 rfl)) (r2'.mono (s.get 8 rfl)) (r3'.mono (s.get 8 rfl)) (q1.mono (s.get 3 rfl)) (by first | assumption | omega) (by first | assumption | omega) (dims_mem (axes_dims hau)) (by first | assumption | omega) (by first | assumption | omega) (by first | assumption | omega))) rfl ?_; rintro v46 h46 r46
  refine sq_v rfl (v_assign rfl) rfl ?_
  refine sq_end ?_
  refine qs_n ?_
  refine wp_sc ?_
  refine wp_sq ?_
  refine sq_v rfl (v_loadNB 2 ty_28 rfl rfl rfl rfl) rfl ?_
  refine sq_v rfl (v_move rfl) rfl ?_
  refine sq_x rfl (x_call rfl en_215 (fun w s => ct_s_l08Steps K (K.map f) _ _ _ _ _ _ w (qo1.toR.mono (s.get 10 rfl)) (qo2.toR.mono (s.get 11 rfl)) (qo3.toR.mono (s.get 12 rfl)) (q1.mono (s.get 4 rfl)) (by first | assumption | omega) (by first | assumption | omega) hKd (by first | assumption | omega) (by first | assumption | omega) (by first | assumption | omega))) rfl ?_; rintro v49 h49 r49
  refine sq_v rfl (v_assign rfl) rfl ?_
  refine sq_end ?_
  refine qs_n ?_
  refine wp_sc ?_
  refine wp_sq ?_
  refine sq_v rfl (v_move rfl) rfl ?_
  refine sq_v rfl (v_len Try.underlying24 rfl q1.sl) rfl ?_
  refine sq_x rfl (x_makeI Try.underlying24 ty_3 rfl rfl (by first | omega | (simp only [List.length_cons, List.length_nil]; omega) | (simp only [List.length_append, List.length_cons, List.length_nil]; omega) | (rw [List.length_set]; omega) | (rw [List.length_replicate]; omega) | (simp; omega)) (by first | omega | (simp only [List.length_cons, List.length_nil]; omega) | (simp only [List.length_append, List.length_cons, List.length_nil]; omega) | (rw [List.length_set]; omega) | (rw [List.length_replicate]; omega) | (simp; omega)) (by first | omega | (simp only [List.length_cons, List.length_nil]; omega) | (simp only [List.length_append, List.length_cons, List.length_nil]; omega) | (rw [List.length_set]; omega) | (rw [List.length_replicate]; omega) | (simp; omega))) rfl ?_; intro v52 h52 r52
  refine sq_v rfl (v_assign rfl) rfl ?_
  refine sq_end ?_
  refine qs_n ?_
  refine wp_sc ?_
  refine wp_sc ?_
  refine wp_sq ?_
  refine sq_v rfl (v_move rfl) rfl ?_
  refine sq_u rfl (x_callv rfl en_120 (fun w s => ct_s_l05Product _ _ _ w (q2.mono (s.get 6 rfl)) (by first | assumption | omega) (by first | assumption | omega))) rfl ?_
  refine sq_v rfl (v_assign rfl) rfl ?_
  refine sq_end ?_
  refine qs_n ?_
  refine wp_bl ?_
  refine wp_lp (σ := Nat × PH × PH) (fun z_ => [(4, .pointer (some ⟨b4, 0, none⟩)), (5, .pointer (some ⟨b5, 0, none⟩)), (6, .pointer (some ⟨b6, 0, none⟩)), (8, .pointer (some ⟨b8, 0, none⟩)), (10, v2), (12, .pointer (some ⟨b12, 0, none⟩)), (13, v43), (14, v46), (15, v49), (16, v52), (17, num (prodI D - z_.1)), (28, v1)]) (fun z_ => [z_.2.1, h49, h46, h43, box b12 [va40, vb40, vc40] 28, h34, h27, box b8 [.slice none 0 0, .slice none 0 0, .slice none 0 0] 28, box b6 [a', b', c'] 28, box b5 [a, b, c] 28, box b4 [num k, num p, num n] 30, hp w, go1, go2, z_.2.2]) (fun z_ => z_.1 ≤ (prodI D).toNat ∧ IntsO (idxL D z_.1) v52 z_.2.1 ∧ IntsO (pairX k p n f t u K z_.1) vc40 z_.2.2) (fun z_ => (prodI D).toNat - z_.1) (0, h52, go3) (⟨by (try dsimp only); omega, by (try dsimp only); rw [show ((0 : Nat) : Int) = 0 from rfl, idxL_zero, hDl]; simpa using r52, qo3⟩) ⟨rfl, rfl, rfl, rfl, rfl, rfl, rfl, rfl, rfl, rfl, (by first | rfl | exact ksub rfl (by first | omega | (simp; done) | (simp; omega))), rfl, trivial⟩ (fun _ s => s) ?_
  rintro ⟨m, gi, gx⟩ ⟨hm, qi, qx⟩
  dsimp only at hm qi qx ⊢
  have hle_qi := qi.toR.le
  have hle_qx := qx.toR.le
  have hil := idxL_len D m
  have hil2 := idxL_len D (m + 1)
  have hii := idxL_in hD1 m
  have hib : ∀ b ∈ idxL D m, 0 ≤ b ∧ b ≤ 8 := all_of fun j hj => by have := hii.2 j (by omega); have := hDi j (by omega); omega
  have hpx := ok.small hk m
  refine wp_sc ?_
  refine wp_sc ?_
  refine wp_sq ?_
  refine sq_v rfl (v_move rfl) rfl ?_
  refine sq_v rfl (v_gtr rfl rfl) rfl ?_
  refine sq_end ?_
  refine qs_n ?_
  refine wp_cd rfl (fun c56 => ?_) (fun c56 => ?_)
  · refine wp_sk ?_
    refine qs_n ?_
    refine wp_sc ?_
    refine wp_bl ?_
    refine wp_sc ?_
    refine wp_sq ?_
    refine sq_v rfl (v_assign rfl) rfl ?_
    refine sq_end ?_
    refine qs_n ?_
    refine wp_sc ?_
    refine wp_sq ?_
    refine sq_v rfl (v_assign rfl) rfl ?_
    refine sq_end ?_
    refine qs_n ?_
    refine wp_sc ?_
    refine wp_sq ?_
    refine sq_v rfl (v_assign rfl) rfl ?_
    refine sq_end ?_
    refine qs_n ?_
    refine wp_sc ?_
    refine wp_sc ?_
    refine wp_sq ?_
    refine sq_v rfl (v_move rfl) rfl ?_
    refine sq_v rfl (v_len Try.underlying24 rfl qi.toR.sl) rfl ?_
    refine sq_v rfl (v_move rfl) rfl ?_
    refine sq_end ?_
    refine qs_n ?_
    refine wp_bl ?_
    refine wp_lp (σ := Nat × Int × Int × Int) (fun z_ => [(4, .pointer (some ⟨b4, 0, none⟩)), (5, .pointer (some ⟨b5, 0, none⟩)), (6, .pointer (some ⟨b6, 0, none⟩)), (8, .pointer (some ⟨b8, 0, none⟩)), (10, v2), (12, .pointer (some ⟨b12, 0, none⟩)), (13, v43), (14, v46), (15, v49), (16, v52), (17, num (prodI D - m)), (18, num z_.2.1), (19, num z_.2.2.1), (20, num z_.2.2.2), (28, v1), (55, num (prodI D - m)), (56, .bool (decide ((0 : Int) < prodI D - m))), (59, v52), (60, num (idxL D m).length), (61, num z_.1)]) (fun z_ => [gi, h49, h46, h43, box b12 [va40, vb40, vc40] 28, h34, h27, box b8 [.slice none 0 0, .slice none 0 0, .slice none 0 0] 28, box b6 [a', b', c'] 28, box b5 [a, b, c] 28, box b4 [num k, num p, num n] 30, hp w, go1, go2, gx]) (fun z_ => z_.1 ≤ L.length ∧ z_.2.1 = dotTo (stepsL L t.l t.d) (idxL D m) z_.1 ∧ z_.2.2.1 = dotTo (stepsL L u.l u.d) (idxL D m) z_.1 ∧ z_.2.2.2 = dotTo (stepsL L K (K.map f)) (idxL D m) z_.1) (fun z_ => L.length - z_.1) (0, 0, 0, 0) (⟨by (try dsimp only); omega, rfl, rfl, rfl⟩) ⟨rfl, rfl, rfl, rfl, rfl, rfl, rfl, rfl, rfl, rfl, rfl, (by first | rfl | exact ksub rfl (by first | omega | (simp; done) | (simp; omega))), (by first | rfl | exact ksub rfl (by first | omega | (simp; done) | (simp; omega))), (by first | rfl | exact ksub rfl (by first | omega | (simp; done) | (simp; omega))), rfl, rfl, rfl, rfl, rfl, (by first | rfl | exact ksub rfl (by first | omega | (simp; done) | (simp; omega))), trivial⟩ (fun _ s => s) ?_
    rintro ⟨j, x, y, z⟩ ⟨hj, hx, hy, hz⟩
    dsimp only at hj hx hy hz ⊢
    refine wp_sc ?_
    refine wp_sq ?_
    refine sq_v rfl (v_lss rfl rfl) rfl ?_
    refine sq_end ?_
    refine qs_n ?_
    refine wp_sc ?_
    refine wp_cd rfl (fun c62 => ?_) (fun c62 => ?_)
    · refine wp_sk ?_
      refine qs_n ?_
      refine wp_sc ?_
      refine wp_bl ?_
      refine wp_sc ?_
      refine wp_sq ?_
      refine sq_v rfl (v_move rfl) rfl ?_
      refine sq_v rfl (v_idxI Try.underlying24 ty_3 rfl rfl qi.toR (by first | omega | (simp only [List.length_cons, List.length_nil]; omega) | (simp only [List.length_append, List.length_cons, List.length_nil]; omega) | (rw [List.length_set]; omega) | (rw [List.length_replicate]; omega) | (simp; omega)) (by first | omega | (simp only [List.length_cons, List.length_nil]; omega) | (simp only [List.length_append, List.length_cons, List.length_nil]; omega) | (rw [List.length_set]; omega) | (rw [List.length_replicate]; omega) | (simp; omega))) rfl ?_
      refine sq_v rfl (v_loadI (k := j) 0 ty_3 rfl rfl qi.toR (by first | omega | (simp only [List.length_cons, List.length_nil]; omega) | (simp only [List.length_append, List.length_cons, List.length_nil]; omega) | (rw [List.length_set]; omega) | (rw [List.length_replicate]; omega) | (simp; omega))) rfl ?_
      refine sq_v rfl (v_assign rfl) rfl ?_
      refine sq_v rfl (v_assign rfl) rfl ?_
      refine sq_end ?_
      have hx0 := dotTo_in hA hib j (by omega) (by omega)
      have hx1 := dotTo_in hA hib (j + 1) (by omega) (by omega)
      have ex : dotTo (stepsL L t.l t.d) (idxL D m) (j + 1) = dotTo (stepsL L t.l t.d) (idxL D m) j + (stepsL L t.l t.d).getD j 0 * (idxL D m).getD j 0 := rfl
      rw [Int.mul_comm] at ex
      have hy0 := dotTo_in hB hib j (by omega) (by omega)
      have hy1 := dotTo_in hB hib (j + 1) (by omega) (by omega)
      have ey : dotTo (stepsL L u.l u.d) (idxL D m) (j + 1) = dotTo (stepsL L u.l u.d) (idxL D m) j + (stepsL L u.l u.d).getD j 0 * (idxL D m).getD j 0 := rfl
      rw [Int.mul_comm] at ey
      have hz0 := dotTo_in hC hib j (by omega) (by omega)
      have hz1 := dotTo_in hC hib (j + 1) (by omega) (by omega)
      have ez : dotTo (stepsL L K (K.map f)) (idxL D m) (j + 1) = dotTo (stepsL L K (K.map f)) (idxL D m) j + (stepsL L K (K.map f)).getD j 0 * (idxL D m).getD j 0 := rfl
      rw [Int.mul_comm] at ez
      refine qs_n ?_
      refine wp_sc ?_
      refine wp_sq ?_
      refine sq_v rfl (v_move rfl) rfl ?_
      refine sq_v rfl (v_move rfl) rfl ?_
      refine sq_v rfl (v_move rfl) rfl ?_
      refine sq_v rfl (v_move rfl) rfl ?_
      refine sq_v rfl (v_idxI Try.underlying24 ty_3 rfl rfl r43.toR (by first | omega | (simp only [List.length_cons, List.length_nil]; omega) | (simp only [List.length_append, List.length_cons, List.length_nil]; omega) | (rw [List.length_set]; omega) | (rw [List.length_replicate]; omega) | (simp; omega)) (by first | omega | (simp only [List.length_cons, List.length_nil]; omega) | (simp only [List.length_append, List.length_cons, List.length_nil]; omega) | (rw [List.length_set]; omega) | (rw [List.length_replicate]; omega) | (simp; omega))) rfl ?_
      refine sq_v rfl (v_loadI (k := j) 3 ty_3 rfl rfl r43.toR (by first | omega | (simp only [List.length_cons, List.length_nil]; omega) | (simp only [List.length_append, List.length_cons, List.length_nil]; omega) | (rw [List.length_set]; omega) | (rw [List.length_replicate]; omega) | (simp; omega))) rfl ?_
      refine sq_v rfl (v_mul rfl rfl ((by unfold I64; omega))) rfl ?_
      refine sq_v rfl (v_add rfl rfl ((by unfold I64; omega))) rfl ?_
      refine sq_v rfl (v_assign rfl) rfl ?_
      refine sq_end ?_
      refine qs_n ?_
      refine wp_sc ?_
      refine wp_sq ?_
      refine sq_v rfl (v_move rfl) rfl ?_
      refine sq_v rfl (v_move rfl) rfl ?_
      refine sq_v rfl (v_move rfl) rfl ?_
      refine sq_v rfl (v_move rfl) rfl ?_
      refine sq_v rfl (v_idxI Try.underlying24 ty_3 rfl rfl r46.toR (by first | omega | (simp only [List.length_cons, List.length_nil]; omega) | (simp only [List.length_append, List.length_cons, List.length_nil]; omega) | (rw [List.length_set]; omega) | (rw [List.length_replicate]; omega) | (simp; omega)) (by first | omega | (simp only [List.length_cons, List.length_nil]; omega) | (simp only [List.length_append, List.length_cons, List.length_nil]; omega) | (rw [List.length_set]; omega) | (rw [List.length_replicate]; omega) | (simp; omega))) rfl ?_
      refine sq_v rfl (v_loadI (k := j) 2 ty_3 rfl rfl r46.toR (by first | omega | (simp only [List.length_cons, List.length_nil]; omega) | (simp only [List.length_append, List.length_cons, List.length_nil]; omega) | (rw [List.length_set]; omega) | (rw [List.length_replicate]; omega) | (simp; omega))) rfl ?_
      refine sq_v rfl (v_mul rfl rfl ((by unfold I64; omega))) rfl ?_
      refine sq_v rfl (v_add rfl rfl ((by unfold I64; omega))) rfl ?_
      refine sq_v rfl (v_assign rfl) rfl ?_
      refine sq_end ?_
      refine qs_n ?_
      refine wp_sq ?_
      refine sq_v rfl (v_move rfl) rfl ?_
      refine sq_v rfl (v_move rfl) rfl ?_
      refine sq_v rfl (v_move rfl) rfl ?_
      refine sq_v rfl (v_move rfl) rfl ?_
      refine sq_v rfl (v_idxI Try.underlying24 ty_3 rfl rfl r49.toR (by first | omega | (simp only [List.length_cons, List.length_nil]; omega) | (simp only [List.length_append, List.length_cons, List.length_nil]; omega) | (rw [List.length_set]; omega) | (rw [List.length_replicate]; omega) | (simp; omega)) (by first | omega | (simp only [List.length_cons, List.length_nil]; omega) | (simp only [List.length_append, List.length_cons, List.length_nil]; omega) | (rw [List.length_set]; omega) | (rw [List.length_replicate]; omega) | (simp; omega))) rfl ?_
      refine sq_v rfl (v_loadI (k := j) 1 ty_3 rfl rfl r49.toR (by first | omega | (simp only [List.length_cons, List.length_nil]; omega) | (simp only [List.length_append, List.length_cons, List.length_nil]; omega) | (rw [List.length_set]; omega) | (rw [List.length_replicate]; omega) | (simp; omega))) rfl ?_
      refine sq_v rfl (v_mul rfl rfl ((by unfold I64; omega))) rfl ?_
      refine sq_v rfl (v_add rfl rfl ((by unfold I64; omega))) rfl ?_
      refine sq_v rfl (v_assign rfl) rfl ?_
      refine sq_end ?_
      refine qs_bn ?_
      refine qs_n ?_
      refine wp_sq ?_
      refine sq_v rfl (v_add rfl rfl ((by unfold I64; omega))) rfl ?_
      refine sq_v rfl (v_move rfl) rfl ?_
      refine sq_end ?_
      exact qs_bk (j + 1, x + (idxL D m).getD j 0 * (stepsL L t.l t.d).getD j 0, y + (idxL D m).getD j 0 * (stepsL L u.l u.d).getD j 0, z + (idxL D m).getD j 0 * (stepsL L K (K.map f)).getD j 0) ⟨by (try dsimp only); omega, by (try dsimp only); omega, by (try dsimp only); omega, by (try dsimp only); omega⟩ (by simp only; omega) ⟨rfl, rfl, rfl, rfl, rfl, rfl, rfl, rfl, rfl, rfl, rfl, (by first | rfl | exact ksub rfl (by first | omega | (simp; done) | (simp; omega))), (by first | rfl | exact ksub rfl (by first | omega | (simp; done) | (simp; omega))), (by first | rfl | exact ksub rfl (by first | omega | (simp; done) | (simp; omega))), rfl, rfl, rfl, rfl, rfl, (by first | rfl | exact ksub rfl (by first | omega | (simp; done) | (simp; omega))), trivial⟩ (fun _ s => s)
    · refine wp_ex ?_
      refine qs_x ?_
      refine qs_x ?_
      refine qs_bx ?_
      refine qs_n ?_
      refine wp_sc ?_
      refine wp_rj 19 [(0, true), (1, true), (2, true), (3, true), (4, true), (5, true), (6, true), (8, true), (9, true), (10, true), (11, true), (13, true), (14, true), (15, true), (7, false), (12, false), (16, false), (17, false), (18, false), (19, false)] mixed_ok (by kernel_rfl) ?_
      obtain ⟨px, hpe⟩ : ∃ px, pairX k p n f t u K m = px := ⟨_, rfl⟩; have ex : x = atI f (joinI t.l u.l) t.l m := (by rw [hx, show j = L.length by omega, atI, dotL, stepsL_len, ← hst, hL, hD]); have ey : y = atI f (joinI t.l u.l) u.l m := (by rw [hy, show j = L.length by omega, atI, dotL, stepsL_len, ← hsu, hL, hD]); have ez : z = atI f (joinI t.l u.l) K m := (by rw [hz, show j = L.length by omega, atI, dotL, stepsL_len, hL, hD]); have hx0 := ok.at_t m; have hy0 := ok.at_u m; have hz0 := ok.at_k hk m; have hXr := ok.el_t m; have hYr := ok.el_u m; have hZr := (ok.all hk m).el hring hz0.1 hz0.2; have hzf := ok.fits hk m; rw [← ex] at hx0 hXr; rw [← ey] at hy0 hYr; rw [← ez] at hz0 hZr hzf; rw [hpe] at hZr hzf hpx qx; have hMr := mulL_in hring hXr hYr; have hSr := addL_in hring hZr hMr; have hxf := elt_fits ok.tt (i := x) hx0.2; have hyf := elt_fits ok.uu (i := y) hy0.2;
      refine rj_v rfl rfl (v_loadNB 10 ty_30 rfl rfl rfl rfl) rfl ?_
      refine rj_v rfl rfl (v_loadNB 4 ty_28 rfl rfl rfl rfl) rfl ?_
      refine rj_v rfl rfl (v_move rfl) rfl ?_
      refine rj_v rfl rfl (v_loadNB 10 ty_30 rfl rfl rfl rfl) rfl ?_
      refine rj_v rfl rfl (v_loadNB 10 ty_30 rfl rfl rfl rfl) rfl ?_
      refine rj_v rfl rfl (v_loadNB 4 ty_28 rfl rfl rfl rfl) rfl ?_
      refine rj_v rfl rfl (v_move rfl) rfl ?_
      refine rj_v rfl rfl (v_loadNB 10 ty_30 rfl rfl rfl rfl) rfl ?_
      refine rj_v rfl rfl (v_loadNB 10 ty_30 rfl rfl rfl rfl) rfl ?_
      refine rj_v rfl rfl (v_loadNB 9 ty_28 rfl rfl rfl rfl) rfl ?_
      refine rj_v rfl rfl (v_move rfl) rfl ?_
      refine rj_v rfl rfl (v_loadNB 10 ty_30 rfl rfl rfl rfl) rfl ?_
      refine rj_v rfl rfl (v_loadNB 8 ty_28 rfl rfl rfl rfl) rfl ?_
      refine rj_v rfl rfl (v_move rfl) rfl ?_
      refine rj_x rfl rfl (x_call rfl en_127 (fun w s => ct_s_l05Get _ _ _ _ _ _ _ _ w (by first | assumption | omega) (qx.toR.mono (s.get 14 rfl)) (by first | assumption | omega) (by first | assumption | omega) (by first | assumption | omega))) rfl ?_; rintro v98 h98 r98
      refine rj_x rfl rfl (x_call rfl en_127 (fun w s => ct_s_l05Get _ _ _ _ _ _ _ _ w (by first | assumption | omega) (r3.mono (s.get 12 rfl)) (by first | assumption | omega) (by first | assumption | omega) (by first | assumption | omega))) rfl ?_; rintro v103 h103 r103
      refine rj_x rfl rfl (x_call rfl en_127 (fun w s => ct_s_l05Get _ _ _ _ _ _ _ _ w (by first | assumption | omega) (r3'.mono (s.get 13 rfl)) (by first | assumption | omega) (by first | assumption | omega) (by first | assumption | omega))) rfl ?_; rintro v107 h107 r107
      refine rj_x rfl rfl (x_call rfl en_207 (fun w s => ct_s_l02Mul _ _ _ _ _ _ _ w (by first | assumption | omega) (r103.toR.mono (s.get 1 rfl)) (r107.toR.mono (s.get 0 rfl)) (by first | assumption | omega) (by first | assumption | omega))) rfl ?_; rintro v108 h108 r108
      refine rj_x rfl rfl (x_call rfl en_126 (fun w s => ct_s_l02Add _ _ _ _ _ _ _ w (by first | assumption | omega) (r98.toR.mono (s.get 3 rfl)) (r108.toR.mono (s.get 0 rfl)) (by first | assumption | omega) (by first | assumption | omega))) rfl ?_; rintro v109 h109 r109
      refine rj_m 19 rfl rfl rfl rfl (x_call rfl en_125 (fun w s => ct_s_l05Put _ _ _ _ _ _ _ _ _ _ _ _ w _ (by first | assumption | omega) (s.get 19 rfl) (qo1.toR.mono (s.getR 19 17 rfl rfl (by decide))) (qo2.toR.mono (s.getR 19 18 rfl rfl (by decide))) qx (r109.toR.mono (s.getR 19 0 rfl rfl (by decide))) hSr.1 (by first | assumption | omega) (by first | assumption | omega) (by first | assumption | omega))) rfl ?_; rintro _ h110 r110
      refine rj_end ?_
      refine qs_n ?_
      refine wp_sc ?_
      refine wp_sq ?_
      refine sq_v rfl (v_move rfl) rfl ?_
      refine sq_v rfl (v_len Try.underlying24 rfl qi.toR.sl) rfl ?_
      refine sq_v rfl (v_sub rfl rfl ((by unfold I64; omega))) rfl ?_
      refine sq_v rfl (v_assign rfl) rfl ?_
      refine sq_end ?_
      refine qs_n ?_
      refine wp_bl ?_
      refine wp_lp (σ := Nat × PH) (fun z_ => [(4, .pointer (some ⟨b4, 0, none⟩)), (5, .pointer (some ⟨b5, 0, none⟩)), (6, .pointer (some ⟨b6, 0, none⟩)), (8, .pointer (some ⟨b8, 0, none⟩)), (10, v2), (12, .pointer (some ⟨b12, 0, none⟩)), (13, v43), (14, v46), (15, v49), (16, v52), (17, num (prodI D - m)), (18, num x), (19, num y), (20, num z), (23, num ((z_.1 : Int) - 1)), (28, v1), (55, num (prodI D - m)), (56, .bool (decide ((0 : Int) < prodI D - m))), (59, v52), (60, num (idxL D m).length), (61, num j), (62, .bool (decide ((j : Int) < (idxL D m).length))), (91, .agg [num k, num p, num n].toArray), (92, .agg [va40, vb40, vc40].toArray), (93, num z), (94, .agg [num k, num p, num n].toArray), (95, .agg [num k, num p, num n].toArray), (96, .agg [va40, vb40, vc40].toArray), (97, num z), (98, v98), (99, .agg [num k, num p, num n].toArray), (100, .agg [num k, num p, num n].toArray), (101, .agg [a, b, c].toArray), (102, num x), (103, v103), (104, .agg [num k, num p, num n].toArray), (105, .agg [a', b', c'].toArray), (106, num y), (107, v107), (108, v108), (109, v109), (111, v52), (112, num (idxL D m).length), (113, num ((idxL D m).length - 1))]) (fun z_ => [h109, h108, h107, h103, h98, z_.2, h49, h46, h43, box b12 [va40, vb40, vc40] 28, h34, h27, box b8 [.slice none 0 0, .slice none 0 0, .slice none 0 0] 28, box b6 [a', b', c'] 28, box b5 [a, b, c] 28, box b4 [num k, num p, num n] 30, hp w, go1, go2, h110]) (fun z_ => z_.1 ≤ D.length ∧ ((m : Int) + 1) % prodI (D.drop z_.1) = 0 ∧ IntsO (mixL (idxL D m) (idxL D (m + 1)) z_.1) v52 z_.2) (fun z_ => z_.1) (D.length, gi) (⟨by (try dsimp only); omega, by (try dsimp only); simp [prodI, Int.emod_one], by (try dsimp only); rw [mix_end (by omega) (by omega)]; exact qi⟩) ⟨rfl, rfl, rfl, rfl, rfl, rfl, rfl, rfl, rfl, rfl, rfl, rfl, rfl, rfl, (by first | rfl | exact ksub rfl (by first | omega | (simp; done) | (simp; omega))), rfl, rfl, rfl, rfl, rfl, rfl, rfl, rfl, rfl, rfl, rfl, rfl, rfl, rfl, rfl, rfl, rfl, rfl, rfl, rfl, rfl, rfl, rfl, rfl, rfl, rfl, rfl, rfl, rfl, trivial⟩ (fun _ s => s) ?_
      rintro ⟨q, g2⟩ ⟨hq, hP, qj⟩
      dsimp only at hq hP qj ⊢
      have hle_qj := qj.toR.le
      have hml := mix_len (A := idxL D m) (B := idxL D (m + 1)) (k := q) (by omega) (by omega)
      have em : ((q : Int) - 1).toNat = q - 1 := by omega
      refine wp_sc ?_
      refine wp_sc ?_
      refine wp_sq ?_
      refine sq_v rfl (v_move rfl) rfl ?_
      refine sq_v rfl (v_geq rfl rfl) rfl ?_
      refine sq_end ?_
      refine qs_n ?_
      refine wp_cd rfl (fun c115 => ?_) (fun c115 => ?_)
      · refine wp_sk ?_
        refine qs_n ?_
        refine wp_sc ?_
        refine wp_bl ?_
        refine wp_sc ?_
        refine wp_sq ?_
        refine sq_v rfl (v_move rfl) rfl ?_
        refine sq_v rfl (v_move rfl) rfl ?_
        have hk1 : q - 1 < D.length := (by omega); have hdm := hDd _ (mem_getD hk1); have hlow : (mixL (idxL D m) (idxL D (m + 1)) q).getD ((q : Int) - 1).toNat 0 = digI D m (q - 1) := (by rw [em, mix_low (by omega) (by omega), idxL_get hk1]); have hdg := (idxL_in hD1 m).2 (q - 1) hk1; rw [idxL_get hk1] at hdg
        refine sq_v rfl (v_idxI Try.underlying24 ty_3 rfl rfl qj.toR (by first | omega | (simp only [List.length_cons, List.length_nil]; omega) | (simp only [List.length_append, List.length_cons, List.length_nil]; omega) | (rw [List.length_set]; omega) | (rw [List.length_replicate]; omega) | (simp; omega)) (by first | omega | (simp only [List.length_cons, List.length_nil]; omega) | (simp only [List.length_append, List.length_cons, List.length_nil]; omega) | (rw [List.length_set]; omega) | (rw [List.length_replicate]; omega) | (simp; omega))) rfl ?_
        refine sq_v rfl (v_loadI  5 ty_3 rfl rfl qj.toR (by first | omega | (simp only [List.length_cons, List.length_nil]; omega) | (simp only [List.length_append, List.length_cons, List.length_nil]; omega) | (rw [List.length_set]; omega) | (rw [List.length_replicate]; omega) | (simp; omega))) rfl ?_
        refine sq_v rfl (v_add rfl rfl ((by unfold I64; omega))) rfl ?_
        refine sq_v rfl (v_idxI Try.underlying24 ty_3 rfl rfl qj.toR (by first | omega | (simp only [List.length_cons, List.length_nil]; omega) | (simp only [List.length_append, List.length_cons, List.length_nil]; omega) | (rw [List.length_set]; omega) | (rw [List.length_replicate]; omega) | (simp; omega)) (by first | omega | (simp only [List.length_cons, List.length_nil]; omega) | (simp only [List.length_append, List.length_cons, List.length_nil]; omega) | (rw [List.length_set]; omega) | (rw [List.length_replicate]; omega) | (simp; omega))) rfl ?_
        refine sq_m 5 rfl rfl (m_storeI 5 ty_3 rfl rfl rfl qj (by first | omega | (simp only [List.length_cons, List.length_nil]; omega) | (simp only [List.length_append, List.length_cons, List.length_nil]; omega) | (rw [List.length_set]; omega) | (rw [List.length_replicate]; omega) | (simp; omega))) rfl ?_; rintro _ h_q25_6 ⟨rfl, q25_6⟩
        refine sq_end ?_
        rw [hlow, em] at q25_6
        refine qs_n ?_
        refine wp_sc ?_
        refine wp_sc ?_
        refine wp_rj 9 [(0, true), (1, true), (2, true), (3, true), (4, true), (5, true), (6, true), (7, true), (8, true)] mixed_ok (by kernel_rfl) ?_
        refine rj_v rfl rfl (v_move rfl) rfl ?_
        refine rj_v rfl rfl (v_move rfl) rfl ?_
        refine rj_v rfl rfl (v_idxI Try.underlying24 ty_3 rfl rfl q25_6.toR (by first | omega | (simp only [List.length_cons, List.length_nil]; omega) | (simp only [List.length_append, List.length_cons, List.length_nil]; omega) | (rw [List.length_set]; omega) | (rw [List.length_replicate]; omega) | (simp; omega)) (by first | omega | (simp only [List.length_cons, List.length_nil]; omega) | (simp only [List.length_append, List.length_cons, List.length_nil]; omega) | (rw [List.length_set]; omega) | (rw [List.length_replicate]; omega) | (simp; omega))) rfl ?_
        refine rj_v rfl rfl (v_loadI  5 ty_3 rfl rfl q25_6.toR (by first | omega | (simp only [List.length_cons, List.length_nil]; omega) | (simp only [List.length_append, List.length_cons, List.length_nil]; omega) | (rw [List.length_set]; omega) | (rw [List.length_replicate]; omega) | (simp; omega))) rfl ?_
        refine rj_v rfl rfl (v_move rfl) rfl ?_
        refine rj_v rfl rfl (v_move rfl) rfl ?_
        refine rj_v rfl rfl (v_idxI Try.underlying24 ty_3 rfl rfl q2 (by first | omega | (simp only [List.length_cons, List.length_nil]; omega) | (simp only [List.length_append, List.length_cons, List.length_nil]; omega) | (rw [List.length_set]; omega) | (rw [List.length_replicate]; omega) | (simp; omega)) (by first | omega | (simp only [List.length_cons, List.length_nil]; omega) | (simp only [List.length_append, List.length_cons, List.length_nil]; omega) | (rw [List.length_set]; omega) | (rw [List.length_replicate]; omega) | (simp; omega))) rfl ?_
        refine rj_v rfl rfl (v_loadI  11 ty_3 rfl rfl q2 (by first | omega | (simp only [List.length_cons, List.length_nil]; omega) | (simp only [List.length_append, List.length_cons, List.length_nil]; omega) | (rw [List.length_set]; omega) | (rw [List.length_replicate]; omega) | (simp; omega))) rfl ?_
        refine rj_v rfl rfl (v_lss rfl rfl) rfl ?_
        refine rj_end ?_
        have hg4 : ((mixL (idxL D m) (idxL D (m + 1)) q).set (q - 1) (digI D m (q - 1) + 1)).getD ((q : Int) - 1).toNat 0 = digI D m (q - 1) + 1 := by rw [em]; simp only [List.getD]; rw [List.getElem?_set_self (by omega)]; rfl
        have hc : (((mixL (idxL D m) (idxL D (m + 1)) q).set (q - 1) (digI D m (q - 1) + 1)).getD ((q : Int) - 1).toNat 0 < D.getD ((q : Int) - 1).toNat 0) ↔ digI D m (q - 1) + 1 < D.getD (q - 1) 0 := by rw [hg4, em]
        refine qs_n ?_
        refine wp_cd rfl (fun c132 => ?_) (fun c132 => ?_)
        · refine wp_ex ?_
          refine qs_x ?_
          refine qs_by rfl ?_
          refine qs_x ?_
          refine qs_x ?_
          refine qs_bx ?_
          refine qs_bn ?_
          refine qs_n ?_
          refine wp_sq ?_
          refine sq_v rfl (v_move rfl) rfl ?_
          refine sq_v rfl (v_sub rfl rfl ((by unfold I64; omega))) rfl ?_
          refine sq_v rfl (v_assign rfl) rfl ?_
          refine sq_end ?_
          exact qs_bk (m + 1, h_q25_6, h110) ⟨by (try dsimp only); omega, by (try dsimp only); rw [show ((m + 1 : Nat) : Int) = (m : Int) + 1 from rfl, ← idx_yes hD1 (by omega) (by omega) hq hP (hc.1 c132)]; exact q25_6, by (try dsimp only); rw [pairX, hpe, ← ex, ← ey, ← ez]; exact r110⟩ (by simp only; omega) ⟨rfl, rfl, rfl, rfl, rfl, rfl, rfl, rfl, rfl, rfl, (by first | rfl | exact ksub rfl (by first | omega | (simp; done) | (simp; omega))), rfl, trivial⟩ (fun _ s => s.pick [5, 6, 7, 8, 9, 10, 11, 12, 13, 14, 15, 16, 17, 18, 19] (by decide) rfl)
        · refine wp_sk ?_
          refine qs_n ?_
          refine wp_sq ?_
          refine sq_v rfl (v_move rfl) rfl ?_
          refine sq_v rfl (v_move rfl) rfl ?_
          refine sq_v rfl (v_idxI Try.underlying24 ty_3 rfl rfl q25_6.toR (by first | omega | (simp only [List.length_cons, List.length_nil]; omega) | (simp only [List.length_append, List.length_cons, List.length_nil]; omega) | (rw [List.length_set]; omega) | (rw [List.length_replicate]; omega) | (simp; omega)) (by first | omega | (simp only [List.length_cons, List.length_nil]; omega) | (simp only [List.length_append, List.length_cons, List.length_nil]; omega) | (rw [List.length_set]; omega) | (rw [List.length_replicate]; omega) | (simp; omega))) rfl ?_
          refine sq_m 5 rfl rfl (m_storeI 5 ty_3 rfl rfl rfl q25_6 (by first | omega | (simp only [List.length_cons, List.length_nil]; omega) | (simp only [List.length_append, List.length_cons, List.length_nil]; omega) | (rw [List.length_set]; omega) | (rw [List.length_replicate]; omega) | (simp; omega))) rfl ?_; rintro _ h_q27_3 ⟨rfl, q27_3⟩
          refine sq_end ?_
          have hno := idx_no hD1 (by omega) (show 1 ≤ q by omega) hq hP (fun h => c132 (hc.2 h))
          rw [em, List.set_set, hno.1] at q27_3
          refine qs_bn ?_
          refine qs_n ?_
          refine wp_sq ?_
          refine sq_v rfl (v_move rfl) rfl ?_
          refine sq_v rfl (v_sub rfl rfl ((by unfold I64; omega))) rfl ?_
          refine sq_v rfl (v_assign rfl) rfl ?_
          refine sq_end ?_
          exact qs_bk (q - 1, h_q27_3) ⟨by (try dsimp only); omega, hno.2, q27_3⟩ (by simp only; omega) ⟨rfl, rfl, rfl, rfl, rfl, rfl, rfl, rfl, rfl, rfl, rfl, rfl, rfl, rfl, (by first | rfl | exact ksub rfl (by first | omega | (simp; done) | (simp; omega))), rfl, rfl, rfl, rfl, rfl, rfl, rfl, rfl, rfl, rfl, rfl, rfl, rfl, rfl, rfl, rfl, rfl, rfl, rfl, rfl, rfl, rfl, rfl, rfl, rfl, rfl, rfl, rfl, rfl, trivial⟩ (fun _ s => s)
      · refine wp_ex ?_
        refine qs_x ?_
        refine qs_x ?_
        refine qs_bx ?_
        refine qs_bn ?_
        refine qs_n ?_
        refine wp_sq ?_
        refine sq_v rfl (v_move rfl) rfl ?_
        refine sq_v rfl (v_sub rfl rfl ((by unfold I64; omega))) rfl ?_
        refine sq_v rfl (v_assign rfl) rfl ?_
        refine sq_end ?_
        exact qs_bk (m + 1, g2, h110) ⟨by (try dsimp only); omega, by (try dsimp only); rw [show q = 0 by omega, mix_zero] at qj; exact qj, by (try dsimp only); rw [pairX, hpe, ← ex, ← ey, ← ez]; exact r110⟩ (by simp only; omega) ⟨rfl, rfl, rfl, rfl, rfl, rfl, rfl, rfl, rfl, rfl, (by first | rfl | exact ksub rfl (by first | omega | (simp; done) | (simp; omega))), rfl, trivial⟩ (fun _ s => s.pick [5, 6, 7, 8, 9, 10, 11, 12, 13, 14, 15, 16, 17, 18, 19] (by decide) rfl)
  · refine wp_ex ?_
    refine qs_x ?_
    refine qs_x ?_
    refine qs_bx ?_
    refine qs_n ?_
    refine wp_sc ?_
    refine wp_sq ?_
    refine sq_v rfl (v_loadNB 4 ty_28 rfl rfl rfl rfl) rfl ?_
    refine sq_m 7 rfl rfl (m_store 7 ty_28 rfl rfl rfl rfl (by simp [qo1.toR.sl.one, qo2.toR.sl.one, qx.toR.sl.one]) rfl (Nat.le_of_ble_eq_true rfl)) rfl ?_; rintro _ _ ⟨rfl, rfl⟩
    refine sq_end ?_
    refine qs_n ?_
    refine wp_rt ?_
    refine qs_close [box b8 _ _, hp w] [go1, go2, gx] (fun _ s => s.pick [7, 11, 12, 13, 14] (by decide) rfl) (fun md => ?_)
    exact qs_retc 1 rfl ty_28 rfl rfl rfl (fin_t 0 (i := 2) rfl rfl rfl ⟨_, _, _, rfl, _, _, _, qo1, qo2, (by rw [pairT, hL, hD, show (prodI D).toNat = m by omega]; exact qx), md⟩)
end Go.Proofs.Ytikeobneipjfnaa
