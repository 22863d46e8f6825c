/-
  Parts of the proof of FnExactSimplifyNetwork: laws of heaps, contracts of functions.
  Conditions: none.
-/
import Derived.Test.YthlmjnihihbckaaGreatQSimplifyNetwork4
namespace Go.Proofs.YthlmjnihihbckaaGreat
set_option maxRecDepth 100000
open Go.RowKit
def differ (t u : Ten) (x : Int) : Prop := (x ∈ t.l ∧ x ∈ u.l) ∧ t.d.getD (findI t.l x).toNat 0 ≠ u.d.getD (findI u.l x).toNat 0
theorem mism_of {t u : Ten} {x : Int} (h : differ t u x) : mism t u := by
  have hg := findI_get h.1.2; exact ⟨(findI u.l x).toNat, hg.1, by rw [hg.2]; exact h.1.1, by rw [hg.2]; exact h.2⟩
theorem mism_none {t u : Ten} (hn : u.l.Nodup) (h : ∀ j, j < (joinI t.l u.l).length → ¬ differ t u ((joinI t.l u.l).getD j 0)) : ¬ mism t u := by
  rintro ⟨i, hi, hm, hne⟩; have hu := mem_getD hi; obtain ⟨j, hj, e⟩ := getD_of_mem (mem_joinI.2 (.inl hm) : u.l.getD i 0 ∈ joinI t.l u.l); refine h j hj ?_; rw [e]; refine ⟨⟨hm, hu⟩, ?_⟩; rw [find_at' hn hi]; exact hne
theorem dimJ_yes {t u : Ten} {x : Int} (h : x ∈ t.l) : dimJ t u x = t.d.getD (findI t.l x).toNat 0 := if_pos h
theorem dimJ_no {t u : Ten} {x : Int} (h : x ∉ t.l) : dimJ t u x = u.d.getD (findI u.l x).toNat 0 := if_neg h
set_option maxHeartbeats 2000000 in
theorem ct_i_joinAxes (t u : Ten) (a b c a' b' c' : Value) (w : World) (r1 : IntsR t.l a (hp w)) (r2 : IntsR t.d b (hp w)) (r3 : IntsR t.x c (hp w)) (r1' : IntsR u.l a' (hp w)) (r2' : IntsR u.d b' (hp w)) (r3' : IntsR u.x c' (hp w)) (ht : t.l.length = t.d.length) (hu : u.l.length = u.d.length) (htn : t.l.Nodup) (hn : u.l.Nodup) (hs : t.l.length + u.l.length ≤ 100000) :
    Calls Tryz.prog 173 [tenV a b c, tenV a' b' c'].toArray w (Ret w emp (JoinR t u)) := by
  have hjl := joinI_len t.l u.l; obtain ⟨L, hL⟩ : ∃ L, L = joinI t.l u.l := ⟨_, rfl⟩
  have hLm : (L.map (dimJ t u)).length = L.length := by simp
  refine calls_in Tryz.func173 rfl Tryz.ntmps173 rfl (Sat.start w) ?_; have hle0 := r1.le; have hle1 := r2.le; have hle2 := r3.le; have hle3 := r1'.le; have hle4 := r2'.le; have hle5 := r3'.le; refine wp_sc (wp_sq ?_); refine sq_x rfl (x_box rfl rfl) rfl ?_; rintro _ _ ⟨b2, rfl, rfl⟩; refine sq_x rfl (x_box rfl rfl) rfl ?_; rintro _ _ ⟨b3, rfl, rfl⟩; refine sq_v rfl (v_assign rfl) rfl (sq_v rfl (v_assign rfl) rfl (sq_v rfl (v_assign rfl) rfl (sq_end (qs_n (wp_sc (wp_sq (sq_v rfl (v_fieldAddr fd_34_0 ty_25 (by decide) rfl) rfl (sq_v rfl (v_loadB 1 ty_25 rfl rfl rfl) rfl (sq_v rfl (v_fieldAddr fd_34_0 ty_25 (by decide) rfl) rfl (sq_v rfl (v_loadB 0 ty_25 rfl rfl rfl) rfl ?_)))))))))); refine sq_x rfl (x_call rfl en_117 (fun w s => ct_i_joinLabels _ _ _ _ w (r1.mono (s.get 2 rfl)) (r1'.mono (s.get 2 rfl)) (by first | assumption | omega))) rfl ?_; rintro v17 h17 r17; refine sq_v rfl (v_assign rfl) rfl (sq_end ?_); rw [← hL] at r17 hjl; refine qs_n (wp_sc (wp_sq (sq_v rfl (v_move rfl) rfl (sq_v rfl (v_len Tryz.underlying25 rfl r17.toR.sl) rfl ?_)))); refine sq_x rfl (x_makeI Tryz.underlying25 ty_3 rfl rfl (by omega) (by omega) (by omega)) rfl ?_; intro v20 h20 r20; refine sq_v rfl (v_assign rfl) rfl (sq_end (qs_n (wp_sc (wp_sc (wp_sq (sq_v rfl (v_move rfl) rfl (sq_v rfl (v_len Tryz.underlying25 rfl r17.toR.sl) rfl (sq_v rfl (v_move rfl) rfl (sq_end (qs_n (wp_bl ?_))))))))))); refine wp_lp (σ := Nat × PH) (fun z_ => [(2, .pointer (some ⟨b2, 0, none⟩)), (3, .pointer (some ⟨b3, 0, none⟩)), (4, .slice none 0 0), (5, .slice none 0 0), (6, .bool false), (7, v17), (8, v20), (21, v17), (22, num L.length), (23, num z_.1)]) (fun z_ => [z_.2, h17, box b3 [a', b', c'] 34, box b2 [a, b, c] 34, hp w]) (fun z_ => z_.1 ≤ L.length ∧ (∀ j, j < z_.1 → ¬ differ t u (L.getD j 0)) ∧ IntsO ((L.map (dimJ t u)).take z_.1 ++ List.replicate ((L.map (dimJ t u)).length - z_.1) 0) v20 z_.2) (fun z_ => L.length - z_.1) (0, h20) (⟨by (try dsimp only); omega, fun j hj => by omega, by (try dsimp only); simpa using r20⟩) ⟨rfl, rfl, rfl, rfl, rfl, rfl, rfl, rfl, rfl, rfl, trivial⟩ (fun _ s => s) ?_; rintro ⟨i, g⟩ ⟨hi, hm, q⟩; dsimp only at hi hm q ⊢; have hle_q := q.toR.le; have hll : ((L.map (dimJ t u)).take i ++ List.replicate ((L.map (dimJ t u)).length - i) 0).length = L.length := by simp; omega
  refine wp_sc (wp_sq (sq_v rfl (v_lss rfl rfl) rfl (sq_end (qs_n (wp_sc ?_))))); refine wp_cd rfl (fun c24 => ?_) (fun c24 => ?_)
  · refine wp_sk (qs_n (wp_sc (wp_bl (wp_sc (wp_sq (sq_v rfl (v_move rfl) rfl (sq_v rfl (v_idxI Tryz.underlying25 ty_3 rfl rfl r17.toR (by omega) (by omega)) rfl (sq_v rfl (v_loadI (k := i) 1 ty_3 rfl rfl r17.toR (by omega)) rfl (sq_v rfl (v_assign rfl) rfl (sq_v rfl (v_assign rfl) rfl (sq_end ?_))))))))))); have hfr1 := findI_range t.l (L.getD i 0); have hfr2 := findI_range u.l (L.getD i 0); have hfg1 := findI_ge (xs := t.l) (n := L.getD i 0); have hfg2 := findI_ge (xs := u.l) (n := L.getD i 0); have hmL : L.getD i 0 ∈ t.l ∨ L.getD i 0 ∈ u.l := mem_joinI.1 (by rw [← hL]; exact mem_getD (by omega)); refine qs_n (wp_sc (wp_rj 8 [(0, true), (1, true), (3, true), (4, true), (2, false), (5, false), (6, true), (7, true)] mixed_ok (by kernel_rfl) (rj_v rfl rfl (v_loadNB 3 ty_34 rfl rfl rfl rfl) rfl (rj_v rfl rfl (v_move rfl) rfl (rj_v rfl rfl (v_loadNB 2 ty_34 rfl rfl rfl rfl) rfl (rj_v rfl rfl (v_move rfl) rfl (rj_u rfl rfl (x_callv rfl en_216 (fun w s => ct_u_axisOf _ _ _ _ _ _ _ w (r1.mono (s.get 4 rfl)) (r2.mono (s.get 4 rfl)) (r3.mono (s.get 4 rfl)))) rfl (rj_u rfl rfl (x_callv rfl en_216 (fun w s => ct_u_axisOf _ _ _ _ _ _ _ w (r1'.mono (s.get 4 rfl)) (r2'.mono (s.get 4 rfl)) (r3'.mono (s.get 4 rfl)))) rfl (rj_v rfl rfl (v_assign rfl) rfl (rj_v rfl rfl (v_assign rfl) rfl (rj_end (qs_n (wp_sc (wp_sc (wp_rj 19 [(0, true), (1, true), (2, true), (3, true), (4, true), (5, true), (6, true), (7, true), (8, true), (9, true), (10, true), (11, true), (12, true), (13, true), (14, true), (15, true), (16, true), (17, true), (18, true)] mixed_ok (by kernel_rfl) ?_))))))))))))))); refine rj_v rfl rfl (v_move rfl) rfl (rj_v rfl rfl (v_geq rfl rfl) rfl ?_); refine rj_bd 35 rfl (fun c35 => ?_) (fun c35 => ?_)
    · refine rj_v rfl rfl (v_move rfl) rfl (rj_v rfl rfl (v_move rfl) rfl (rj_v rfl rfl (v_geq rfl rfl) rfl (rj_v rfl rfl (v_pickt rfl rfl) rfl ?_))); refine rj_bd 39 rfl (fun c39 => ?_) (fun c39 => ?_)
      · refine rj_v rfl rfl (v_move rfl) rfl (rj_v rfl rfl (v_fieldAddr fd_34_1 ty_25 (by decide) rfl) rfl (rj_v rfl rfl (v_loadB 3 ty_25 rfl rfl rfl) rfl (rj_v rfl rfl (v_move rfl) rfl (rj_v rfl rfl (v_idxI Tryz.underlying25 ty_3 rfl rfl r2 (by omega) (by omega)) rfl (rj_v rfl rfl (v_loadI  4 ty_3 rfl rfl r2 (by omega)) rfl (rj_v rfl rfl (v_fieldAddr fd_34_1 ty_25 (by decide) rfl) rfl (rj_v rfl rfl (v_loadB 2 ty_25 rfl rfl rfl) rfl (rj_v rfl rfl (v_move rfl) rfl (rj_v rfl rfl (v_idxI Tryz.underlying25 ty_3 rfl rfl r2' (by omega) (by omega)) rfl ?_))))))))); refine rj_v rfl rfl (v_loadI  4 ty_3 rfl rfl r2' (by omega)) rfl (rj_v rfl rfl (v_neq rfl rfl) rfl (rj_v rfl rfl (v_pickt rfl rfl) rfl (rj_end (qs_n ?_)))); refine wp_cd rfl (fun c52 => ?_) (fun c52 => ?_)
        · refine wp_sc (wp_sq (sq_v rfl (v_assign rfl) rfl (sq_v rfl (v_assign rfl) rfl (sq_v rfl (v_assign rfl) rfl (sq_end (qs_n (wp_rt (qs_r (qs_br (qs_r (qs_r (qs_br (qs_r ?_))))))))))))); exact qs_ret3 rfl rfl rfl rfl (fin_e (i := 4) rfl (⟨fun _ => rfl, fun h => absurd (mism_of ⟨⟨hfg1.1 c35, hfg2.1 c39⟩, c52⟩) h⟩))
        · refine wp_sk (qs_n (wp_sc (wp_sq (sq_v rfl (v_move rfl) rfl (sq_v rfl (v_geq rfl rfl) rfl (sq_end (qs_n ?_))))))); refine wp_cd rfl (fun c54 => ?_) (fun c54 => ?_)
          · refine wp_sq (sq_v rfl (v_move rfl) rfl (sq_v rfl (v_move rfl) rfl (sq_v rfl (v_fieldAddr fd_34_1 ty_25 (by decide) rfl) rfl (sq_v rfl (v_loadB 3 ty_25 rfl rfl rfl) rfl (sq_v rfl (v_move rfl) rfl (sq_v rfl (v_idxI Tryz.underlying25 ty_3 rfl rfl r2 (by omega) (by omega)) rfl (sq_v rfl (v_loadI  4 ty_3 rfl rfl r2 (by omega)) rfl (sq_v rfl (v_idxI Tryz.underlying25 ty_3 rfl rfl q.toR (by omega) (by omega)) rfl ?_)))))))); refine sq_m 0 rfl rfl (m_storeI (k := i) 0 ty_3 rfl rfl rfl q (by omega)) rfl ?_; rintro _ h_q10_8 ⟨rfl, q10_8⟩; refine sq_end (qs_bn (qs_n (wp_sq ?_))); refine sq_v rfl (v_add rfl rfl ((by unfold I64; omega))) rfl ?_; refine sq_v rfl (v_move rfl) rfl (sq_end ?_); exact qs_bk (i + 1, h_q10_8) ⟨by (try dsimp only); omega, step_all hm (fun h => c52 h.2), by (try dsimp only); rw [← set_prefix (by omega), map_getD (by omega), dimJ_yes (hfg1.1 c35)]; exact q10_8⟩ (by simp only; omega) ⟨rfl, rfl, rfl, rfl, rfl, rfl, rfl, rfl, rfl, rfl, trivial⟩ (fun _ s => s)
          · refine wp_sq (sq_v rfl (v_move rfl) rfl (sq_v rfl (v_move rfl) rfl (sq_v rfl (v_fieldAddr fd_34_1 ty_25 (by decide) rfl) rfl (sq_v rfl (v_loadB 2 ty_25 rfl rfl rfl) rfl ?_)))); have hy0 : 0 ≤ findI u.l (L.getD i 0) := (by first | omega | exact hfg2.2 (hmL.resolve_left fun h => c35 (hfg1.2 h)))
            refine sq_v rfl (v_move rfl) rfl (sq_v rfl (v_idxI Tryz.underlying25 ty_3 rfl rfl r2' (by omega) (by omega)) rfl (sq_v rfl (v_loadI  4 ty_3 rfl rfl r2' (by omega)) rfl (sq_v rfl (v_idxI Tryz.underlying25 ty_3 rfl rfl q.toR (by omega) (by omega)) rfl ?_))); refine sq_m 0 rfl rfl (m_storeI (k := i) 0 ty_3 rfl rfl rfl q (by omega)) rfl ?_; rintro _ h_q11_8 ⟨rfl, q11_8⟩; refine sq_end (qs_bn (qs_n (wp_sq ?_))); refine sq_v rfl (v_add rfl rfl ((by unfold I64; omega))) rfl ?_; refine sq_v rfl (v_move rfl) rfl (sq_end ?_)
            exfalso; omega
      · refine rj_v rfl rfl (v_move rfl) rfl (rj_s rfl rfl rfl (rj_s rfl rfl rfl (rj_s rfl rfl rfl (rj_s rfl rfl rfl (rj_s rfl rfl rfl (rj_s rfl rfl rfl (rj_s rfl rfl rfl (rj_s rfl rfl rfl (rj_s rfl rfl rfl ?_))))))))); refine rj_s rfl rfl rfl (rj_s rfl rfl rfl (rj_v rfl rfl (v_pickf rfl rfl) rfl (rj_end (qs_n (wp_cf rfl (wp_sk (qs_n (wp_sc (wp_sq (sq_v rfl (v_move rfl) rfl (sq_v rfl (v_geq rfl rfl) rfl (sq_end (qs_n ?_))))))))))))); refine wp_cd rfl (fun c54 => ?_) (fun c54 => ?_)
        · refine wp_sq (sq_v rfl (v_move rfl) rfl (sq_v rfl (v_move rfl) rfl (sq_v rfl (v_fieldAddr fd_34_1 ty_25 (by decide) rfl) rfl (sq_v rfl (v_loadB 3 ty_25 rfl rfl rfl) rfl (sq_v rfl (v_move rfl) rfl (sq_v rfl (v_idxI Tryz.underlying25 ty_3 rfl rfl r2 (by omega) (by omega)) rfl (sq_v rfl (v_loadI  4 ty_3 rfl rfl r2 (by omega)) rfl (sq_v rfl (v_idxI Tryz.underlying25 ty_3 rfl rfl q.toR (by omega) (by omega)) rfl ?_)))))))); refine sq_m 0 rfl rfl (m_storeI (k := i) 0 ty_3 rfl rfl rfl q (by omega)) rfl ?_; rintro _ h_q10_8 ⟨rfl, q10_8⟩; refine sq_end (qs_bn (qs_n (wp_sq ?_))); refine sq_v rfl (v_add rfl rfl ((by unfold I64; omega))) rfl ?_; refine sq_v rfl (v_move rfl) rfl (sq_end ?_); exact qs_bk (i + 1, h_q10_8) ⟨by (try dsimp only); omega, step_all hm (fun h => c39 (hfg2.2 h.1.2)), by (try dsimp only); rw [← set_prefix (by omega), map_getD (by omega), dimJ_yes (hfg1.1 c35)]; exact q10_8⟩ (by simp only; omega) ⟨rfl, rfl, rfl, rfl, rfl, rfl, rfl, rfl, rfl, rfl, trivial⟩ (fun _ s => s)
        · refine wp_sq (sq_v rfl (v_move rfl) rfl (sq_v rfl (v_move rfl) rfl (sq_v rfl (v_fieldAddr fd_34_1 ty_25 (by decide) rfl) rfl (sq_v rfl (v_loadB 2 ty_25 rfl rfl rfl) rfl ?_)))); have hy0 : 0 ≤ findI u.l (L.getD i 0) := (by first | omega | exact hfg2.2 (hmL.resolve_left fun h => c35 (hfg1.2 h)))
          refine sq_v rfl (v_move rfl) rfl (sq_v rfl (v_idxI Tryz.underlying25 ty_3 rfl rfl r2' (by omega) (by omega)) rfl (sq_v rfl (v_loadI  4 ty_3 rfl rfl r2' (by omega)) rfl (sq_v rfl (v_idxI Tryz.underlying25 ty_3 rfl rfl q.toR (by omega) (by omega)) rfl ?_))); refine sq_m 0 rfl rfl (m_storeI (k := i) 0 ty_3 rfl rfl rfl q (by omega)) rfl ?_; rintro _ h_q11_8 ⟨rfl, q11_8⟩; refine sq_end (qs_bn (qs_n (wp_sq ?_))); refine sq_v rfl (v_add rfl rfl ((by unfold I64; omega))) rfl ?_; refine sq_v rfl (v_move rfl) rfl (sq_end ?_)
          exfalso; omega
    · refine rj_v rfl rfl (v_move rfl) rfl (rj_s rfl rfl rfl (rj_s rfl rfl rfl (rj_v rfl rfl (v_pickf rfl rfl) rfl (rj_v rfl rfl (v_move rfl) rfl (rj_s rfl rfl rfl (rj_s rfl rfl rfl (rj_s rfl rfl rfl (rj_s rfl rfl rfl (rj_s rfl rfl rfl ?_))))))))); refine rj_s rfl rfl rfl (rj_s rfl rfl rfl (rj_s rfl rfl rfl (rj_s rfl rfl rfl (rj_s rfl rfl rfl (rj_s rfl rfl rfl (rj_v rfl rfl (v_pickf rfl rfl) rfl (rj_end (qs_n (wp_cf rfl (wp_sk (qs_n (wp_sc (wp_sq (sq_v rfl (v_move rfl) rfl (sq_v rfl (v_geq rfl rfl) rfl (sq_end (qs_n ?_))))))))))))))))); refine wp_cd rfl (fun c54 => ?_) (fun c54 => ?_)
      · refine wp_sq (sq_v rfl (v_move rfl) rfl (sq_v rfl (v_move rfl) rfl (sq_v rfl (v_fieldAddr fd_34_1 ty_25 (by decide) rfl) rfl (sq_v rfl (v_loadB 3 ty_25 rfl rfl rfl) rfl (sq_v rfl (v_move rfl) rfl (sq_v rfl (v_idxI Tryz.underlying25 ty_3 rfl rfl r2 (by omega) (by omega)) rfl (sq_v rfl (v_loadI  4 ty_3 rfl rfl r2 (by omega)) rfl (sq_v rfl (v_idxI Tryz.underlying25 ty_3 rfl rfl q.toR (by omega) (by omega)) rfl ?_)))))))); refine sq_m 0 rfl rfl (m_storeI (k := i) 0 ty_3 rfl rfl rfl q (by omega)) rfl ?_; rintro _ h_q10_8 ⟨rfl, q10_8⟩; refine sq_end (qs_bn (qs_n (wp_sq ?_))); refine sq_v rfl (v_add rfl rfl ((by unfold I64; omega))) rfl ?_; refine sq_v rfl (v_move rfl) rfl (sq_end ?_)
        exfalso; omega
      · refine wp_sq (sq_v rfl (v_move rfl) rfl (sq_v rfl (v_move rfl) rfl (sq_v rfl (v_fieldAddr fd_34_1 ty_25 (by decide) rfl) rfl (sq_v rfl (v_loadB 2 ty_25 rfl rfl rfl) rfl ?_)))); have hy0 : 0 ≤ findI u.l (L.getD i 0) := (by first | omega | exact hfg2.2 (hmL.resolve_left fun h => c35 (hfg1.2 h)))
        refine sq_v rfl (v_move rfl) rfl (sq_v rfl (v_idxI Tryz.underlying25 ty_3 rfl rfl r2' (by omega) (by omega)) rfl (sq_v rfl (v_loadI  4 ty_3 rfl rfl r2' (by omega)) rfl (sq_v rfl (v_idxI Tryz.underlying25 ty_3 rfl rfl q.toR (by omega) (by omega)) rfl ?_))); refine sq_m 0 rfl rfl (m_storeI (k := i) 0 ty_3 rfl rfl rfl q (by omega)) rfl ?_; rintro _ h_q11_8 ⟨rfl, q11_8⟩; refine sq_end (qs_bn (qs_n (wp_sq ?_))); refine sq_v rfl (v_add rfl rfl ((by unfold I64; omega))) rfl ?_; refine sq_v rfl (v_move rfl) rfl (sq_end ?_); exact qs_bk (i + 1, h_q11_8) ⟨by (try dsimp only); omega, step_all hm (fun h => c35 (hfg1.2 h.1.1)), by (try dsimp only); rw [← set_prefix (by omega), map_getD (by omega), dimJ_no (fun h => c35 (hfg1.2 h))]; exact q11_8⟩ (by simp only; omega) ⟨rfl, rfl, rfl, rfl, rfl, rfl, rfl, rfl, rfl, rfl, trivial⟩ (fun _ s => s)
  · refine wp_ex (qs_x (qs_x (qs_bx (qs_n (wp_sc (wp_sq (sq_v rfl (v_move rfl) rfl (sq_v rfl (v_move rfl) rfl (sq_v rfl (v_assign rfl) rfl (sq_v rfl (v_assign rfl) rfl (sq_v rfl (v_assign rfl) rfl (sq_end (qs_n (wp_rt ?_)))))))))))))); refine qs_close [hp w] [h17, g] (fun _ s => s.pick [4, 1, 0] (by decide) rfl) (fun md => ?_); have hnm : ¬ mism t u := mism_none hn (by rw [← hL]; exact fun j hj => hm j (by omega)); have e1 : joinD t u = L.map (dimJ t u) := by rw [hL]; exact joinD_map (dimJ_l htn ht) (dimJ_r hn hu hnm)
    rw [List.take_of_length_le (by rw [List.length_map]; omega), show (L.map (dimJ t u)).length - i = 0 by rw [List.length_map]; omega, List.replicate_zero, List.append_nil] at q; exact qs_ret3 rfl rfl rfl rfl (fin_t 0 (i := 1) rfl rfl rfl ⟨fun h => absurd h hnm, fun _ => ⟨_, _, rfl, by rw [← hL]; exact r17.toR.mono (md.le h17 (by simp)), by rw [e1]; exact q.toR.mono (md.le g (by simp))⟩⟩)
set_option maxHeartbeats 1000000 in
theorem ct_i_fillTensor (k p n : Int) (ls ds xs : List Int) (a b c : Value) (w : World) (r1 : IntsR ls a (hp w)) (r2 : IntsR ds b (hp w)) (r3 : IntsR xs c (hp w)) (hd : dimsIn ds) (hp1 : prodI ds ≤ 4096) (hx : xs.length ≤ 6) (hl : ls.length ≤ 12) (hdl : ds.length ≤ 12) :
    Calls Tryz.prog 175 [ringV k p n, a, b, c].toArray w (Ret w emp (TenT ⟨ls, ds, (List.replicate (prodI ds).toNat xs).flatten⟩)) := by
  have hp0 := prodI_one fun d h => (dims_mem hd d h).1; have hm6 : 0 ≤ prodI ds * xs.length ∧ prodI ds * xs.length ≤ 24576 := ⟨Int.mul_nonneg (by omega) (by omega), by have : prodI ds * xs.length ≤ 4096 * 6 := Int.mul_le_mul hp1 (by omega) (by omega) (by omega); omega⟩
  refine calls_in Tryz.func175 rfl Tryz.ntmps175 rfl (Sat.start w) ?_; have hle0 := r1.le; have hle1 := r2.le; have hle2 := r3.le; refine wp_sc (wp_sq ?_); refine sq_x rfl (x_box rfl rfl) rfl ?_; rintro _ _ ⟨b4, rfl, rfl⟩; refine sq_x rfl (x_alloc ty_34 rfl) rfl ?_; rintro _ _ ⟨b8, rfl, rfl⟩; refine sq_end (qs_n (wp_sc (wp_sq (sq_v rfl (v_move rfl) rfl ?_)))); refine sq_x rfl (x_call rfl en_132 (fun w s => ct_i_copyInts _ _ w (r1.mono (s.get 2 rfl)) (by first | assumption | omega))) rfl ?_; rintro v13 h13 r13; refine sq_v rfl (v_move rfl) rfl ?_; refine sq_x rfl (x_call rfl en_132 (fun w s => ct_i_copyInts _ _ w (r2.mono (s.get 3 rfl)) (by first | assumption | omega))) rfl ?_; rintro v15 h15 r15; refine sq_v rfl (v_build [v13, v15, .slice none 0 0] rfl (by obtain ⟨_, _, rfl⟩ := r13.toR.sl; obtain ⟨_, _, rfl⟩ := r15.toR.sl; kernel_rfl)) rfl ?_; refine sq_x rfl (x_alloc ty_34 rfl) rfl ?_; rintro _ _ ⟨b9, rfl, rfl⟩; refine sq_m 0 rfl rfl (m_store 0 ty_34 rfl rfl rfl rfl (by simp [r13.toR.sl.one, r15.toR.sl.one, one_sl]) rfl (Nat.le_of_ble_eq_true rfl)) rfl ?_; rintro _ _ ⟨rfl, rfl⟩; refine sq_end (qs_n (wp_sc (wp_sq (sq_v rfl (v_move rfl) rfl (sq_u rfl (x_callv rfl en_133 (fun w s => ct_i_productOf _ _ w (r2.mono (s.get 5 rfl)) (by first | assumption | omega) (by first | assumption | omega))) rfl (sq_v rfl (v_assign rfl) rfl (sq_end (qs_n (wp_sc (wp_sq (sq_v rfl (v_move rfl) rfl (sq_v rfl (v_move rfl) rfl (sq_v rfl (v_len Tryz.underlying25 rfl r3.sl) rfl ?_))))))))))))); refine sq_v rfl (v_mul rfl rfl ((by unfold I64; omega))) rfl ?_; refine sq_x rfl (x_make0I Tryz.underlying25 ty_3 rfl rfl (by omega) (by omega) (by omega)) rfl ?_; intro v23 h23 r23; refine sq_v rfl (v_fieldAddr fd_34_2 ty_25 (by decide) rfl) rfl ?_; refine sq_m 1 rfl rfl (m_store1 1 ty_25 rfl rfl r23.toR.sl.one rfl (Nat.le_of_ble_eq_true rfl)) rfl ?_; rintro _ _ ⟨rfl, rfl⟩; refine sq_end (qs_n (wp_sc (wp_sc (wp_sq (sq_v rfl (v_assign rfl) rfl (sq_end (qs_n (wp_bl ?_)))))))); refine wp_lp (σ := Nat × Value × PH) (fun z_ => [(3, c), (8, .pointer (some ⟨b8, 0, none⟩)), (9, .pointer (some ⟨b9, 0, none⟩)), (10, num (prodI ds)), (11, num z_.1)]) (fun z_ => [z_.2.2, box b9 [v13, v15, z_.2.1] 34, h15, h13, box b8 [.slice none 0 0, .slice none 0 0, .slice none 0 0] 34, box b4 [num k, num p, num n] 37, hp w]) (fun z_ => z_.1 ≤ (prodI ds).toNat ∧ IntsO ((List.replicate z_.1 xs).flatten) z_.2.1 z_.2.2) (fun z_ => (prodI ds).toNat - z_.1) (0, v23, h23) (⟨by (try dsimp only); omega, by (try dsimp only); simpa using r23⟩) ⟨rfl, rfl, rfl, rfl, rfl, trivial⟩ (fun _ s => s) ?_; rintro ⟨i, v, g⟩ ⟨hi, q⟩; dsimp only at hi q ⊢; have hle_q := q.toR.le; have hfl := flat_rep_len xs i; have hfb : i * xs.length ≤ 4096 * 6 := Nat.mul_le_mul (by omega) hx; refine wp_sc (wp_sc (wp_sq (sq_v rfl (v_move rfl) rfl (sq_v rfl (v_move rfl) rfl (sq_v rfl (v_lss rfl rfl) rfl (sq_end (qs_n ?_))))))); refine wp_cd rfl (fun c27 => ?_) (fun c27 => ?_)
  · refine wp_sk (qs_n (wp_sc (wp_bl (wp_sq (sq_v rfl (v_fieldAddr fd_34_2 ty_25 (by decide) rfl) rfl (sq_v rfl (v_loadB 1 ty_25 rfl rfl rfl) rfl (sq_v rfl (v_move rfl) rfl ?_))))))); refine sq_m 0 rfl rfl (m_appI 0 6 Tryz.underlying25 ty_3 rfl rfl rfl rfl q rfl r3 (by omega)) rfl ?_; intro v33 h_r33 r33; refine sq_v rfl (v_fieldAddr fd_34_2 ty_25 (by decide) rfl) rfl ?_; refine sq_m 1 rfl rfl (m_store1 1 ty_25 rfl rfl r33.toR.sl.one rfl (Nat.le_of_ble_eq_true rfl)) rfl ?_; rintro _ _ ⟨rfl, rfl⟩; refine sq_end (qs_bn (qs_n (wp_sq (sq_v rfl (v_move rfl) rfl ?_)))); refine sq_v rfl (v_add rfl rfl ((by unfold I64; omega))) rfl ?_; refine sq_v rfl (v_assign rfl) rfl (sq_end ?_); exact qs_bk (i + 1, v33, h_r33) ⟨by (try dsimp only); omega, by (try dsimp only); rw [flat_rep_succ]; exact r33⟩ (by simp only; omega) ⟨rfl, rfl, rfl, rfl, rfl, trivial⟩ (fun _ s => s)
  · refine wp_ex (qs_x (qs_x (qs_bx (qs_n (wp_sc (wp_sq (sq_v rfl (v_loadNB 1 ty_34 rfl rfl rfl rfl) rfl ?_))))))); refine sq_m 4 rfl rfl (m_store 4 ty_34 rfl rfl rfl rfl (by simp [r13.toR.sl.one, r15.toR.sl.one, q.toR.sl.one]) rfl (Nat.le_of_ble_eq_true rfl)) rfl ?_; rintro _ _ ⟨rfl, rfl⟩; refine sq_end (qs_n (wp_rt ?_)); refine qs_close [box b8 _ _, hp w] [h13, h15, g] (fun _ s => s.pick [4, 6, 3, 2, 0] (by decide) rfl) (fun md => ?_); exact qs_retc 1 rfl ty_34 rfl rfl rfl (fin_t 0 (i := 2) rfl rfl rfl ⟨_, _, _, rfl, _, _, _, r13, r15, (by rw [show (prodI ds).toNat = i by omega]; exact q), md⟩)
set_option maxHeartbeats 1000000 in
theorem ct_s_l05Zero (k p n : Int) (ls ds : List Int) (a b : Value) (w : World) (hr : ringL k p n) (r1 : IntsR ls a (hp w)) (r2 : IntsR ds b (hp w)) (hd : dimsIn ds) (hp1 : prodI ds ≤ 4096) (hl : ls.length ≤ 12) (hdl : ds.length ≤ 12) :
    Calls Tryz.prog 159 [ringV k p n, a, b].toArray w (Ret w emp (TenT ⟨ls, ds, (List.replicate (prodI ds).toNat (zeroL k p n)).flatten⟩)) := by
  have hp0 := prodI_one fun d h => (dims_mem hd d h).1; have hwr := width_range hr; have hzl := zeroL_len k p n; refine calls_in Tryz.func159 rfl Tryz.ntmps159 rfl (Sat.start w) ?_; have hle0 := r1.le; have hle1 := r2.le; refine wp_sc (wp_sq ?_); refine sq_x rfl (x_box rfl rfl) rfl ?_; rintro _ _ ⟨b3, rfl, rfl⟩; refine sq_x rfl (x_alloc ty_34 rfl) rfl ?_; rintro _ _ ⟨b6, rfl, rfl⟩; refine sq_end (qs_n (wp_sc (wp_sq (sq_v rfl (v_move rfl) rfl ?_)))); refine sq_x rfl (x_call rfl en_112 (fun w s => ct_s_l05Ints _ _ w (r1.mono (s.get 2 rfl)) (by first | assumption | omega))) rfl ?_; rintro v10 h10 r10; refine sq_v rfl (v_move rfl) rfl ?_; refine sq_x rfl (x_call rfl en_112 (fun w s => ct_s_l05Ints _ _ w (r2.mono (s.get 3 rfl)) (by first | assumption | omega))) rfl ?_; rintro v12 h12 r12; refine sq_v rfl (v_build [v10, v12, .slice none 0 0] rfl (by obtain ⟨_, _, rfl⟩ := r10.toR.sl; obtain ⟨_, _, rfl⟩ := r12.toR.sl; kernel_rfl)) rfl ?_; refine sq_x rfl (x_alloc ty_34 rfl) rfl ?_; rintro _ _ ⟨b7, rfl, rfl⟩; refine sq_m 0 rfl rfl (m_store 0 ty_34 rfl rfl rfl rfl (by simp [r10.toR.sl.one, r12.toR.sl.one, one_sl]) rfl (Nat.le_of_ble_eq_true rfl)) rfl ?_; rintro _ _ ⟨rfl, rfl⟩; refine sq_end (qs_n (wp_sc (wp_sc (wp_sq (sq_v rfl (v_move rfl) rfl (sq_u rfl (x_callv rfl en_156 (fun w s => ct_s_l05Product _ _ _ w (r2.mono (s.get 5 rfl)) (by first | assumption | omega) (by first | assumption | omega))) rfl (sq_v rfl (v_assign rfl) rfl (sq_end (qs_n (wp_bl ?_)))))))))); refine wp_lp (σ := Nat × Value × PH) (fun z_ => [(3, .pointer (some ⟨b3, 0, none⟩)), (6, .pointer (some ⟨b6, 0, none⟩)), (7, .pointer (some ⟨b7, 0, none⟩)), (8, num (prodI ds - z_.1))]) (fun z_ => [z_.2.2, box b7 [v10, v12, z_.2.1] 34, h12, h10, box b6 [.slice none 0 0, .slice none 0 0, .slice none 0 0] 34, box b3 [num k, num p, num n] 37, hp w]) (fun z_ => z_.1 ≤ (prodI ds).toNat ∧ IntsO ((List.replicate z_.1 (zeroL k p n)).flatten) z_.2.1 z_.2.2) (fun z_ => (prodI ds).toNat - z_.1) (0, .slice none 0 0, emp) (⟨by (try dsimp only); omega, by (try dsimp only); simpa using IntsO.nil⟩) ⟨rfl, rfl, rfl, (by first | rfl | exact ksub rfl (by first | omega | (simp; done) | (simp; omega))), trivial⟩ (fun _ s => (emp_sat s)) ?_; rintro ⟨i, v, g⟩ ⟨hi, q⟩; dsimp only at hi q ⊢; have hle_q := q.toR.le; have hfl := flat_rep_len (zeroL k p n) i; have hfb : i * (zeroL k p n).length ≤ 4096 * 6 := Nat.mul_le_mul (by omega) (by omega); refine wp_sc (wp_sc (wp_sq (sq_v rfl (v_move rfl) rfl (sq_v rfl (v_gtr rfl rfl) rfl (sq_end (qs_n ?_)))))); refine wp_cd rfl (fun c17 => ?_) (fun c17 => ?_)
  · refine wp_sk (qs_n (wp_sc (wp_bl (wp_rj 4 [(0, true), (1, true), (2, true), (3, false), (4, false), (5, false), (6, false)] mixed_ok (by kernel_rfl) (rj_v rfl rfl (v_fieldAddr fd_34_2 ty_25 (by decide) rfl) rfl (rj_v rfl rfl (v_loadB 1 ty_25 rfl rfl rfl) rfl (rj_v rfl rfl (v_loadNB 5 ty_37 rfl rfl rfl rfl) rfl ?_))))))); refine rj_x rfl rfl (x_call rfl en_230 (fun w s => ct_s_l02Zero _ _ _ w (by first | assumption | omega))) rfl ?_; rintro v23 h23 r23; refine rj_m 1 rfl rfl rfl rfl (m_appI 1 0 Tryz.underlying25 ty_3 rfl rfl rfl rfl q rfl r23.toR (by omega)) rfl ?_; intro v24 h_r24 r24; refine rj_fv rfl rfl (v_fieldAddr fd_34_2 ty_25 (by decide) rfl) rfl ?_; refine rj_m 2 rfl rfl rfl rfl (m_store1 2 ty_25 rfl rfl r24.toR.sl.one rfl (Nat.le_of_ble_eq_true rfl)) rfl ?_; rintro _ _ ⟨rfl, rfl⟩; refine rj_end (qs_bn (qs_n (wp_sq (sq_v rfl (v_move rfl) rfl ?_)))); refine sq_v rfl (v_sub rfl rfl ((by unfold I64; omega))) rfl ?_; refine sq_v rfl (v_assign rfl) rfl (sq_end ?_); exact qs_bk (i + 1, v24, h_r24) ⟨by (try dsimp only); omega, by (try dsimp only); rw [flat_rep_succ]; exact r24⟩ (by simp only; omega) ⟨rfl, rfl, rfl, (by first | rfl | exact ksub rfl (by first | omega | (simp; done) | (simp; omega))), trivial⟩ (fun _ s => s.pick [1, 2, 3, 4, 5, 6, 7] (by decide) rfl)
  · refine wp_ex (qs_x (qs_x (qs_bx (qs_n (wp_sc (wp_sq (sq_v rfl (v_loadNB 1 ty_34 rfl rfl rfl rfl) rfl ?_))))))); refine sq_m 4 rfl rfl (m_store 4 ty_34 rfl rfl rfl rfl (by simp [r10.toR.sl.one, r12.toR.sl.one, q.toR.sl.one]) rfl (Nat.le_of_ble_eq_true rfl)) rfl ?_; rintro _ _ ⟨rfl, rfl⟩; refine sq_end (qs_n (wp_rt ?_)); refine qs_close [box b6 _ _, hp w] [h10, h12, g] (fun _ s => s.pick [4, 6, 3, 2, 0] (by decide) rfl) (fun md => ?_); exact qs_retc 1 rfl ty_34 rfl rfl rfl (fin_t 0 (i := 2) rfl rfl rfl ⟨_, _, _, rfl, _, _, _, r10, r12, (by rw [show (prodI ds).toNat = i by omega]; exact q), md⟩)
theorem ct_s_l05Put (k p n i : Int) (ls ds xs ys : List Int) (a b c v : Value) (w : World) (h : PH) (hr : ringL k p n) (hle : PLe h (hp w)) (ra : IntsR ls a (restP w h)) (rb : IntsR ds b (restP w h)) (rx : IntsO xs c h) (ry : IntsR ys v (restP w h)) (hy : ys.length = (widthI k n).toNat) (hi : 0 ≤ i) (hl : i * widthI k n + widthI k n ≤ xs.length) (hs : xs.length ≤ 1000000) :
    Calls Tryz.prog 161 [ringV k p n, tenV a b c, num i, v].toArray w (Ret w h (fun _ h' => IntsO (putL xs (i * widthI k n).toNat ys) c h')) := by
  have hwr := width_range hr; have hm0 := Int.mul_nonneg hi (show 0 ≤ widthI k n by omega); have hE : ((xs.drop (i * widthI k n).toNat).take ys.length).length = ys.length := by simp; omega
  obtain ⟨E, hEe⟩ : ∃ E, E = (xs.drop (i * widthI k n).toNat).take ys.length := ⟨_, rfl⟩
  have hps := putL_self (xs := xs) (lo := (i * widthI k n).toNat) (m := ys.length) (by omega); rw [← hEe] at hE hps; refine calls_in Tryz.func161 rfl Tryz.ntmps161 rfl (Sat.start2 hle) ?_; have hle0 := ra.le; have hle1 := rb.le; have hle2 := rx.toR.le; have hle3 := ry.le; refine wp_sc (wp_sq ?_); refine sq_x rfl (x_box rfl rfl) rfl ?_; rintro _ _ ⟨b4, rfl, rfl⟩; refine sq_x rfl (x_box rfl rfl) rfl ?_; rintro _ _ ⟨b5, rfl, rfl⟩; refine sq_end (qs_n (wp_sc (wp_sq (sq_v rfl (v_loadNB 1 ty_37 rfl rfl rfl rfl) rfl (sq_u rfl (x_callv rfl en_200 (fun w s => ct_s_l02Width _ _ _ w)) rfl (sq_v rfl (v_assign rfl) rfl (sq_end (qs_n (wp_sc (wp_sq (sq_v rfl (v_move rfl) rfl (sq_v rfl (v_len Tryz.underlying25 rfl ry.sl) rfl (sq_v rfl (v_move rfl) rfl (sq_end (qs_n (wp_bl ?_)))))))))))))))); refine wp_lp (σ := Nat × PH) (fun z_ => [(2, num i), (3, v), (5, .pointer (some ⟨b5, 0, none⟩)), (8, num (widthI k n)), (13, num ys.length), (14, num z_.1)]) (fun z_ => [box b5 [a, b, c] 34, box b4 [num k, num p, num n] 37, z_.2, (restP w h)]) (fun z_ => z_.1 ≤ ys.length ∧ IntsO (putL xs (i * widthI k n).toNat (mixL ys E z_.1)) c z_.2) (fun z_ => ys.length - z_.1) (0, h) (⟨by (try dsimp only); omega, by (try dsimp only); rw [mix_zero, hps]; exact rx⟩) ⟨rfl, rfl, rfl, rfl, rfl, rfl, trivial⟩ (fun _ s => s) ?_; rintro ⟨j, g⟩ ⟨hj, q⟩; dsimp only at hj q ⊢; have hle_q := q.toR.le; have hml := mix_len (A := ys) (B := E) (k := j) (by omega) (by omega); have hpl := putL_len (xs := xs) (ys := mixL ys E j) (lo := (i * widthI k n).toNat) (by omega); refine wp_sc (wp_sq (sq_v rfl (v_lss rfl rfl) rfl (sq_end (qs_n (wp_sc ?_))))); refine wp_cd rfl (fun c15 => ?_) (fun c15 => ?_)
  · refine wp_sk (qs_n (wp_sc (wp_bl (wp_sc (wp_sq (sq_v rfl (v_move rfl) rfl (sq_v rfl (v_assign rfl) rfl (sq_end (qs_n (wp_rj 12 [(0, true), (1, true), (2, true), (3, true), (4, true), (5, true), (6, true), (7, true), (8, true), (9, true), (10, true), (11, true), (12, false)] mixed_ok (by kernel_rfl) (rj_v rfl rfl (v_fieldAddr fd_34_2 ty_25 (by decide) rfl) rfl (rj_v rfl rfl (v_loadB 0 ty_25 rfl rfl rfl) rfl (rj_v rfl rfl (v_move rfl) rfl (rj_v rfl rfl (v_move rfl) rfl ?_)))))))))))))); refine rj_v rfl rfl (v_mul rfl rfl ((by unfold I64; omega))) rfl ?_; refine rj_v rfl rfl (v_move rfl) rfl ?_; refine rj_v rfl rfl (v_add rfl rfl ((by unfold I64; omega))) rfl ?_; refine rj_v rfl rfl (v_move rfl) rfl (rj_v rfl rfl (v_move rfl) rfl (rj_v rfl rfl (v_idxI Tryz.underlying25 ty_3 rfl rfl ry (by omega) (by omega)) rfl (rj_v rfl rfl (v_loadI (k := j) 3 ty_3 rfl rfl ry (by omega)) rfl (rj_v rfl rfl (v_idxI Tryz.underlying25 ty_3 rfl rfl q.toR (by omega) (by omega)) rfl ?_)))); refine rj_m 2 rfl rfl rfl rfl (m_storeI 2 ty_3 rfl rfl rfl q (by omega)) rfl ?_; rintro _ h_q5_12 ⟨rfl, q5_12⟩; refine rj_end (qs_bn (qs_n (wp_sq ?_))); refine sq_v rfl (v_add rfl rfl ((by unfold I64; omega))) rfl ?_; refine sq_v rfl (v_move rfl) rfl (sq_end ?_); exact qs_bk (j + 1, h_q5_12) ⟨by (try dsimp only); omega, by (try dsimp only); rw [show (i * widthI k n + (j : Int)).toNat = (i * widthI k n).toNat + j by omega, putL_set (by omega) (by omega), mix_set (by omega) (by omega)] at q5_12; exact q5_12⟩ (by simp only; omega) ⟨rfl, rfl, rfl, rfl, rfl, rfl, trivial⟩ (fun _ s => s)
  · refine wp_ex (qs_x (qs_x (qs_bx ?_))); exact qs_ret0 rfl (fin_m 2 (i := 3) rfl rfl rfl (by rw [mix_end (by omega) (by omega)] at q; exact q))
end Go.Proofs.YthlmjnihihbckaaGreat
namespace Go.Proofs.YthlmjnihihbckaaGreat
set_option maxRecDepth 100000
open Go.RowKit
set_option maxHeartbeats 8000000 in
theorem ct_s_l08Pair (k p n : Int) (t u : Ten) (f : Int → Int) (K ks : List Int) (a b c a' b' c' v : Value) (w : World) (r1 : IntsR t.l a (hp w)) (r2 : IntsR t.d b (hp w)) (r3 : IntsR t.x c (hp w)) (r1' : IntsR u.l a' (hp w)) (r2' : IntsR u.d b' (hp w)) (r3' : IntsR u.x c' (hp w)) (rk : IntsR ks v (hp w)) (ok : PairOK k p n t u f) (hK : (joinI t.l u.l).filter (fun x => decide (x ∈ ks)) = K) (hk : KeepOK t u f K) (hkr : K.length ≤ 12) :
    Calls Tryz.prog 66 [ringV k p n, tenV a b c, tenV a' b' c', v].toArray w (Ret w emp (TenT (pairT k p n f t u K))) := by
  have hring := ok.tt.1; have hat := ten_axes ok.tt; have hau := ten_axes ok.uu; have htp := ten_prod ok.tt; have hup := ten_prod ok.uu; have htl := hat.2.1; have hul := hau.2.1; have h12 := hat.1; have h12' := hau.1; have hun := axes_nodup hau; have hKd := map_dim ok.dim hk.sub; have hKi := map_dims fun x hx => ok.dim x (hk.sub x hx); have hKp := hk.small; have hst := ok.ht; have hsu := ok.hu; have hwr := width_range hring; have hKl : K.length = (K.map f).length := by simp
  obtain ⟨L, hL⟩ : ∃ L, joinI t.l u.l = L := ⟨_, rfl⟩
  obtain ⟨D, hD⟩ : ∃ D, L.map f = D := ⟨_, rfl⟩
  have hjl := joinI_len t.l u.l; have hnd := ok.nd; have hDd := map_dim ok.dim (fun _ h => h); have hwk := ok.work; have hmt : ∀ l ∈ t.l, l ∈ joinI t.l u.l := fun l hl => mem_joinI.2 (.inl hl); have hmu : ∀ l ∈ u.l, l ∈ joinI t.l u.l := fun l hl => mem_joinI.2 (.inr hl); have hmk := hk.sub; rw [hL] at hjl hnd hDd hwk hmt hmu hmk hK; rw [hD] at hDd hwk; have hDi : dimsIn D := fun j hj => hDd _ (mem_getD hj); have hD1 : ∀ d ∈ D, 1 ≤ d := fun d hd => (hDd d hd).1; have hD0 := prodI_one hD1; have hDl : D.length = L.length := by rw [← hD]; simp
  have hsA := stepsL_len L t.l t.d; have hsB := stepsL_len L u.l u.d; have hsC := stepsL_len L K (K.map f); have hA : ∀ a ∈ stepsL L t.l t.d, 0 ≤ a ∧ a ≤ 4096 := fun a h => by have := steps_in (fun d hd => (dims_mem (axes_dims hat) d hd).1) a h; omega
  have hB : ∀ a ∈ stepsL L u.l u.d, 0 ≤ a ∧ a ≤ 4096 := fun a h => by have := steps_in (fun d hd => (dims_mem (axes_dims hau) d hd).1) a h; omega
  have hC : ∀ a ∈ stepsL L K (K.map f), 0 ≤ a ∧ a ≤ 4096 := fun a h => by have := steps_in (fun d hd => (hKd d hd).1) a h; omega
  refine calls_in Tryz.func66 rfl Tryz.ntmps66 rfl (Sat.start w) ?_; have hle0 := r1.le; have hle1 := r2.le; have hle2 := r3.le; have hle3 := r1'.le; have hle4 := r2'.le; have hle5 := r3'.le; have hle6 := rk.le; refine wp_sc (wp_sq ?_); refine sq_x rfl (x_box rfl rfl) rfl ?_; rintro _ _ ⟨b4, rfl, rfl⟩; refine sq_x rfl (x_box rfl rfl) rfl ?_; rintro _ _ ⟨b5, rfl, rfl⟩; refine sq_x rfl (x_box rfl rfl) rfl ?_; rintro _ _ ⟨b6, rfl, rfl⟩; refine sq_x rfl (x_alloc ty_34 rfl) rfl ?_; rintro _ _ ⟨b8, rfl, rfl⟩; refine sq_end (qs_n (wp_sc (wp_sq (sq_v rfl (v_loadNB 2 ty_34 rfl rfl rfl rfl) rfl (sq_v rfl (v_loadNB 1 ty_34 rfl rfl rfl rfl) rfl ?_))))); refine sq_x rfl (x_call rfl en_155 (fun w s => ct_u_l08Join f _ _ _ _ _ _ _ _ w (r1.mono (s.get 4 rfl)) (r2.mono (s.get 4 rfl)) (r1'.mono (s.get 4 rfl)) (r2'.mono (s.get 4 rfl)) (by first | assumption | omega) (by first | assumption | omega) (by first | assumption | omega) (by first | assumption | omega))) rfl ?_; rintro _ h27 ⟨v1, v2, rfl, q1, q2⟩; refine sq_v rfl (v_move rfl) rfl (sq_v rfl (v_extract rfl rfl) rfl (sq_v rfl (v_extract rfl rfl) rfl (sq_v rfl (v_extract rfl rfl) rfl (sq_v rfl (v_assign rfl) rfl (sq_v rfl (v_assign rfl) rfl (sq_v rfl (v_assign rfl) rfl (sq_end ?_))))))); rw [hL] at q1; rw [hL, hD] at q2; refine qs_n (wp_sc (wp_sq (sq_v rfl (v_move rfl) rfl (sq_v rfl (v_move rfl) rfl (sq_v rfl (v_move rfl) rfl ?_))))); refine sq_x rfl (x_call rfl en_158 (fun w s => ct_s_l08Keep _ _ _ _ _ _ w (q1.mono (s.get 0 rfl)) (q2.mono (s.get 0 rfl)) (rk.mono (s.get 5 rfl)) (by first | assumption | omega) (by first | assumption | omega))) rfl ?_; rintro _ h34 ⟨k1, k2, g1, g2, rfl, rk1, rk2, mdk⟩; refine sq_x rfl (x_alloc ty_34 rfl) rfl ?_; rintro _ _ ⟨b12, rfl, rfl⟩; refine sq_m 0 rfl rfl (m_store 0 ty_34 rfl rfl rfl rfl (by simp [(rk1.toR.mono (mdk.le g1 (by simp))).sl.one, (rk2.toR.mono (mdk.le g2 (by simp))).sl.one, one_sl]) rfl (Nat.le_of_ble_eq_true rfl)) rfl ?_; rintro _ _ ⟨rfl, rfl⟩; refine sq_end ?_; rw [hK] at rk1; rw [← hD, selP_map, hK] at rk2; refine qs_n (wp_sc (wp_sq (sq_v rfl (v_loadNB 6 ty_37 rfl rfl rfl rfl) rfl (sq_v rfl (v_fieldAddr fd_34_0 ty_25 (by decide) rfl) rfl (sq_v rfl (v_loadB 0 ty_25 rfl rfl rfl) rfl (sq_v rfl (v_fieldAddr fd_34_1 ty_25 (by decide) rfl) rfl (sq_v rfl (v_loadB 0 ty_25 rfl rfl rfl) rfl ?_))))))); refine sq_x rfl (x_call rfl en_159 (fun w s => ct_s_l05Zero _ _ _ _ _ _ _ w (by first | assumption | omega) ((rk1.toR.mono (mdk.le g1 (by simp))).mono (s.get 1 rfl)) ((rk2.toR.mono (mdk.le g2 (by simp))).mono (s.get 1 rfl)) (by first | assumption | omega) (by first | assumption | omega) (by first | assumption | omega) (by first | assumption | omega))) rfl ?_; rintro _ h40 ⟨va40, vb40, vc40, rfl, o40⟩; refine sq_m 1 rfl rfl (m_store 1 ty_34 rfl rfl rfl rfl (by simp [o40.toR.1.sl.one, o40.toR.2.1.sl.one, o40.toR.2.2.sl.one]) rfl (Nat.le_of_ble_eq_true rfl)) rfl ?_; rintro _ _ ⟨rfl, rfl⟩; refine sq_end ?_; obtain ⟨go1, go2, go3, qo1, qo2, qo3, mdo⟩ := o40; refine qs_s [box b12 [va40, vb40, vc40] 34, h34, h27, box b8 [.slice none 0 0, .slice none 0 0, .slice none 0 0] 34, box b6 [a', b', c'] 34, box b5 [a, b, c] 34, box b4 [num k, num p, num n] 37, hp w, go1, go2, go3] (fun _ s => Sat.open (A := [box b12 [va40, vb40, vc40] 34, h34, h27, box b8 [.slice none 0 0, .slice none 0 0, .slice none 0 0] 34, box b6 [a', b', c'] 34, box b5 [a, b, c] 34, box b4 [num k, num p, num n] 37, hp w]) mdo (s.pick [0, 1, 2, 3, 4, 5, 6, 7, 8] (by decide) rfl)) (qs_n (wp_sc (wp_sq (sq_v rfl (v_loadNB 5 ty_34 rfl rfl rfl rfl) rfl (sq_v rfl (v_move rfl) rfl ?_))))); refine sq_x rfl (x_call rfl en_160 (fun w s => ct_s_l08Steps _ _ _ _ _ _ _ _ w (r1.mono (s.get 7 rfl)) (r2.mono (s.get 7 rfl)) (r3.mono (s.get 7 rfl)) (q1.mono (s.get 2 rfl)) (by first | assumption | omega) (by first | assumption | omega) (dims_mem (axes_dims hat)) (by first | assumption | omega) (by first | assumption | omega) (by first | assumption | omega))) rfl ?_; rintro v43 h43 r43; refine sq_v rfl (v_assign rfl) rfl (sq_end (qs_n (wp_sc (wp_sq (sq_v rfl (v_loadNB 5 ty_34 rfl rfl rfl rfl) rfl (sq_v rfl (v_move rfl) rfl ?_)))))); refine sq_x rfl (x_call rfl en_160 (fun w s => ct_s_l08Steps _ _ _ _ _ _ _ _ w (r1'.mono (s.get 8 rfl)) (r2'.mono (s.get 8 rfl)) (r3'.mono (s.get 8 rfl)) (q1.mono (s.get 3 rfl)) (by first | assumption | omega) (by first | assumption | omega) (dims_mem (axes_dims hau)) (by first | assumption | omega) (by first | assumption | omega) (by first | assumption | omega))) rfl ?_; rintro v46 h46 r46; refine sq_v rfl (v_assign rfl) rfl (sq_end (qs_n (wp_sc (wp_sq (sq_v rfl (v_loadNB 2 ty_34 rfl rfl rfl rfl) rfl (sq_v rfl (v_move rfl) rfl ?_)))))); refine sq_x rfl (x_call rfl en_160 (fun w s => ct_s_l08Steps K (K.map f) _ _ _ _ _ _ w (qo1.toR.mono (s.get 10 rfl)) (qo2.toR.mono (s.get 11 rfl)) (qo3.toR.mono (s.get 12 rfl)) (q1.mono (s.get 4 rfl)) (by first | assumption | omega) (by first | assumption | omega) hKd (by first | assumption | omega) (by first | assumption | omega) (by first | assumption | omega))) rfl ?_; rintro v49 h49 r49; refine sq_v rfl (v_assign rfl) rfl (sq_end (qs_n (wp_sc (wp_sq (sq_v rfl (v_move rfl) rfl (sq_v rfl (v_len Tryz.underlying25 rfl q1.sl) rfl ?_)))))); refine sq_x rfl (x_makeI Tryz.underlying25 ty_3 rfl rfl (by omega) (by omega) (by omega)) rfl ?_; intro v52 h52 r52; refine sq_v rfl (v_assign rfl) rfl (sq_end (qs_n (wp_sc (wp_sc (wp_sq (sq_v rfl (v_move rfl) rfl (sq_u rfl (x_callv rfl en_156 (fun w s => ct_s_l05Product _ _ _ w (q2.mono (s.get 6 rfl)) (by first | assumption | omega) (by first | assumption | omega))) rfl ?_)))))))
  refine sq_v rfl (v_assign rfl) rfl (sq_end (qs_n (wp_bl ?_))); refine wp_lp (σ := Nat × PH × PH) (fun z_ => [(4, .pointer (some ⟨b4, 0, none⟩)), (5, .pointer (some ⟨b5, 0, none⟩)), (6, .pointer (some ⟨b6, 0, none⟩)), (8, .pointer (some ⟨b8, 0, none⟩)), (10, v2), (12, .pointer (some ⟨b12, 0, none⟩)), (13, v43), (14, v46), (15, v49), (16, v52), (17, num (prodI D - z_.1)), (34, .agg [k1, k2, .slice none 0 0].toArray)]) (fun z_ => [z_.2.1, h49, h46, h43, box b12 [va40, vb40, vc40] 34, h34, h27, box b8 [.slice none 0 0, .slice none 0 0, .slice none 0 0] 34, box b6 [a', b', c'] 34, box b5 [a, b, c] 34, box b4 [num k, num p, num n] 37, hp w, go1, go2, z_.2.2]) (fun z_ => z_.1 ≤ (prodI D).toNat ∧ IntsO (idxL D z_.1) v52 z_.2.1 ∧ IntsO (pairX k p n f t u K z_.1) vc40 z_.2.2) (fun z_ => (prodI D).toNat - z_.1) (0, h52, go3) (⟨by (try dsimp only); omega, by (try dsimp only); rw [show ((0 : Nat) : Int) = 0 from rfl, idxL_zero, hDl]; simpa using r52, qo3⟩) ⟨rfl, rfl, rfl, rfl, rfl, rfl, rfl, rfl, rfl, rfl, (by first | rfl | exact ksub rfl (by first | omega | (simp; done) | (simp; omega))), rfl, trivial⟩ (fun _ s => s) ?_; rintro ⟨m, gi, gx⟩ ⟨hm, qi, qx⟩; dsimp only at hm qi qx ⊢; have hle_qi := qi.toR.le; have hle_qx := qx.toR.le; have hil := idxL_len D m; have hil2 := idxL_len D (m + 1); have hii := idxL_in hD1 m; have hib : ∀ b ∈ idxL D m, 0 ≤ b ∧ b ≤ 8 := all_of fun j hj => by have := hii.2 j (by omega); have := hDi j (by omega); omega
  have hpx := ok.small hk m; refine wp_sc (wp_sc (wp_sq (sq_v rfl (v_move rfl) rfl (sq_v rfl (v_gtr rfl rfl) rfl (sq_end (qs_n ?_)))))); refine wp_cd rfl (fun c56 => ?_) (fun c56 => ?_)
  · refine wp_sk (qs_n (wp_sc (wp_bl (wp_sc (wp_sq (sq_v rfl (v_assign rfl) rfl (sq_end (qs_n (wp_sc (wp_sq (sq_v rfl (v_assign rfl) rfl (sq_end (qs_n (wp_sc (wp_sq (sq_v rfl (v_assign rfl) rfl (sq_end (qs_n (wp_sc (wp_sc (wp_sq (sq_v rfl (v_move rfl) rfl (sq_v rfl (v_len Tryz.underlying25 rfl qi.toR.sl) rfl (sq_v rfl (v_move rfl) rfl (sq_end (qs_n (wp_bl ?_))))))))))))))))))))))))))); refine wp_lp (σ := Nat × Int × Int × Int) (fun z_ => [(4, .pointer (some ⟨b4, 0, none⟩)), (5, .pointer (some ⟨b5, 0, none⟩)), (6, .pointer (some ⟨b6, 0, none⟩)), (8, .pointer (some ⟨b8, 0, none⟩)), (10, v2), (12, .pointer (some ⟨b12, 0, none⟩)), (13, v43), (14, v46), (15, v49), (16, v52), (17, num (prodI D - m)), (18, num z_.2.1), (19, num z_.2.2.1), (20, num z_.2.2.2), (34, .agg [k1, k2, .slice none 0 0].toArray), (55, num (prodI D - m)), (56, .bool (decide ((0 : Int) < prodI D - m))), (59, v52), (60, num (idxL D m).length), (61, num z_.1)]) (fun z_ => [gi, h49, h46, h43, box b12 [va40, vb40, vc40] 34, h34, h27, box b8 [.slice none 0 0, .slice none 0 0, .slice none 0 0] 34, box b6 [a', b', c'] 34, box b5 [a, b, c] 34, box b4 [num k, num p, num n] 37, hp w, go1, go2, gx]) (fun z_ => z_.1 ≤ L.length ∧ z_.2.1 = dotTo (stepsL L t.l t.d) (idxL D m) z_.1 ∧ z_.2.2.1 = dotTo (stepsL L u.l u.d) (idxL D m) z_.1 ∧ z_.2.2.2 = dotTo (stepsL L K (K.map f)) (idxL D m) z_.1) (fun z_ => L.length - z_.1) (0, 0, 0, 0) (⟨by (try dsimp only); omega, rfl, rfl, rfl⟩) ⟨rfl, rfl, rfl, rfl, rfl, rfl, rfl, rfl, rfl, rfl, rfl, rfl, rfl, rfl, rfl, rfl, rfl, rfl, rfl, rfl, trivial⟩ (fun _ s => s) ?_; rintro ⟨j, x, y, z⟩ ⟨hj, hx, hy, hz⟩; dsimp only at hj hx hy hz ⊢; refine wp_sc (wp_sq (sq_v rfl (v_lss rfl rfl) rfl (sq_end (qs_n (wp_sc ?_))))); refine wp_cd rfl (fun c62 => ?_) (fun c62 => ?_)
    · refine wp_sk (qs_n (wp_sc (wp_bl (wp_sc (wp_sq (sq_v rfl (v_move rfl) rfl (sq_v rfl (v_idxI Tryz.underlying25 ty_3 rfl rfl qi.toR (by omega) (by omega)) rfl (sq_v rfl (v_loadI (k := j) 0 ty_3 rfl rfl qi.toR (by omega)) rfl (sq_v rfl (v_assign rfl) rfl (sq_v rfl (v_assign rfl) rfl (sq_end ?_))))))))))); have hx0 := dotTo_in hA hib j (by omega) (by omega); have hx1 := dotTo_in hA hib (j + 1) (by omega) (by omega); have ex : dotTo (stepsL L t.l t.d) (idxL D m) (j + 1) = dotTo (stepsL L t.l t.d) (idxL D m) j + (stepsL L t.l t.d).getD j 0 * (idxL D m).getD j 0 := rfl; rw [Int.mul_comm] at ex; have hy0 := dotTo_in hB hib j (by omega) (by omega); have hy1 := dotTo_in hB hib (j + 1) (by omega) (by omega); have ey : dotTo (stepsL L u.l u.d) (idxL D m) (j + 1) = dotTo (stepsL L u.l u.d) (idxL D m) j + (stepsL L u.l u.d).getD j 0 * (idxL D m).getD j 0 := rfl; rw [Int.mul_comm] at ey; have hz0 := dotTo_in hC hib j (by omega) (by omega); have hz1 := dotTo_in hC hib (j + 1) (by omega) (by omega); have ez : dotTo (stepsL L K (K.map f)) (idxL D m) (j + 1) = dotTo (stepsL L K (K.map f)) (idxL D m) j + (stepsL L K (K.map f)).getD j 0 * (idxL D m).getD j 0 := rfl; rw [Int.mul_comm] at ez; refine qs_n (wp_sc (wp_sq (sq_v rfl (v_move rfl) rfl (sq_v rfl (v_move rfl) rfl (sq_v rfl (v_move rfl) rfl (sq_v rfl (v_move rfl) rfl (sq_v rfl (v_idxI Tryz.underlying25 ty_3 rfl rfl r43.toR (by omega) (by omega)) rfl (sq_v rfl (v_loadI (k := j) 3 ty_3 rfl rfl r43.toR (by omega)) rfl ?_)))))))); refine sq_v rfl (v_mul rfl rfl ((by unfold I64; omega))) rfl ?_; refine sq_v rfl (v_add rfl rfl ((by unfold I64; omega))) rfl ?_; refine sq_v rfl (v_assign rfl) rfl (sq_end (qs_n (wp_sc (wp_sq (sq_v rfl (v_move rfl) rfl (sq_v rfl (v_move rfl) rfl (sq_v rfl (v_move rfl) rfl (sq_v rfl (v_move rfl) rfl (sq_v rfl (v_idxI Tryz.underlying25 ty_3 rfl rfl r46.toR (by omega) (by omega)) rfl (sq_v rfl (v_loadI (k := j) 2 ty_3 rfl rfl r46.toR (by omega)) rfl ?_)))))))))); refine sq_v rfl (v_mul rfl rfl ((by unfold I64; omega))) rfl ?_; refine sq_v rfl (v_add rfl rfl ((by unfold I64; omega))) rfl ?_; refine sq_v rfl (v_assign rfl) rfl (sq_end (qs_n (wp_sq (sq_v rfl (v_move rfl) rfl (sq_v rfl (v_move rfl) rfl (sq_v rfl (v_move rfl) rfl (sq_v rfl (v_move rfl) rfl (sq_v rfl (v_idxI Tryz.underlying25 ty_3 rfl rfl r49.toR (by omega) (by omega)) rfl (sq_v rfl (v_loadI (k := j) 1 ty_3 rfl rfl r49.toR (by omega)) rfl ?_))))))))); refine sq_v rfl (v_mul rfl rfl ((by unfold I64; omega))) rfl ?_; refine sq_v rfl (v_add rfl rfl ((by unfold I64; omega))) rfl ?_; refine sq_v rfl (v_assign rfl) rfl (sq_end (qs_bn (qs_n (wp_sq ?_)))); refine sq_v rfl (v_add rfl rfl ((by unfold I64; omega))) rfl ?_; refine sq_v rfl (v_move rfl) rfl (sq_end ?_); exact qs_bk (j + 1, x + (idxL D m).getD j 0 * (stepsL L t.l t.d).getD j 0, y + (idxL D m).getD j 0 * (stepsL L u.l u.d).getD j 0, z + (idxL D m).getD j 0 * (stepsL L K (K.map f)).getD j 0) ⟨by (try dsimp only); omega, by (try dsimp only); omega, by (try dsimp only); omega, by (try dsimp only); omega⟩ (by simp only; omega) ⟨rfl, rfl, rfl, rfl, rfl, rfl, rfl, rfl, rfl, rfl, rfl, rfl, rfl, rfl, rfl, rfl, rfl, rfl, rfl, rfl, trivial⟩ (fun _ s => s)
    · refine wp_ex (qs_x (qs_x (qs_bx (qs_n (wp_sc (wp_rj 19 [(0, true), (1, true), (2, true), (3, true), (4, true), (5, true), (6, true), (8, true), (9, true), (10, true), (11, true), (13, true), (14, true), (15, true), (7, false), (12, false), (16, false), (17, false), (18, false), (19, false)] mixed_ok (by kernel_rfl) ?_)))))); obtain ⟨px, hpe⟩ : ∃ px, pairX k p n f t u K m = px := ⟨_, rfl⟩; have ex : x = atI f (joinI t.l u.l) t.l m := (by rw [hx, show j = L.length by omega, atI, dotL, stepsL_len, ← hst, hL, hD]); have ey : y = atI f (joinI t.l u.l) u.l m := (by rw [hy, show j = L.length by omega, atI, dotL, stepsL_len, ← hsu, hL, hD]); have ez : z = atI f (joinI t.l u.l) K m := (by rw [hz, show j = L.length by omega, atI, dotL, stepsL_len, hL, hD]); have hx0 := ok.at_t m; have hy0 := ok.at_u m; have hz0 := ok.at_k hk m; have hXr := ok.el_t m; have hYr := ok.el_u m; have hZr := (ok.all hk m).el hring hz0.1 hz0.2; have hzf := ok.fits hk m; rw [← ex] at hx0 hXr; rw [← ey] at hy0 hYr; rw [← ez] at hz0 hZr hzf; rw [hpe] at hZr hzf hpx qx; have hMr := mulL_in hring hXr hYr; have hSr := addL_in hring hZr hMr; have hxf := elt_fits ok.tt (i := x) hx0.2; have hyf := elt_fits ok.uu (i := y) hy0.2; refine rj_v rfl rfl (v_loadNB 10 ty_37 rfl rfl rfl rfl) rfl (rj_v rfl rfl (v_loadNB 4 ty_34 rfl rfl rfl rfl) rfl (rj_v rfl rfl (v_move rfl) rfl (rj_v rfl rfl (v_loadNB 10 ty_37 rfl rfl rfl rfl) rfl (rj_v rfl rfl (v_loadNB 10 ty_37 rfl rfl rfl rfl) rfl (rj_v rfl rfl (v_loadNB 4 ty_34 rfl rfl rfl rfl) rfl (rj_v rfl rfl (v_move rfl) rfl (rj_v rfl rfl (v_loadNB 10 ty_37 rfl rfl rfl rfl) rfl (rj_v rfl rfl (v_loadNB 10 ty_37 rfl rfl rfl rfl) rfl (rj_v rfl rfl (v_loadNB 9 ty_34 rfl rfl rfl rfl) rfl ?_))))))))); refine rj_v rfl rfl (v_move rfl) rfl (rj_v rfl rfl (v_loadNB 10 ty_37 rfl rfl rfl rfl) rfl (rj_v rfl rfl (v_loadNB 8 ty_34 rfl rfl rfl rfl) rfl (rj_v rfl rfl (v_move rfl) rfl ?_))); refine rj_x rfl rfl (x_call rfl en_163 (fun w s => ct_s_l05Get _ _ _ _ _ _ _ _ w (by first | assumption | omega) (qx.toR.mono (s.get 14 rfl)) (by first | assumption | omega) (by first | assumption | omega) (by first | assumption | omega))) rfl ?_; rintro v98 h98 r98; refine rj_x rfl rfl (x_call rfl en_163 (fun w s => ct_s_l05Get _ _ _ _ _ _ _ _ w (by first | assumption | omega) (r3.mono (s.get 12 rfl)) (by first | assumption | omega) (by first | assumption | omega) (by first | assumption | omega))) rfl ?_; rintro v103 h103 r103; refine rj_x rfl rfl (x_call rfl en_163 (fun w s => ct_s_l05Get _ _ _ _ _ _ _ _ w (by first | assumption | omega) (r3'.mono (s.get 13 rfl)) (by first | assumption | omega) (by first | assumption | omega) (by first | assumption | omega))) rfl ?_; rintro v107 h107 r107; refine rj_x rfl rfl (x_call rfl en_164 (fun w s => ct_s_l02Mul _ _ _ _ _ _ _ w (by first | assumption | omega) (r103.toR.mono (s.get 1 rfl)) (r107.toR.mono (s.get 0 rfl)) (by first | assumption | omega) (by first | assumption | omega))) rfl ?_; rintro v108 h108 r108; refine rj_x rfl rfl (x_call rfl en_162 (fun w s => ct_s_l02Add _ _ _ _ _ _ _ w (by first | assumption | omega) (r98.toR.mono (s.get 3 rfl)) (r108.toR.mono (s.get 0 rfl)) (by first | assumption | omega) (by first | assumption | omega))) rfl ?_; rintro v109 h109 r109; refine rj_m 19 rfl rfl rfl rfl (x_call rfl en_161 (fun w s => ct_s_l05Put _ _ _ _ _ _ _ _ _ _ _ _ w _ (by first | assumption | omega) (s.get 19 rfl) (qo1.toR.mono (s.getR 19 17 rfl rfl (by decide))) (qo2.toR.mono (s.getR 19 18 rfl rfl (by decide))) qx (r109.toR.mono (s.getR 19 0 rfl rfl (by decide))) hSr.1 (by first | assumption | omega) (by first | assumption | omega) (by first | assumption | omega))) rfl ?_; rintro _ h110 r110; refine rj_end (qs_n (wp_sc (wp_sq (sq_v rfl (v_move rfl) rfl (sq_v rfl (v_len Tryz.underlying25 rfl qi.toR.sl) rfl ?_))))); refine sq_v rfl (v_sub rfl rfl ((by unfold I64; omega))) rfl ?_; refine sq_v rfl (v_assign rfl) rfl (sq_end (qs_n (wp_bl ?_)))
      refine wp_lp (σ := Nat × PH) (fun z_ => [(4, .pointer (some ⟨b4, 0, none⟩)), (5, .pointer (some ⟨b5, 0, none⟩)), (6, .pointer (some ⟨b6, 0, none⟩)), (8, .pointer (some ⟨b8, 0, none⟩)), (10, v2), (12, .pointer (some ⟨b12, 0, none⟩)), (13, v43), (14, v46), (15, v49), (16, v52), (17, num (prodI D - m)), (18, num x), (19, num y), (20, num z), (23, num ((z_.1 : Int) - 1)), (34, .agg [k1, k2, .slice none 0 0].toArray), (55, num (prodI D - m)), (56, .bool (decide ((0 : Int) < prodI D - m))), (59, v52), (60, num (idxL D m).length), (61, num j), (62, .bool (decide ((j : Int) < (idxL D m).length))), (91, .agg [num k, num p, num n].toArray), (92, .agg [va40, vb40, vc40].toArray), (93, num z), (94, .agg [num k, num p, num n].toArray), (95, .agg [num k, num p, num n].toArray), (96, .agg [va40, vb40, vc40].toArray), (97, num z), (98, v98), (99, .agg [num k, num p, num n].toArray), (100, .agg [num k, num p, num n].toArray), (101, .agg [a, b, c].toArray), (102, num x), (103, v103), (104, .agg [num k, num p, num n].toArray), (105, .agg [a', b', c'].toArray), (106, num y), (107, v107), (108, v108), (109, v109), (111, v52), (112, num (idxL D m).length), (113, num ((idxL D m).length - 1))]) (fun z_ => [h109, h108, h107, h103, h98, z_.2, h49, h46, h43, box b12 [va40, vb40, vc40] 34, h34, h27, box b8 [.slice none 0 0, .slice none 0 0, .slice none 0 0] 34, box b6 [a', b', c'] 34, box b5 [a, b, c] 34, box b4 [num k, num p, num n] 37, hp w, go1, go2, h110]) (fun z_ => z_.1 ≤ D.length ∧ ((m : Int) + 1) % prodI (D.drop z_.1) = 0 ∧ IntsO (mixL (idxL D m) (idxL D (m + 1)) z_.1) v52 z_.2) (fun z_ => z_.1) (D.length, gi) (⟨by (try dsimp only); omega, by (try dsimp only); simp [prodI, Int.emod_one], by (try dsimp only); rw [mix_end (by omega) (by omega)]; exact qi⟩) ⟨rfl, rfl, rfl, rfl, rfl, rfl, rfl, rfl, rfl, rfl, rfl, rfl, rfl, rfl, (by first | rfl | exact ksub rfl (by first | omega | (simp; done) | (simp; omega))), rfl, rfl, rfl, rfl, rfl, rfl, rfl, rfl, rfl, rfl, rfl, rfl, rfl, rfl, rfl, rfl, rfl, rfl, rfl, rfl, rfl, rfl, rfl, rfl, rfl, rfl, rfl, rfl, rfl, trivial⟩ (fun _ s => s) ?_; rintro ⟨q, g2⟩ ⟨hq, hP, qj⟩; dsimp only at hq hP qj ⊢; have hle_qj := qj.toR.le; have hml := mix_len (A := idxL D m) (B := idxL D (m + 1)) (k := q) (by omega) (by omega); have em : ((q : Int) - 1).toNat = q - 1 := by omega
      refine wp_sc (wp_sc (wp_sq (sq_v rfl (v_move rfl) rfl (sq_v rfl (v_geq rfl rfl) rfl (sq_end (qs_n ?_)))))); refine wp_cd rfl (fun c115 => ?_) (fun c115 => ?_)
      · refine wp_sk (qs_n (wp_sc (wp_bl (wp_sc (wp_sq (sq_v rfl (v_move rfl) rfl (sq_v rfl (v_move rfl) rfl ?_))))))); have hk1 : q - 1 < D.length := (by omega); have hdm := hDd _ (mem_getD hk1); have hlow : (mixL (idxL D m) (idxL D (m + 1)) q).getD ((q : Int) - 1).toNat 0 = digI D m (q - 1) := (by rw [em, mix_low (by omega) (by omega), idxL_get hk1]); have hdg := (idxL_in hD1 m).2 (q - 1) hk1; rw [idxL_get hk1] at hdg; refine sq_v rfl (v_idxI Tryz.underlying25 ty_3 rfl rfl qj.toR (by omega) (by omega)) rfl (sq_v rfl (v_loadI  5 ty_3 rfl rfl qj.toR (by omega)) rfl ?_); refine sq_v rfl (v_add rfl rfl ((by unfold I64; omega))) rfl ?_; refine sq_v rfl (v_idxI Tryz.underlying25 ty_3 rfl rfl qj.toR (by omega) (by omega)) rfl ?_; refine sq_m 5 rfl rfl (m_storeI 5 ty_3 rfl rfl rfl qj (by omega)) rfl ?_; rintro _ h_q25_6 ⟨rfl, q25_6⟩; refine sq_end ?_; rw [hlow, em] at q25_6; refine qs_n (wp_sc (wp_sc (wp_rj 9 [(0, true), (1, true), (2, true), (3, true), (4, true), (5, true), (6, true), (7, true), (8, true)] mixed_ok (by kernel_rfl) (rj_v rfl rfl (v_move rfl) rfl (rj_v rfl rfl (v_move rfl) rfl ?_))))); refine rj_v rfl rfl (v_idxI Tryz.underlying25 ty_3 rfl rfl q25_6.toR (by omega) (by first | omega | (simp; omega) | (simp only [List.length_append, List.length_cons, List.length_nil]; omega) | (rw [List.length_set]; omega))) rfl ?_; refine rj_v rfl rfl (v_loadI  5 ty_3 rfl rfl q25_6.toR (by first | omega | (simp; omega) | (simp only [List.length_append, List.length_cons, List.length_nil]; omega) | (rw [List.length_set]; omega))) rfl ?_; refine rj_v rfl rfl (v_move rfl) rfl (rj_v rfl rfl (v_move rfl) rfl (rj_v rfl rfl (v_idxI Tryz.underlying25 ty_3 rfl rfl q2 (by omega) (by omega)) rfl (rj_v rfl rfl (v_loadI  11 ty_3 rfl rfl q2 (by omega)) rfl (rj_v rfl rfl (v_lss rfl rfl) rfl (rj_end ?_))))); have hg4 : ((mixL (idxL D m) (idxL D (m + 1)) q).set (q - 1) (digI D m (q - 1) + 1)).getD ((q : Int) - 1).toNat 0 = digI D m (q - 1) + 1 := by rw [em]; simp only [List.getD]; rw [List.getElem?_set_self (by omega)]; rfl
        have hc : (((mixL (idxL D m) (idxL D (m + 1)) q).set (q - 1) (digI D m (q - 1) + 1)).getD ((q : Int) - 1).toNat 0 < D.getD ((q : Int) - 1).toNat 0) ↔ digI D m (q - 1) + 1 < D.getD (q - 1) 0 := by rw [hg4, em]
        refine qs_n ?_; refine wp_cd rfl (fun c132 => ?_) (fun c132 => ?_)
        · refine wp_ex (qs_x (qs_by rfl (qs_x (qs_x (qs_bx (qs_bn (qs_n (wp_sq (sq_v rfl (v_move rfl) rfl ?_))))))))); refine sq_v rfl (v_sub rfl rfl ((by unfold I64; omega))) rfl ?_; refine sq_v rfl (v_assign rfl) rfl (sq_end ?_); exact qs_bk (m + 1, h_q25_6, h110) ⟨by (try dsimp only); omega, by (try dsimp only); rw [show ((m + 1 : Nat) : Int) = (m : Int) + 1 from rfl, ← idx_yes hD1 (by omega) (by omega) hq hP (hc.1 c132)]; exact q25_6, by (try dsimp only); rw [pairX, hpe, ← ex, ← ey, ← ez]; exact r110⟩ (by simp only; omega) ⟨rfl, rfl, rfl, rfl, rfl, rfl, rfl, rfl, rfl, rfl, (by first | rfl | exact ksub rfl (by first | omega | (simp; done) | (simp; omega))), rfl, trivial⟩ (fun _ s => s.pick [5, 6, 7, 8, 9, 10, 11, 12, 13, 14, 15, 16, 17, 18, 19] (by decide) rfl)
        · refine wp_sk (qs_n (wp_sq (sq_v rfl (v_move rfl) rfl (sq_v rfl (v_move rfl) rfl ?_)))); refine sq_v rfl (v_idxI Tryz.underlying25 ty_3 rfl rfl q25_6.toR (by omega) (by first | omega | (simp; omega) | (simp only [List.length_append, List.length_cons, List.length_nil]; omega) | (rw [List.length_set]; omega))) rfl ?_; refine sq_m 5 rfl rfl (m_storeI 5 ty_3 rfl rfl rfl q25_6 (by first | omega | (simp; omega) | (simp only [List.length_append, List.length_cons, List.length_nil]; omega) | (rw [List.length_set]; omega))) rfl ?_; rintro _ h_q27_3 ⟨rfl, q27_3⟩; refine sq_end ?_; have hno := idx_no hD1 (by omega) (show 1 ≤ q by omega) hq hP (fun h => c132 (hc.2 h)); rw [em, List.set_set, hno.1] at q27_3; refine qs_bn (qs_n (wp_sq (sq_v rfl (v_move rfl) rfl ?_))); refine sq_v rfl (v_sub rfl rfl ((by unfold I64; omega))) rfl ?_; refine sq_v rfl (v_assign rfl) rfl (sq_end ?_); exact qs_bk (q - 1, h_q27_3) ⟨by (try dsimp only); omega, hno.2, q27_3⟩ (by simp only; omega) ⟨rfl, rfl, rfl, rfl, rfl, rfl, rfl, rfl, rfl, rfl, rfl, rfl, rfl, rfl, (by first | rfl | exact ksub rfl (by first | omega | (simp; done) | (simp; omega))), rfl, rfl, rfl, rfl, rfl, rfl, rfl, rfl, rfl, rfl, rfl, rfl, rfl, rfl, rfl, rfl, rfl, rfl, rfl, rfl, rfl, rfl, rfl, rfl, rfl, rfl, rfl, rfl, rfl, trivial⟩ (fun _ s => s)
      · refine wp_ex (qs_x (qs_x (qs_bx (qs_bn (qs_n (wp_sq (sq_v rfl (v_move rfl) rfl ?_))))))); refine sq_v rfl (v_sub rfl rfl ((by unfold I64; omega))) rfl ?_; refine sq_v rfl (v_assign rfl) rfl (sq_end ?_); exact qs_bk (m + 1, g2, h110) ⟨by (try dsimp only); omega, by (try dsimp only); rw [show q = 0 by omega, mix_zero] at qj; exact qj, by (try dsimp only); rw [pairX, hpe, ← ex, ← ey, ← ez]; exact r110⟩ (by simp only; omega) ⟨rfl, rfl, rfl, rfl, rfl, rfl, rfl, rfl, rfl, rfl, (by first | rfl | exact ksub rfl (by first | omega | (simp; done) | (simp; omega))), rfl, trivial⟩ (fun _ s => s.pick [5, 6, 7, 8, 9, 10, 11, 12, 13, 14, 15, 16, 17, 18, 19] (by decide) rfl)
  · refine wp_ex (qs_x (qs_x (qs_bx (qs_n (wp_sc (wp_sq (sq_v rfl (v_loadNB 4 ty_34 rfl rfl rfl rfl) rfl ?_))))))); refine sq_m 7 rfl rfl (m_store 7 ty_34 rfl rfl rfl rfl (by simp [qo1.toR.sl.one, qo2.toR.sl.one, qx.toR.sl.one]) rfl (Nat.le_of_ble_eq_true rfl)) rfl ?_; rintro _ _ ⟨rfl, rfl⟩; refine sq_end (qs_n (wp_rt ?_)); refine qs_close [box b8 _ _, hp w] [go1, go2, gx] (fun _ s => s.pick [7, 11, 12, 13, 14] (by decide) rfl) (fun md => ?_); exact qs_retc 1 rfl ty_34 rfl rfl rfl (fin_t 0 (i := 2) rfl rfl rfl ⟨_, _, _, rfl, _, _, _, qo1, qo2, (by rw [pairT, hL, hD, show (prodI D).toNat = m by omega]; exact qx), md⟩)
end Go.Proofs.YthlmjnihihbckaaGreat
namespace Go.Proofs.YthlmjnihihbckaaGreat
set_option maxRecDepth 100000
open Go.RowKit
/-- A network and whether there is one. -/
def NetB (k p n : Int) (ts : List Ten) (op : List Int) (b : Bool) (x : Value) (h : PH) : Prop := ∃ vt vo, x = .tuple [netV k p n vt vo, .bool b].toArray ∧ NetO ts op vt vo h
def TenB (t : Ten) (b : Bool) (x : Value) (h : PH) : Prop := ∃ va vb vc, x = .tuple [tenV va vb vc, .bool b].toArray ∧ TriO t va vb vc h
end Go.Proofs.YthlmjnihihbckaaGreat
namespace Go.Proofs.YthlmjnihihbckaaGreat
set_option maxRecDepth 100000
open Go.RowKit
theorem triO_none : TriO ⟨[], [], []⟩ (.slice none 0 0) (.slice none 0 0) (.slice none 0 0) emp :=
  ⟨emp, emp, emp, IntsO.nil, IntsO.nil, IntsO.nil, ⟨by simp [sepL, PDj.emp], fun x hx => by simp at hx; subst hx; exact PLe.emp _, fun k o e => by cases e⟩⟩
def keepL (t u : Ten) (ks : List Int) : List Int := (joinI t.l u.l).filter fun x => decide (x ∈ ks)
def pairP (k p n : Int) (t u : Ten) (ks : List Int) : Prop := tensorL k p n t.l t.d t.x ∧ tensorL k p n u.l u.d u.x ∧ ¬ mism t u ∧ prodI (joinD t u) ≤ 65536 ∧ 0 ≤ sizeI (keepL t u ks) ((keepL t u ks).map (dimJ t u))
open Classical in
noncomputable def pairB (k p n : Int) (t u : Ten) (ks : List Int) : Bool := decide (pairP k p n t u ks)
open Classical in
noncomputable def pairR (k p n : Int) (t u : Ten) (ks : List Int) : Ten := if pairP k p n t u ks then pairT k p n (dimJ t u) t u (keepL t u ks) else ⟨[], [], []⟩
theorem PairNo {k p n : Int} {t u : Ten} {ks : List Int} (h : ¬ pairP k p n t u ks) : TenB (pairR k p n t u ks) (pairB k p n t u ks) (.tuple [tenV (.slice none 0 0) (.slice none 0 0) (.slice none 0 0), .bool false].toArray) emp :=
  ⟨.slice none 0 0, .slice none 0 0, .slice none 0 0, by simp [pairB, h], by rw [pairR, if_neg h]; exact triO_none⟩
theorem PairYes {k p n : Int} {t u : Ten} {ks : List Int} {a b c : Value} {h : PH} (hp : pairP k p n t u ks) (r : TriO (pairT k p n (dimJ t u) t u (keepL t u ks)) a b c h) : TenB (pairR k p n t u ks) (pairB k p n t u ks) (.tuple [tenV a b c, .bool true].toArray) h :=
  ⟨a, b, c, by simp [pairB, hp], by rw [pairR, if_pos hp]; exact r⟩
theorem pairP.dims {k p n : Int} {t u : Ten} (h1 : tensorL k p n t.l t.d t.x) (h2 : tensorL k p n u.l u.d u.x) (h3 : ¬ mism t u) : t.d = t.l.map (dimJ t u) ∧ u.d = u.l.map (dimJ t u) ∧ joinD t u = (joinI t.l u.l).map (dimJ t u) := by
  have e1 := dimJ_l (u := u) (axes_nodup (ten_axes h1)) (ten_axes h1).2.1; have e2 := dimJ_r (axes_nodup (ten_axes h2)) (ten_axes h2).2.1 h3; exact ⟨e1, e2, joinD_map e1 e2⟩
theorem pair_ok {k p n : Int} {t u : Ten} (h1 : tensorL k p n t.l t.d t.x) (h2 : tensorL k p n u.l u.d u.x) (h3 : ¬ mism t u) (h4 : prodI (joinD t u) ≤ 65536) : PairOK k p n t u (dimJ t u) := by
  have e := pairP.dims h1 h2 h3; exact ⟨h1, h2, e.1, e.2.1, by rw [← e.2.2]; exact h4⟩
theorem keep_ok {k p n : Int} {t u : Ten} {ks : List Int} (ok : PairOK k p n t u (dimJ t u)) (h : 0 ≤ sizeI (keepL t u ks) ((keepL t u ks).map (dimJ t u))) : KeepOK t u (dimJ t u) (keepL t u ks) :=
  ⟨fun _ hl => (List.mem_filter.1 hl).1, List.Pairwise.filter _ ok.nd, (sizeI_ge.1 h).2⟩
theorem selP_prod (p : Int → Bool) : ∀ ls ds : List Int, (∀ d ∈ ds, 1 ≤ d) → 1 ≤ prodI (selP p ls ds) ∧ prodI (selP p ls ds) ≤ prodI ds
  | [], ds, h => by
    have := prodI_one h
    cases ds <;> simp [selP, prodI] at * <;> omega
  | l :: ls, [], _ => by simp [selP, prodI]
  | l :: ls, d :: ds, h => by
    have ih := selP_prod p ls ds (fun x hx => h x (by simp [hx])); have hd := h d (by simp); simp only [selP]; have h1 : 1 * prodI ds ≤ d * prodI ds := Int.mul_le_mul_of_nonneg_right hd (by omega)
    split
    · rw [prodI_cons, prodI_cons]; have h2 : d * prodI (selP p ls ds) ≤ d * prodI ds := Int.mul_le_mul_of_nonneg_left ih.2 (by omega); have h3 : 1 * 1 ≤ d * prodI (selP p ls ds) := Int.mul_le_mul hd ih.1 (by omega) (by omega)
      omega
    · rw [prodI_cons]; omega
theorem joinD_prod {k p n : Int} {t u : Ten} (h1 : tensorL k p n t.l t.d t.x) (h2 : tensorL k p n u.l u.d u.x) : dimsIn (joinD t u) ∧ 1 ≤ prodI (joinD t u) ∧ prodI (joinD t u) ≤ 16777216 := by
  have a1 := dims_mem (axes_dims (ten_axes h1)); have a2 := dims_mem (axes_dims (ten_axes h2)); have p1 := prodI_one fun d hd => (a1 d hd).1; have s := selP_prod (fun x => decide (x ∉ t.l)) u.l u.d fun d hd => (a2 d hd).1; have b1 := ten_prod h1; have b2 := ten_prod h2; have hm : ∀ (p : Int → Bool) (ls ds : List Int) d, d ∈ selP p ls ds → d ∈ ds := by
    intro p ls
    induction ls with
    | nil => intro ds d hd; cases ds <;> simp [selP] at hd
    | cons l ls ih =>
      intro ds d hd
      cases ds with
      | nil => simp [selP] at hd
      | cons e ds =>
        simp only [selP] at hd
        split at hd
        · rcases List.mem_cons.1 hd with rfl | hd
          · simp
          · exact List.mem_cons_of_mem _ (ih ds d hd)
        · exact List.mem_cons_of_mem _ (ih ds d hd)
  refine ⟨fun j hj => ?_, ?_⟩
  · have := mem_getD hj
    rcases List.mem_append.1 this with h | h
    · exact a1 _ h
    · exact a2 _ (hm _ _ _ _ h)
  · rw [joinD, prodI_append]; have h3 : 1 * 1 ≤ prodI t.d * prodI (selP (fun x => decide (x ∉ t.l)) u.l u.d) := Int.mul_le_mul p1 s.1 (by omega) (by omega); have h4 : prodI t.d * prodI (selP (fun x => decide (x ∉ t.l)) u.l u.d) ≤ 4096 * 4096 := Int.mul_le_mul b1 (by omega) (by omega) (by omega)
    omega
theorem ct_u_joinAxes (t u : Ten) (a b c a' b' c' : Value) (w : World) (r1 : IntsR t.l a (hp w)) (r2 : IntsR t.d b (hp w)) (r3 : IntsR t.x c (hp w)) (r1' : IntsR u.l a' (hp w)) (r2' : IntsR u.d b' (hp w)) (r3' : IntsR u.x c' (hp w)) (ht : t.l.length = t.d.length) (hu : u.l.length = u.d.length) (htn : t.l.Nodup) (hn : u.l.Nodup) (hs : t.l.length + u.l.length ≤ 100000) :
    Calls Tryz.prog 173 [tenV a b c, tenV a' b' c'].toArray w (Ret w emp (fun x h => ∃ v1 v2 bb L D, x = .tuple [v1, v2, .bool bb].toArray ∧ IntsR L v1 h ∧ IntsR D v2 h ∧ (bb = true ↔ ¬ mism t u) ∧ (bb = true → L = joinI t.l u.l ∧ D = joinD t u))) :=
  (ct_i_joinAxes t u a b c a' b' c' w r1 r2 r3 r1' r2' r3' ht hu htn hn hs).mono fun _ _ hh => by
    obtain ⟨x, h', h1, h2, h3⟩ := hh; refine ⟨x, h', h1, h2, ?_⟩
    by_cases hm : mism t u
    · exact ⟨_, _, false, [], [], h3.1 hm, IntsR.nil _, IntsR.nil _, ⟨fun e => (by cases e), fun e => absurd hm e⟩, fun e => (by cases e)⟩
    · obtain ⟨v1, v2, e, q1, q2⟩ := h3.2 hm; exact ⟨v1, v2, true, _, _, e, q1, q2, ⟨fun _ => hm, fun _ => rfl⟩, fun _ => ⟨rfl, rfl⟩⟩
theorem setif_yes {A B L : List Int} {i j : Nat} {y z : Int} (hB : B = if y ∈ L.take j then A.set i z else A) (hj : j < L.length) (e : L.getD j 0 = y) : B.set i z = if y ∈ L.take (j + 1) then A.set i z else A := by
  rw [if_pos (by rw [take_succ hj, e]; simp), hB]
  split
  · rw [List.set_set]
  · rfl
theorem setif_no {A B L : List Int} {i j : Nat} {y z : Int} (hB : B = if y ∈ L.take j then A.set i z else A) (hj : j < L.length) (e : ¬ L.getD j 0 = y) : B = if y ∈ L.take (j + 1) then A.set i z else A := by
  have : y ∈ L.take (j + 1) ↔ y ∈ L.take j := by
    rw [take_succ hj, List.mem_append]; exact ⟨fun h => h.resolve_right fun h => by simp at h; exact e h.symm, .inl⟩
  rw [hB]
  by_cases h : y ∈ L.take j
  · rw [if_pos h, if_pos (this.2 h)]
  · rw [if_neg h, if_neg fun h' => h (this.1 h')]
set_option maxHeartbeats 8000000 in
theorem ct_i_ContractPair (k p n : Int) (t u : Ten) (ks : List Int) (a b c a' b' c' v : Value) (w : World) (r1 : IntsR t.l a (hp w)) (r2 : IntsR t.d b (hp w)) (r3 : IntsR t.x c (hp w)) (r1' : IntsR u.l a' (hp w)) (r2' : IntsR u.d b' (hp w)) (r3' : IntsR u.x c' (hp w)) (rk : IntsR ks v (hp w)) :
    Calls Tryz.prog 73 [ringV k p n, tenV a b c, tenV a' b' c', v].toArray w (Ret w emp (TenB (pairR k p n t u ks) (pairB k p n t u ks))) := by
  have hkr : ∀ {L : List Int} {d : List Int}, 0 ≤ sizeI L d → L.length ≤ 12 ∧ d.length ≤ 12 ∧ dimsIn d := fun {L d} h => by
    have := (sizeI_ge.1 h).1; have h1 := this.1; have h2 := this.2.1; exact ⟨h1, by omega, axes_dims this⟩
  refine calls_in Tryz.func73 rfl Tryz.ntmps73 rfl (Sat.start w) ?_; have hle0 := r1.le; have hle1 := r2.le; have hle2 := r3.le; have hle3 := r1'.le; have hle4 := r2'.le; have hle5 := r3'.le; have hle6 := rk.le; refine wp_sc (wp_sq ?_); refine sq_x rfl (x_box rfl rfl) rfl ?_; rintro _ _ ⟨b4, rfl, rfl⟩; refine sq_x rfl (x_box rfl rfl) rfl ?_; rintro _ _ ⟨b5, rfl, rfl⟩; refine sq_x rfl (x_box rfl rfl) rfl ?_; rintro _ _ ⟨b6, rfl, rfl⟩; refine sq_x rfl (x_alloc ty_34 rfl) rfl ?_; rintro _ _ ⟨b8, rfl, rfl⟩; refine sq_v rfl (v_assign rfl) rfl (sq_end (qs_n (wp_sc (wp_sc (wp_sq (sq_v rfl (v_loadNB 3 ty_37 rfl rfl rfl rfl) rfl (sq_v rfl (v_loadNB 2 ty_34 rfl rfl rfl rfl) rfl (sq_u rfl (x_callv rfl en_127 (fun w s => ct_i_TensorOk _ _ _ _ _ _ _ _ _ w (r1.mono (s.get 4 rfl)) (r2.mono (s.get 4 rfl)) (r3.mono (s.get 4 rfl)))) rfl ?_)))))))); refine sq_bb 26 rfl (fun c26 => ?_) (fun c26 => ?_)
  · refine sq_v rfl (v_not rfl) rfl (sq_v rfl (v_move rfl) rfl (sq_v rfl (v_loadNB 3 ty_37 rfl rfl rfl rfl) rfl (sq_v rfl (v_loadNB 1 ty_34 rfl rfl rfl rfl) rfl (sq_u rfl (x_callv rfl en_127 (fun w s => ct_i_TensorOk _ _ _ _ _ _ _ _ _ w (r1'.mono (s.get 4 rfl)) (r2'.mono (s.get 4 rfl)) (r3'.mono (s.get 4 rfl)))) rfl (sq_v rfl (v_not rfl) rfl (sq_v rfl (v_pickf rfl rfl) rfl (sq_end (qs_n ?_)))))))); refine wp_cn _ rfl (fun c33 => ?_) (fun c33 => ?_)
    · refine wp_sc (wp_sq (sq_v rfl (v_build [.slice none 0 0, .slice none 0 0, .slice none 0 0] rfl (by kernel_rfl)) rfl ?_)); refine sq_m 0 rfl rfl (m_store 0 ty_34 rfl rfl rfl rfl (by simp [one_sl]) rfl (Nat.le_of_ble_eq_true rfl)) rfl ?_; rintro _ _ ⟨rfl, rfl⟩; refine sq_v rfl (v_assign rfl) rfl (sq_end (qs_n (wp_rt (qs_r ?_)))); exact qs_retct 0 rfl ty_34 rfl rfl rfl rfl (fin_e (i := 4) rfl (PairNo (fun h => by first | exact tensorB_false.1 c26 h.1 | exact tensorB_false.1 c33 h.2.1)))
    · refine wp_sk (qs_n (wp_sc (wp_sq ?_))); have h1 := tensorB_true.1 c26; have h2 := tensorB_true.1 c33; have hat := ten_axes h1; have hau := ten_axes h2; have htl := hat.2.1; have hul := hau.2.1; have h12 := hat.1; have h12' := hau.1; have htn := axes_nodup hat; have hun := axes_nodup hau; have htp := ten_prod h1; have hup := ten_prod h2; have hjd := joinD_prod h1 h2; refine sq_v rfl (v_loadNB 2 ty_34 rfl rfl rfl rfl) rfl (sq_v rfl (v_loadNB 1 ty_34 rfl rfl rfl rfl) rfl ?_); refine sq_x rfl (x_call rfl en_173 (fun w s => ct_u_joinAxes _ _ _ _ _ _ _ _ w (r1.mono (s.get 4 rfl)) (r2.mono (s.get 4 rfl)) (r3.mono (s.get 4 rfl)) (r1'.mono (s.get 4 rfl)) (r2'.mono (s.get 4 rfl)) (r3'.mono (s.get 4 rfl)) (by first | assumption | omega) (by first | assumption | omega) (by first | assumption | omega) (by first | assumption | omega) (by first | assumption | omega))) rfl ?_; rintro _ h38 ⟨v1, v2, bb, L, D, rfl, q1, q2, hbb, hLD⟩; refine sq_v rfl (v_move rfl) rfl (sq_v rfl (v_extract rfl rfl) rfl (sq_v rfl (v_extract rfl rfl) rfl (sq_v rfl (v_extract rfl rfl) rfl (sq_v rfl (v_assign rfl) rfl (sq_v rfl (v_assign rfl) rfl (sq_v rfl (v_assign rfl) rfl (sq_end (qs_n (wp_sc (wp_sc (wp_sq ?_))))))))))); refine sq_bb 12 rfl (fun c12 => ?_) (fun c12 => ?_)
      · refine sq_v rfl (v_move rfl) rfl (sq_v rfl (v_not rfl) rfl (sq_v rfl (v_move rfl) rfl (sq_v rfl (v_move rfl) rfl ?_))); have hnm := hbb.1 c12; obtain ⟨eL, eD⟩ := hLD c12; rw [← eD] at hjd; have hjd1 := hjd.1; have hjl := joinI_len t.l u.l; rw [← eL] at hjl; refine sq_u rfl (x_callv rfl en_133 (fun w s => ct_i_productOf _ _ w (q2.mono (s.get 0 rfl)) (by first | assumption | omega) (by first | assumption | omega))) rfl (sq_v rfl (v_gtr rfl rfl) rfl (sq_v rfl (v_pickf rfl rfl) rfl (sq_end (qs_n ?_)))); refine wp_cd rfl (fun c48 => ?_) (fun c48 => ?_)
        · refine wp_sc (wp_sq (sq_v rfl (v_build [.slice none 0 0, .slice none 0 0, .slice none 0 0] rfl (by kernel_rfl)) rfl ?_)); refine sq_m 1 rfl rfl (m_store 1 ty_34 rfl rfl rfl rfl (by simp [one_sl]) rfl (Nat.le_of_ble_eq_true rfl)) rfl ?_; rintro _ _ ⟨rfl, rfl⟩; refine sq_v rfl (v_assign rfl) rfl (sq_end (qs_n (wp_rt (qs_r ?_)))); exact qs_retct 1 rfl ty_34 rfl rfl rfl rfl (fin_e (i := 5) rfl (PairNo (fun h => by first | exact absurd (c12.symm.trans (hbb.2 h.2.2.1)) (by decide) | (have := h.2.2.2.1; rw [← eD] at this; omega))))
        · refine wp_sk (qs_n (wp_sc (wp_sq (sq_v rfl (v_move rfl) rfl (sq_v rfl (v_move rfl) rfl ?_))))); refine sq_x rfl (x_call rfl en_174 (fun w s => ct_i_keptOnly _ _ _ _ w (q1.mono (s.get 0 rfl)) (rk.mono (s.get 5 rfl)) (by first | assumption | omega))) rfl ?_; rintro v52 h52 r52; refine sq_v rfl (v_assign rfl) rfl (sq_end ?_); obtain ⟨K, hK⟩ : ∃ K, K = L.filter (fun x => decide (x ∈ ks)) := ⟨_, rfl⟩
          have hfl := List.length_filter_le (fun x => decide (x ∈ ks)) L; rw [← hK] at r52 hfl; have hKk : K = keepL t u ks := by rw [hK, eL, keepL]
          have ok := pair_ok h1 h2 hnm (by rw [← eD]; omega); obtain ⟨ht, hu, eJ⟩ := pairP.dims h1 h2 hnm; obtain ⟨f, hf⟩ : ∃ f, f = dimJ t u := ⟨_, rfl⟩
          rw [← hf] at ok ht hu eJ; have eDf : D = L.map f := by rw [eD, eJ, eL]
          have hDL : D.length = L.length := by rw [eDf]; simp
          have hKm : (K.map f).length = K.length := by simp
          have hKL : ∀ x ∈ K, x ∈ L := fun x hx => by rw [hK] at hx; exact (List.mem_filter.1 hx).1
          refine qs_n (wp_sc (wp_sq (sq_v rfl (v_move rfl) rfl (sq_v rfl (v_move rfl) rfl (sq_v rfl (v_len Tryz.underlying25 rfl r52.toR.sl) rfl ?_))))); refine sq_x rfl (x_makeI Tryz.underlying25 ty_3 rfl rfl (by omega) (by omega) (by omega)) rfl ?_; intro v56 h56 r56; refine sq_v rfl (v_build [v52, v56, .slice none 0 0] rfl (by obtain ⟨_, _, rfl⟩ := r52.toR.sl; obtain ⟨_, _, rfl⟩ := r56.toR.sl; kernel_rfl)) rfl ?_; refine sq_x rfl (x_alloc ty_34 rfl) rfl ?_; rintro _ _ ⟨b14, rfl, rfl⟩; refine sq_m 0 rfl rfl (m_store 0 ty_34 rfl rfl rfl rfl (by simp [r52.toR.sl.one, r56.toR.sl.one, one_sl]) rfl (Nat.le_of_ble_eq_true rfl)) rfl ?_; rintro _ _ ⟨rfl, rfl⟩; refine sq_end (qs_n (wp_sc (wp_sc (wp_sq (sq_v rfl (v_move rfl) rfl (sq_v rfl (v_len Tryz.underlying25 rfl r52.toR.sl) rfl (sq_v rfl (v_move rfl) rfl (sq_end (qs_n (wp_bl ?_)))))))))); refine wp_lp (σ := Nat × PH) (fun z_ => [(4, .pointer (some ⟨b4, 0, none⟩)), (5, .pointer (some ⟨b5, 0, none⟩)), (6, .pointer (some ⟨b6, 0, none⟩)), (8, .pointer (some ⟨b8, 0, none⟩)), (9, .bool false), (10, v1), (11, v2), (14, .pointer (some ⟨b14, 0, none⟩)), (58, v52), (59, num K.length), (60, num z_.1)]) (fun z_ => [box b14 [v52, v56, .slice none 0 0] 34, z_.2, h52, h38, box b8 [.slice none 0 0, .slice none 0 0, .slice none 0 0] 34, box b6 [a', b', c'] 34, box b5 [a, b, c] 34, box b4 [num k, num p, num n] 37, hp w]) (fun z_ => z_.1 ≤ K.length ∧ IntsO ((K.map f).take z_.1 ++ List.replicate ((K.map f).length - z_.1) 0) v56 z_.2) (fun z_ => K.length - z_.1) (0, h56) (⟨by (try dsimp only); omega, by (try dsimp only); simpa using r56⟩) ⟨rfl, rfl, rfl, rfl, rfl, rfl, rfl, rfl, rfl, rfl, rfl, trivial⟩ (fun _ s => s) ?_; rintro ⟨i, g⟩ ⟨hi, q⟩; dsimp only at hi q ⊢; have hle_q := q.toR.le; have hll : ((K.map f).take i ++ List.replicate ((K.map f).length - i) 0).length = K.length := by simp; omega
          refine wp_sc (wp_sq (sq_v rfl (v_lss rfl rfl) rfl (sq_end (qs_n (wp_sc ?_))))); refine wp_cd rfl (fun c61 => ?_) (fun c61 => ?_)
          · refine wp_sk (qs_n (wp_sc (wp_bl (wp_sc (wp_sq (sq_v rfl (v_move rfl) rfl (sq_v rfl (v_idxI Tryz.underlying25 ty_3 rfl rfl r52.toR (by omega) (by omega)) rfl (sq_v rfl (v_loadI (k := i) 2 ty_3 rfl rfl r52.toR (by omega)) rfl (sq_v rfl (v_assign rfl) rfl (sq_v rfl (v_assign rfl) rfl (sq_end (qs_n (wp_sc (wp_sq (sq_v rfl (v_move rfl) rfl (sq_v rfl (v_len Tryz.underlying25 rfl q1.sl) rfl (sq_v rfl (v_move rfl) rfl (sq_end (qs_n (wp_bl ?_)))))))))))))))))))); refine wp_lp (σ := Nat × (List Int) × PH) (fun z_ => [(4, .pointer (some ⟨b4, 0, none⟩)), (5, .pointer (some ⟨b5, 0, none⟩)), (6, .pointer (some ⟨b6, 0, none⟩)), (8, .pointer (some ⟨b8, 0, none⟩)), (9, .bool false), (10, v1), (11, v2), (14, .pointer (some ⟨b14, 0, none⟩)), (15, num i), (16, num (K.getD i 0)), (58, v52), (59, num K.length), (60, num i), (61, .bool (decide ((i : Int) < K.length))), (62, num i), (64, num (K.getD i 0)), (65, v1), (66, num L.length), (67, num z_.1)]) (fun z_ => [box b14 [v52, v56, .slice none 0 0] 34, z_.2.2, h52, h38, box b8 [.slice none 0 0, .slice none 0 0, .slice none 0 0] 34, box b6 [a', b', c'] 34, box b5 [a, b, c] 34, box b4 [num k, num p, num n] 37, hp w]) (fun z_ => z_.1 ≤ L.length ∧ (z_.2.1 = if K.getD i 0 ∈ L.take z_.1 then ((K.map f).take i ++ List.replicate ((K.map f).length - i) 0).set i (f (K.getD i 0)) else ((K.map f).take i ++ List.replicate ((K.map f).length - i) 0)) ∧ z_.2.1.length = K.length ∧ IntsO z_.2.1 v56 z_.2.2) (fun z_ => L.length - z_.1) (0, ((K.map f).take i ++ List.replicate ((K.map f).length - i) 0), g) (⟨by (try dsimp only); omega, by (try dsimp only); simp, hll, q⟩) ⟨rfl, rfl, rfl, rfl, rfl, rfl, rfl, rfl, rfl, rfl, rfl, rfl, rfl, rfl, rfl, rfl, rfl, rfl, rfl, trivial⟩ (fun _ s => s) ?_; rintro ⟨j, B, g2⟩ ⟨hj, hB, hBl, q2b⟩; dsimp only at hj hB hBl q2b ⊢; have hle_q2b := q2b.toR.le; refine wp_sc (wp_sq (sq_v rfl (v_lss rfl rfl) rfl (sq_end (qs_n (wp_sc ?_))))); refine wp_cd rfl (fun c68 => ?_) (fun c68 => ?_)
            · refine wp_sk (qs_n (wp_sc (wp_bl (wp_sc (wp_sq (sq_v rfl (v_move rfl) rfl (sq_v rfl (v_idxI Tryz.underlying25 ty_3 rfl rfl q1 (by omega) (by omega)) rfl (sq_v rfl (v_loadI (k := j) 3 ty_3 rfl rfl q1 (by omega)) rfl (sq_v rfl (v_assign rfl) rfl (sq_v rfl (v_assign rfl) rfl (sq_end (qs_n (wp_sc (wp_sq (sq_v rfl (v_move rfl) rfl (sq_v rfl (v_move rfl) rfl (sq_v rfl (v_eql rfl rfl) rfl (sq_end (qs_n ?_))))))))))))))))))); refine wp_cd rfl (fun c74 => ?_) (fun c74 => ?_)
              · refine wp_rj 8 [(0, true), (1, true), (2, true), (3, true), (4, true), (5, true), (6, true), (7, true), (8, false)] mixed_ok (by kernel_rfl) (rj_v rfl rfl (v_fieldAddr fd_34_1 ty_25 (by decide) rfl) rfl (rj_v rfl rfl (v_loadB 0 ty_25 rfl rfl rfl) rfl (rj_v rfl rfl (v_move rfl) rfl (rj_v rfl rfl (v_move rfl) rfl (rj_v rfl rfl (v_move rfl) rfl (rj_v rfl rfl (v_idxI Tryz.underlying25 ty_3 rfl rfl q2 (by omega) (by omega)) rfl (rj_v rfl rfl (v_loadI (k := j) 3 ty_3 rfl rfl q2 (by omega)) rfl (rj_v rfl rfl (v_idxI Tryz.underlying25 ty_3 rfl rfl q2b.toR (by omega) (by omega)) rfl ?_)))))))); refine rj_m 1 rfl rfl rfl rfl (m_storeI (k := i) 1 ty_3 rfl rfl rfl q2b (by omega)) rfl ?_; rintro _ h_q15_8 ⟨rfl, q15_8⟩; refine rj_end ?_; have eDj : D.getD j 0 = f (K.getD i 0) := by rw [eDf, map_getD (by omega), c74]
                rw [eDj] at q15_8; refine qs_bn (qs_n (wp_sq ?_)); refine sq_v rfl (v_add rfl rfl ((by unfold I64; omega))) rfl ?_; refine sq_v rfl (v_move rfl) rfl (sq_end ?_); exact qs_bk (j + 1, B.set i (f (K.getD i 0)), h_q15_8) ⟨by (try dsimp only); omega, setif_yes hB (by omega) c74, by (try dsimp only); rw [List.length_set]; exact hBl, q15_8⟩ (by simp only; omega) ⟨rfl, rfl, rfl, rfl, rfl, rfl, rfl, rfl, rfl, rfl, rfl, rfl, rfl, rfl, rfl, rfl, rfl, rfl, rfl, trivial⟩ (fun _ s => s)
              · refine wp_sk (qs_bn (qs_n (wp_sq ?_))); refine sq_v rfl (v_add rfl rfl ((by unfold I64; omega))) rfl ?_; refine sq_v rfl (v_move rfl) rfl (sq_end ?_); exact qs_bk (j + 1, B, g2) ⟨by (try dsimp only); omega, setif_no hB (by omega) c74, hBl, q2b⟩ (by simp only; omega) ⟨rfl, rfl, rfl, rfl, rfl, rfl, rfl, rfl, rfl, rfl, rfl, rfl, rfl, rfl, rfl, rfl, rfl, rfl, rfl, trivial⟩ (fun _ s => s)
            · refine wp_ex (qs_x (qs_x (qs_bx (qs_bn (qs_n (wp_sq ?_)))))); refine sq_v rfl (v_add rfl rfl ((by unfold I64; omega))) rfl ?_; refine sq_v rfl (v_move rfl) rfl (sq_end ?_); exact qs_bk (i + 1, g2) ⟨by (try dsimp only); omega, by (try dsimp only); rw [← set_prefix (by omega), map_getD (by omega)]; rw [if_pos (by rw [List.take_of_length_le (by omega)]; exact hKL _ (mem_getD (by omega)))] at hB; rw [← hB]; exact q2b⟩ (by simp only; omega) ⟨rfl, rfl, rfl, rfl, rfl, rfl, rfl, rfl, rfl, rfl, rfl, trivial⟩ (fun _ s => s)
          · refine wp_ex (qs_x (qs_x (qs_bx (qs_n (wp_sc (wp_sc (wp_sq ?_))))))); rw [List.take_of_length_le (by omega), show (K.map f).length - i = 0 by omega, List.replicate_zero, List.append_nil] at q; refine sq_v rfl (v_loadNB 0 ty_34 rfl rfl rfl rfl) rfl (sq_u rfl (x_callv rfl en_129 (fun w s => ct_i_TensorSize _ _ _ _ _ w (r52.toR.mono (s.get 2 rfl)) (q.toR.mono (s.get 1 rfl)))) rfl (sq_v rfl (v_eql rfl rfl) rfl (sq_end (qs_n ?_)))); refine wp_cd rfl (fun c87 => ?_) (fun c87 => ?_)
            · refine wp_sc (wp_sq (sq_v rfl (v_build [.slice none 0 0, .slice none 0 0, .slice none 0 0] rfl (by kernel_rfl)) rfl ?_)); refine sq_m 4 rfl rfl (m_store 4 ty_34 rfl rfl rfl rfl (by simp [one_sl]) rfl (Nat.le_of_ble_eq_true rfl)) rfl ?_; rintro _ _ ⟨rfl, rfl⟩; refine sq_v rfl (v_assign rfl) rfl (sq_end (qs_n (wp_rt (qs_r ?_)))); exact qs_retct 4 rfl ty_34 rfl rfl rfl rfl (fin_e (i := 8) rfl (PairNo (fun h => by have := h.2.2.2.2; rw [← hKk, ← hf] at this; omega)))
            · refine wp_sk (qs_n (wp_sc (wp_rj 8 [(0, true), (1, true), (2, true), (3, true), (4, true), (5, true), (6, false), (7, false), (8, false)] mixed_ok (by kernel_rfl) ?_))); have hsz : 0 ≤ sizeI K (K.map f) := (by have := sizeI_range K (K.map f); omega); obtain ⟨hK1, hK2, hKi⟩ := hkr hsz; have hk : KeepOK t u f K := (by rw [hf, hKk]; rw [hf] at ok; exact keep_ok ok (by rw [← hKk, ← hf]; exact hsz)); have hKp := hk.small; have hwr := width_range h1.1; have hring := h1.1; have hzl := zeroL_len k p n; refine rj_v rfl rfl (v_loadNB 7 ty_37 rfl rfl rfl rfl) rfl (rj_v rfl rfl (v_fieldAddr fd_34_0 ty_25 (by decide) rfl) rfl (rj_v rfl rfl (v_loadB 0 ty_25 rfl rfl rfl) rfl (rj_v rfl rfl (v_fieldAddr fd_34_1 ty_25 (by decide) rfl) rfl (rj_v rfl rfl (v_loadB 0 ty_25 rfl rfl rfl) rfl (rj_v rfl rfl (v_loadNB 7 ty_37 rfl rfl rfl rfl) rfl ?_))))); refine rj_x rfl rfl (x_call rfl en_131 (fun w s => ct_i_rawZero _ _ _ w (by first | assumption | omega))) rfl ?_; rintro v95 h95 r95; refine rj_x rfl rfl (x_call rfl en_175 (fun w s => ct_i_fillTensor _ _ _ _ _ _ _ _ _ w (r52.toR.mono (s.get 3 rfl)) (q.toR.mono (s.get 2 rfl)) (r95.toR.mono (s.get 0 rfl)) (by first | assumption | omega) (by first | assumption | omega) (by first | assumption | omega) (by first | assumption | omega) (by first | assumption | omega))) rfl ?_; rintro _ h96 ⟨va96, vb96, vc96, rfl, o96⟩; refine rj_m 2 rfl rfl rfl rfl (m_store 2 ty_34 rfl rfl rfl rfl (by simp [o96.toR.1.sl.one, o96.toR.2.1.sl.one, o96.toR.2.2.sl.one]) rfl (Nat.le_of_ble_eq_true rfl)) rfl ?_; rintro _ _ ⟨rfl, rfl⟩; refine rj_end ?_; obtain ⟨go1, go2, go3, qo1, qo2, qo3, mdo⟩ := o96; have hKd := map_dim ok.dim hk.sub; have hnd := ok.nd; have hDd := map_dim ok.dim (fun _ h => h); rw [← eL] at hnd hDd; rw [← eDf] at hDd; have hD1 : ∀ d ∈ D, 1 ≤ d := fun d hd => (hDd d hd).1; have hsA := stepsL_len L t.l t.d; have hsB := stepsL_len L u.l u.d; have hsC := stepsL_len L K (K.map f); have hA : ∀ a ∈ stepsL L t.l t.d, 0 ≤ a ∧ a ≤ 1048576 := fun a h => by have := steps_in (fun d hd => (dims_mem (axes_dims hat) d hd).1) a h; omega
              have hBs : ∀ a ∈ stepsL L u.l u.d, 0 ≤ a ∧ a ≤ 1048576 := fun a h => by have := steps_in (fun d hd => (dims_mem (axes_dims hau) d hd).1) a h; omega
              have hC : ∀ a ∈ stepsL L K (K.map f), 0 ≤ a ∧ a ≤ 1048576 := fun a h => by have := steps_in (fun d hd => (hKd d hd).1) a h; omega
              refine qs_s [h95, box b14 [va96, vb96, vc96] 34, g, h52, h38, box b8 [.slice none 0 0, .slice none 0 0, .slice none 0 0] 34, box b6 [a', b', c'] 34, box b5 [a, b, c] 34, box b4 [num k, num p, num n] 37, hp w, go1, go2, go3] (fun _ s => Sat.open (A := [h95, box b14 [va96, vb96, vc96] 34, g, h52, h38, box b8 [.slice none 0 0, .slice none 0 0, .slice none 0 0] 34, box b6 [a', b', c'] 34, box b5 [a, b, c] 34, box b4 [num k, num p, num n] 37, hp w]) mdo (s.pick [0, 1, 2, 3, 4, 5, 6, 7, 8, 9, 10] (by decide) rfl)) (qs_n (wp_sc (wp_rj 12 [(0, true), (1, true), (3, true), (4, true), (6, true), (7, true), (2, false), (5, false), (8, false), (9, true), (10, true), (11, true)] mixed_ok (by kernel_rfl) (rj_v rfl rfl (v_loadNB 7 ty_34 rfl rfl rfl rfl) rfl (rj_v rfl rfl (v_move rfl) rfl (rj_v rfl rfl (v_loadNB 6 ty_34 rfl rfl rfl rfl) rfl (rj_v rfl rfl (v_move rfl) rfl (rj_v rfl rfl (v_loadNB 1 ty_34 rfl rfl rfl rfl) rfl (rj_v rfl rfl (v_move rfl) rfl ?_))))))))); refine rj_x rfl rfl (x_call rfl en_176 (fun w s => ct_i_stridesOf _ _ _ _ _ _ _ w (r1.mono (s.get 9 rfl)) (r2.mono (s.get 9 rfl)) (q1.mono (s.get 4 rfl)) (by first | assumption | omega) (dims_mem (axes_dims hat)) (by first | assumption | omega) (by first | assumption | omega))) rfl ?_; rintro v99 h99 r99; refine rj_x rfl rfl (x_call rfl en_176 (fun w s => ct_i_stridesOf _ _ _ _ _ _ _ w (r1'.mono (s.get 10 rfl)) (r2'.mono (s.get 10 rfl)) (q1.mono (s.get 5 rfl)) (by first | assumption | omega) (dims_mem (axes_dims hau)) (by first | assumption | omega) (by first | assumption | omega))) rfl ?_; rintro v102 h102 r102; refine rj_x rfl rfl (x_call rfl en_176 (fun w s => ct_i_stridesOf K (K.map f) _ _ _ _ _ w (qo1.toR.mono (s.get 12 rfl)) (qo2.toR.mono (s.get 13 rfl)) (q1.mono (s.get 6 rfl)) (by first | assumption | omega) hKd (by first | assumption | omega) (by first | assumption | omega))) rfl ?_; rintro v105 h105 r105; refine rj_v rfl rfl (v_assign rfl) rfl (rj_v rfl rfl (v_assign rfl) rfl (rj_v rfl rfl (v_assign rfl) rfl (rj_end (qs_n (wp_sc (wp_sq (sq_v rfl (v_move rfl) rfl (sq_v rfl (v_len Tryz.underlying25 rfl q1.sl) rfl ?_)))))))); refine sq_x rfl (x_makeI Tryz.underlying25 ty_3 rfl rfl (by omega) (by omega) (by omega)) rfl ?_; intro v108 h108 r108; refine sq_v rfl (v_assign rfl) rfl (sq_end (qs_n (wp_sc (wp_sq (sq_v rfl (v_loadNB 12 ty_37 rfl rfl rfl rfl) rfl (sq_u rfl (x_callv rfl en_177 (fun w s => ct_i_rawWidth _ _ _ w)) rfl ?_)))))); refine sq_x rfl (x_makeI Tryz.underlying25 ty_3 rfl rfl (by omega) (by omega) (by omega)) rfl ?_; intro v111 h111 r111; refine sq_v rfl (v_assign rfl) rfl (sq_end (qs_n (wp_bl ?_))); refine wp_lp (σ := Nat × PH × PH × PH × (List Int)) (fun z_ => [(4, .pointer (some ⟨b4, 0, none⟩)), (5, .pointer (some ⟨b5, 0, none⟩)), (6, .pointer (some ⟨b6, 0, none⟩)), (8, .pointer (some ⟨b8, 0, none⟩)), (9, .bool false), (11, v2), (14, .pointer (some ⟨b14, 0, none⟩)), (19, v99), (20, v102), (21, v105), (22, v108), (23, v111)]) (fun z_ => [z_.2.2.2.1, z_.2.1, h105, h102, h99, h95, box b14 [va96, vb96, vc96] 34, g, h52, h38, box b8 [.slice none 0 0, .slice none 0 0, .slice none 0 0] 34, box b6 [a', b', c'] 34, box b5 [a, b, c] 34, box b4 [num k, num p, num n] 37, hp w, go1, go2, z_.2.2.1]) (fun z_ => z_.1 < (prodI D).toNat ∧ z_.2.2.2.2.length = (widthI k n).toNat ∧ IntsO (idxL D z_.1) v108 z_.2.1 ∧ IntsO (pairX k p n f t u K z_.1) vc96 z_.2.2.1 ∧ IntsO z_.2.2.2.2 v111 z_.2.2.2.1) (fun z_ => (prodI D).toNat - z_.1) (0, h108, go3, h111, (List.replicate (widthI k n : Int).toNat 0)) (⟨by (try dsimp only); omega, by (try dsimp only); simp, by (try dsimp only); rw [show ((0 : Nat) : Int) = 0 from rfl, idxL_zero, hDL]; simpa using r108, qo3, r111⟩) ⟨rfl, rfl, rfl, rfl, rfl, rfl, rfl, rfl, rfl, rfl, rfl, rfl, trivial⟩ (fun _ s => s) ?_; rintro ⟨m, gi, gx, gz, zs⟩ ⟨hm, hzs, qi, qx, qz⟩; dsimp only at hm hzs qi qx qz ⊢; have hle_qi := qi.toR.le; have hle_qx := qx.toR.le; have hle_qz := qz.toR.le; have hil := idxL_len D m; have hii := idxL_in hD1 m; have hib : ∀ b ∈ idxL D m, 0 ≤ b ∧ b ≤ 1048576 := all_of fun j hj => by have := hii.2 j (by omega); have := hjd1 j (by omega); omega
              have hpx := ok.small hk m; have ex : dotL (stepsL L t.l t.d) (idxL D m) = atI f (joinI t.l u.l) t.l m := by rw [atI, ← ht, ← eL, ← eDf]
              have ey : dotL (stepsL L u.l u.d) (idxL D m) = atI f (joinI t.l u.l) u.l m := by rw [atI, ← hu, ← eL, ← eDf]
              have ez : dotL (stepsL L K (K.map f)) (idxL D m) = atI f (joinI t.l u.l) K m := by rw [atI, ← eL, ← eDf]
              have hx0 := ok.at_t m; have hy0 := ok.at_u m; have hz0 := ok.at_k hk m; have hXr := ok.el_t m; have hYr := ok.el_u m; have hZr := (ok.all hk m).el hring hz0.1 hz0.2; have hzf := ok.fits hk m; rw [← ex] at hx0 hXr; rw [← ey] at hy0 hYr; rw [← ez] at hz0 hZr hzf; have hMr := mulL_in hring hXr hYr; have hxf := elt_fits ok.tt hx0.2; have hyf := elt_fits ok.uu hy0.2; have hz1 := Int.mul_nonneg hz0.1 (show 0 ≤ widthI k n by omega); have hz2 := Int.add_mul (dotL (stepsL L K (K.map f)) (idxL D m)) 1 (widthI k n); rw [Int.one_mul] at hz2; have hMl := hMr.1; refine wp_bl (wp_sc (wp_rj 14 [(0, true), (1, true), (2, true), (3, true), (4, true), (5, true), (8, true), (9, true), (10, true), (11, true), (6, false), (7, false), (12, false), (13, false), (14, false)] mixed_ok (by kernel_rfl) (rj_v rfl rfl (v_loadNB 13 ty_37 rfl rfl rfl rfl) rfl (rj_v rfl rfl (v_move rfl) rfl (rj_v rfl rfl (v_loadNB 13 ty_37 rfl rfl rfl rfl) rfl (rj_v rfl rfl (v_loadNB 12 ty_34 rfl rfl rfl rfl) rfl (rj_v rfl rfl (v_move rfl) rfl (rj_v rfl rfl (v_move rfl) rfl (rj_v rfl rfl (v_loadNB 13 ty_37 rfl rfl rfl rfl) rfl (rj_v rfl rfl (v_loadNB 11 ty_34 rfl rfl rfl rfl) rfl (rj_v rfl rfl (v_move rfl) rfl ?_))))))))))); refine rj_v rfl rfl (v_move rfl) rfl (rj_u rfl rfl (x_callv rfl en_179 (fun w s => ct_i_dotOf _ _ _ _ w (r99.toR.mono (s.get 4 rfl)) (qi.toR.mono (s.get 1 rfl)) (by first | assumption | omega) (by first | assumption | omega) (by first | assumption | omega) (by first | assumption | omega))) rfl (rj_u rfl rfl (x_callv rfl en_136 (fun w s => ct_i_rawElem _ _ _ _ _ _ _ _ w (by first | assumption | omega) (r3.mono (s.get 14 rfl)) (by first | assumption | omega) (by first | assumption | omega) (by first | assumption | omega))) rfl (rj_u rfl rfl (x_callv rfl en_179 (fun w s => ct_i_dotOf _ _ _ _ w (r102.toR.mono (s.get 3 rfl)) (qi.toR.mono (s.get 1 rfl)) (by first | assumption | omega) (by first | assumption | omega) (by first | assumption | omega) (by first | assumption | omega))) rfl (rj_u rfl rfl (x_callv rfl en_136 (fun w s => ct_i_rawElem _ _ _ _ _ _ _ _ w (by first | assumption | omega) (r3'.mono (s.get 14 rfl)) (by first | assumption | omega) (by first | assumption | omega) (by first | assumption | omega))) rfl ?_)))); refine rj_m 0 rfl rfl rfl rfl (x_call rfl en_178 (fun w s => ct_i_mulInto _ _ _ _ _ _ _ _ _ w _ (by first | assumption | omega) (s.get 0 rfl) qz ((eltV_read r3 (by first | assumption | omega) (by first | assumption | omega) (by first | assumption | omega)).mono (s.getR 0 14 rfl rfl (by decide))) ((eltV_read r3' (by first | assumption | omega) (by first | assumption | omega) (by first | assumption | omega)).mono (s.getR 0 14 rfl rfl (by decide))) (by first | assumption | omega) (by first | assumption | omega) (by first | assumption | omega))) rfl ?_; rintro _ h126 r126; refine rj_end (qs_n (wp_sc (wp_rj 8 [(0, true), (1, true), (2, true), (3, true), (4, true), (7, true), (5, false), (6, false), (8, false)] mixed_ok (by kernel_rfl) (rj_v rfl rfl (v_loadNB 13 ty_37 rfl rfl rfl rfl) rfl (rj_v rfl rfl (v_loadNB 13 ty_37 rfl rfl rfl rfl) rfl (rj_v rfl rfl (v_loadNB 6 ty_34 rfl rfl rfl rfl) rfl (rj_v rfl rfl (v_move rfl) rfl (rj_v rfl rfl (v_move rfl) rfl (rj_v rfl rfl (v_move rfl) rfl (rj_u rfl rfl (x_callv rfl en_179 (fun w s => ct_i_dotOf _ _ _ _ w (r105.toR.mono (s.get 2 rfl)) (qi.toR.mono (s.get 1 rfl)) (by first | assumption | omega) (by first | assumption | omega) (by first | assumption | omega) (by first | assumption | omega))) rfl (rj_u rfl rfl (x_callv rfl en_136 (fun w s => ct_i_rawElem _ _ _ _ _ _ _ _ w (by first | assumption | omega) (qx.toR.mono (s.get 17 rfl)) (by first | assumption | omega) (by first | assumption | omega) (by first | assumption | omega))) rfl ?_))))))))))); refine rj_m 17 rfl rfl rfl rfl (x_call rfl en_140 (fun w s => ct_i_addInto _ _ _ _ _ ((dotL (stepsL L K (K.map f)) (idxL D m) * widthI k n).toNat) (((dotL (stepsL L K (K.map f)) (idxL D m) + 1) * widthI k n).toNat) vc96 _ w _ (by first | assumption | omega) (s.get 17 rfl) qx (r126.toR.mono (s.getR 17 0 rfl rfl (by decide))) (by omega) (by omega) (by rw [hMl]; exact hZr) hMr)) rfl ?_; rintro _ h135 r135; refine rj_end ?_; rw [hMl] at r135; refine qs_n (wp_sc (wp_sq (sq_v rfl (v_move rfl) rfl (sq_v rfl (v_move rfl) rfl ?_)))); refine sq_m 1 rfl rfl (x_call rfl en_180 (fun w s => ct_i_nextIndex _ _ _ _ w _ (s.get 1 rfl) (q2.mono (s.getR 1 9 rfl rfl (by decide))) qi (by first | assumption | omega) (by first | assumption | omega) (by first | assumption | omega))) rfl ?_; rintro _ h138 ⟨rfl, r138⟩; refine sq_v rfl (v_not rfl) rfl (sq_end (qs_n ?_)); refine wp_cnd rfl (fun c139 => ?_) (fun c139 => ?_)
              · refine wp_sc (wp_sq (sq_v rfl (v_loadNB 6 ty_34 rfl rfl rfl rfl) rfl ?_)); refine sq_m 10 rfl rfl (m_store 10 ty_34 rfl rfl rfl rfl (by simp [qo1.toR.sl.one, qo2.toR.sl.one, r135.toR.sl.one]) rfl (Nat.le_of_ble_eq_true rfl)) rfl ?_; rintro _ _ ⟨rfl, rfl⟩; refine sq_v rfl (v_assign rfl) rfl (sq_end (qs_n (wp_rt (qs_br (qs_r (qs_br ?_)))))); refine qs_close [box b8 _ _, hp w] [go1, go2, h135] (fun _ s => s.pick [10, 14, 15, 16, 17] (by decide) rfl) (fun md => ?_); exact qs_retct 1 rfl ty_34 rfl rfl rfl rfl (fin_t 0 (i := 2) rfl rfl rfl (PairYes ⟨h1, h2, hnm, by rw [← eD]; omega, by rw [← hKk, ← hf]; exact hsz⟩ ⟨_, _, _, (by rw [← hKk, ← hf]; exact qo1), (by rw [← hKk, ← hf]; exact qo2), (by rw [← hKk, ← hf, pairT, ← eL, ← eDf, show (prodI D).toNat = m + 1 by omega, pairX, ← ex, ← ey, ← ez]; exact r135), md⟩))
              · refine wp_sk (qs_bn ?_); exact qs_bk (m + 1, h138, h135, h126, mulL k p n (elt t.x (widthI k n) (dotL (stepsL L t.l t.d) (idxL D m))) (elt u.x (widthI k n) (dotL (stepsL L u.l u.d) (idxL D m)))) ⟨by (try dsimp only); omega, hMl, r138, by (try dsimp only); rw [pairX, ← ex, ← ey, ← ez]; exact r135, r126⟩ (by simp only; omega) ⟨rfl, rfl, rfl, rfl, rfl, rfl, rfl, rfl, rfl, rfl, rfl, rfl, trivial⟩ (fun _ s => s)
      · refine sq_v rfl (v_move rfl) rfl (sq_v rfl (v_not rfl) rfl (sq_v rfl (v_move rfl) rfl (sq_s rfl rfl (sq_s rfl rfl (sq_s rfl rfl (sq_v rfl (v_pickt rfl rfl) rfl (sq_end (qs_n (wp_ct rfl (wp_sc (wp_sq (sq_v rfl (v_build [.slice none 0 0, .slice none 0 0, .slice none 0 0] rfl (by kernel_rfl)) rfl ?_)))))))))))); refine sq_m 1 rfl rfl (m_store 1 ty_34 rfl rfl rfl rfl (by simp [one_sl]) rfl (Nat.le_of_ble_eq_true rfl)) rfl ?_; rintro _ _ ⟨rfl, rfl⟩; refine sq_v rfl (v_assign rfl) rfl (sq_end (qs_n (wp_rt (qs_r ?_)))); exact qs_retct 1 rfl ty_34 rfl rfl rfl rfl (fin_e (i := 5) rfl (PairNo (fun h => by first | exact absurd (c12.symm.trans (hbb.2 h.2.2.1)) (by decide) | (have := h.2.2.2.1; rw [← eD] at this; omega))))
  · refine sq_v rfl (v_not rfl) rfl (sq_v rfl (v_move rfl) rfl (sq_s rfl rfl (sq_s rfl rfl (sq_s rfl rfl (sq_s rfl rfl (sq_v rfl (v_pickt rfl rfl) rfl (sq_end (qs_n (wp_ct rfl (wp_sc (wp_sq (sq_v rfl (v_build [.slice none 0 0, .slice none 0 0, .slice none 0 0] rfl (by kernel_rfl)) rfl ?_)))))))))))); refine sq_m 0 rfl rfl (m_store 0 ty_34 rfl rfl rfl rfl (by simp [one_sl]) rfl (Nat.le_of_ble_eq_true rfl)) rfl ?_; rintro _ _ ⟨rfl, rfl⟩; refine sq_v rfl (v_assign rfl) rfl (sq_end (qs_n (wp_rt (qs_r ?_)))); exact qs_retct 0 rfl ty_34 rfl rfl rfl rfl (fin_e (i := 4) rfl (PairNo (fun h => by first | exact tensorB_false.1 c26 h.1 | exact tensorB_false.1 c33 h.2.1)))
end Go.Proofs.YthlmjnihihbckaaGreat
namespace Go.Proofs.YthlmjnihihbckaaGreat
set_option maxRecDepth 100000
open Go.RowKit
section
variable (P : Program) (n : Nat) (w0 : World)
def RAK (ops : Array Oper) (m : Nat) (Q : Exit → Act → World → Prop) (f : Nat) (listed : Array Bool) (K : Env) (HS HK : List PH) : Prop :=
  WkL HS HK → HeadInv .any ops m listed → (Region.noSelect ops && tailOK ops m) = true → ∀ (a : Act) (w : World), EnvOK n K a → Sat w0 HS w → RAny P ops Q (Sat w0 HK) m f listed a w
def ROK (ops : Array Oper) (m : Nat) (Q : Exit → Act → World → Prop) (f : Nat) (i : Nat) (listed : Array Bool) (K : Env) (HS HK : List PH) : Prop :=
  WkL HS HK → HeadInv .any ops m (listed.setIfInBounds i true) → (Region.noSelect ops && tailOK ops m) = true → ∀ (a : Act) (w : World), EnvOK n K a → Sat w0 HS w →
    wpOp P ops (OnlyN Q) i (fun a' w' => (i < m → Sat w0 HK w') ∧ RAny P ops Q (Sat w0 HK) m f (listed.setIfInBounds i true) a' w') a w
end
section
variable {P : Program} {n : Nat} {w0 : World} {K : Env} {HS HK : List PH} {Q : Exit → Act → World → Prop} {ops : Array Oper} {m f : Nat} {listed : Array Bool}
theorem rak_of (h : RAK P n w0 ops m Q f listed K HS HS) : RA P n w0 ops m Q f listed K HS := fun inv ht a w e s => h (WkL.refl HS) inv ht a w e s
theorem rak_yield {i : Nat} {oi : Oper} {v : Value} (hc : (decide (i < m) && (Region.ready .any ops listed).contains i && Region.free .any ops listed i) = true) (hi : ops[i]? = some oi) (hy : ∀ a, EnvOK n K a → YieldsIf P ops (Sat w0 HK) oi v a) (hf : fitsK n oi.dst = true)
    (k : RAK P n w0 ops m Q f (listed.setIfInBounds i true) (putK oi.dst v K) HS HK) : RAK P n w0 ops m Q (f + 1) listed K HS HK := fun hwk inv ht a w e s => by
  simp only [Bool.and_eq_true, decide_eq_true_eq] at hc; obtain ⟨⟨him, hr⟩, hfr⟩ := hc; have hr' : i ∈ Region.ready .any ops listed := by simpa using hr
  have ht' := ht; rw [Bool.and_eq_true] at ht'; exact rany_first hi (Region.noSelect_spec ht'.1) him ht'.2 _ listed a w inv (Region.free_spec hi hfr) hr' (hy a e) (hwk.sat s)
    (k hwk (inv.set hr' him) ht _ _ (e.put v hf) s)
theorem rak_v {i : Nat} {oi : Oper} {v : Value} (hc : (decide (i < m) && (Region.ready .any ops listed).contains i && Region.free .any ops listed i) = true) (hi : ops[i]? = some oi) (hw : wantK ops K oi.guard = some true) (hv : StepV P n w0 K HK oi v) (hf : fitsK n oi.dst = true)
    (k : RAK P n w0 ops m Q f (listed.setIfInBounds i true) (putK oi.dst v K) HS HK) : RAK P n w0 ops m Q (f + 1) listed K HS HK :=
  rak_yield hc hi (fun a e => .inl ⟨e.wanted hw, fun w s => hv a w e s⟩) hf k
theorem rak_alts {l : List Nat} (hc : (decide (Region.ready .any ops listed = l) && (l.all fun i => decide (i < m)) && !l.isEmpty) = true) (k : ∀ i ∈ l, ROK P n w0 ops m Q f i listed K HS HK) : RAK P n w0 ops m Q (f + 1) listed K HS HK := fun hwk inv ht a w e s => by
  simp only [Bool.and_eq_true, decide_eq_true_eq, List.all_eq_true, Bool.not_eq_true'] at hc; obtain ⟨⟨hr, hm⟩, hne⟩ := hc; refine ⟨fun h0 => (by rw [hr] at h0; rw [h0] at hne; cases hne), fun j hj => ?_⟩; have hj' := hj; rw [hr] at hj; exact k j hj hwk (inv.set hj' (hm j hj)) ht a w e s
theorem rak_2 {i j : Nat} (hc : (decide (Region.ready .any ops listed = [i, j]) && ([i, j].all fun i => decide (i < m)) && !([i, j] : List Nat).isEmpty) = true) (k1 : ROK P n w0 ops m Q f i listed K HS HK) (k2 : ROK P n w0 ops m Q f j listed K HS HK) : RAK P n w0 ops m Q (f + 1) listed K HS HK :=
  rak_alts hc (fun x hx => by simp only [List.mem_cons, List.not_mem_nil, or_false] at hx; rcases hx with rfl | rfl <;> assumption)
theorem rok_x {i : Nat} {oi : Oper} {T : Value → PH → Prop} (hi : ops[i]? = some oi) (hw : wantK ops K oi.guard = some true) (hx : StepX P n w0 K HS oi emp T) (hf : fitsK n oi.dst = true)
    (k : ∀ v h', T v h' → RAK P n w0 ops m Q f (listed.setIfInBounds i true) (putK oi.dst v K) (h' :: HS) (h' :: HK)) : ROK P n w0 ops m Q f i listed K HS HK := fun hwk inv ht a w e s => by
  unfold wpOp
  simp only [hi]; rw [if_pos (e.wanted hw)]; refine .inl (Oper.wp_imp (hx a w e s) (fun a' w' ⟨v, h', ha, u, ht'⟩ => ?_) (fun _ _ _ f => f.elim)); subst ha; exact ⟨fun _ => hwk.sat (s.same u), rany_mono (fun _ t => t.drop) _ _ _ _ (k v h' ht' ⟨.inl rfl, hwk⟩ inv ht _ _ (e.put v hf) (s.new u))⟩
/-- What is made here may be turned ahead of the tail: nothing hoisted looks at it. -/
theorem rok_xb {i : Nat} {oi : Oper} {T : Value → PH → Prop} (hi : ops[i]? = some oi) (hw : wantK ops K oi.guard = some true) (hx : StepX P n w0 K HS oi emp T) (hf : fitsK n oi.dst = true)
    (k : ∀ v h', T v h' → RAK P n w0 ops m Q f (listed.setIfInBounds i true) (putK oi.dst v K) (h' :: HS) (emp :: HK)) : ROK P n w0 ops m Q f i listed K HS HK := fun hwk inv ht a w e s => by
  unfold wpOp
  simp only [hi]; rw [if_pos (e.wanted hw)]; refine .inl (Oper.wp_imp (hx a w e s) (fun a' w' ⟨v, h', ha, u, ht'⟩ => ?_) (fun _ _ _ f => f.elim)); subst ha; exact ⟨fun _ => hwk.sat (s.same u), rany_mono (fun _ t => t.drop) _ _ _ _ (k v h' ht' ⟨.inr rfl, hwk⟩ inv ht _ _ (e.put v hf) (s.new u))⟩
theorem rk_xb {r : List (Nat × Bool)} {i : Nat} {oi : Oper} {T : Value → PH → Prop} (hi : ops[i]? = some oi) (hw : wantK ops K oi.guard = some true) (hx : StepX P n w0 K HS oi emp T) (hf : fitsK n oi.dst = true)
    (k : ∀ v h', T v h' → RK P n w0 ops m Q r (listed.setIfInBounds i true) (putK oi.dst v K) (h' :: HS) (emp :: HK)) : RK P n w0 ops m Q ((i, false) :: r) listed K HS HK :=
  rk_only hi fun h1 h2 _ h4 h5 hwk a w e s => by
    unfold wpOp
    simp only [hi]; rw [if_pos (e.wanted hw)]; refine .inl (Oper.wp_imp (hx a w e s) (fun a' w' ⟨v, h', ha, u, ht⟩ => ?_) (fun _ _ _ f => f.elim)); subst ha; exact ⟨fun _ => hwk.sat (s.same u), rany_mono (fun _ t => t.drop) _ _ _ _ (k v h' ht ⟨.inr rfl, hwk⟩ (fun i' s' r' e' hlt => h5 (h1 i' s' r' e' hlt)) h2 h4 _ _ (e.put v hf) (s.new u))⟩
theorem rak_rk (order : List (Nat × Bool)) (hc : chk ops m order listed = true) (hl : f = order.length) (h : RK P n w0 ops m Q order listed K HS HK) : RAK P n w0 ops m Q f listed K HS HK := fun hwk inv ht a w e s => by
  rw [hl]; exact h hwk (fun _ _ _ _ _ => inv) hc ht a w e s
end
end Go.Proofs.YthlmjnihihbckaaGreat
namespace Go.Proofs.YthlmjnihihbckaaGreat
set_option maxRecDepth 100000
open Go.RowKit
def oneT (k p n : Int) : Ten := ⟨[], [], oneL k p n⟩
theorem one_ten {k p n : Int} (h : ringL k p n) : tensorL k p n (oneT k p n).l (oneT k p n).d (oneT k p n).x := by
  have hs : sizeI [] [] = 1 := by
    have : axesL [] [] := ⟨by decide, rfl, fun j hj => by simp at hj⟩
    rw [sizeI_yes this (by decide)]; rfl
  have ho := oneL_in h; have hw := width_range h; refine ⟨h, by simp only [oneT]; omega, ?_, ho.2⟩; have := ho.1; simp only [oneT]; rw [hs]
  omega
theorem one_mism (k p n : Int) (t : Ten) : ¬ mism t (oneT k p n) := by
  rintro ⟨i, hi, _⟩
  simp [oneT] at hi
theorem one_joinD (k p n : Int) (t : Ten) : joinD t (oneT k p n) = t.d := by simp [joinD, oneT, selP]
theorem keep_axes {k p n : Int} {t u : Ten} {f : Int → Int} {K : List Int} (ok : PairOK k p n t u f) (hs : ∀ l ∈ K, l ∈ joinI t.l u.l) (hn : K.Nodup) (h12 : K.length ≤ 12) : axesL K (K.map f) := by
  refine ⟨h12, by simp, fun j hj => ⟨?_, ?_, nodup_not_take hn hj⟩⟩
  · rcases mem_joinI.1 (hs _ (mem_getD hj)) with h | h
    · obtain ⟨i, hi, e⟩ := getD_of_mem h; rw [← e]; exact ((ten_axes ok.tt).2.2 i hi).1
    · obtain ⟨i, hi, e⟩ := getD_of_mem h; rw [← e]; exact ((ten_axes ok.uu).2.2 i hi).1
  · rw [map_getD hj]; exact ok.dim _ (hs _ (mem_getD hj))
theorem sum_pair {k p n : Int} {t : Ten} (h : tensorL k p n t.l t.d t.x) (ks : List Int) : pairP k p n t (oneT k p n) ks := by
  have h1 := one_ten h.1; have hm := one_mism k p n t; have hp := ten_prod h; have ok := pair_ok h h1 hm (by rw [one_joinD]; omega); have hd := pairP.dims h h1 hm; have ej := hd.2.2; refine ⟨h, h1, hm, by rw [one_joinD]; omega, sizeI_ge.2 ⟨keep_axes ok (fun l hl => (List.mem_filter.1 hl).1) (List.Pairwise.filter _ ok.nd) ?_, ?_⟩⟩
  · have h1 := List.length_filter_le (fun x => decide (x ∈ ks)) (joinI t.l (oneT k p n).l); have h2 := joinI_len t.l (oneT k p n).l; have h3 := (ten_axes h).1; have h4 : (oneT k p n).l.length = 0 := rfl
    unfold keepL
    omega
  · have hs := selP_prod (fun x => decide (x ∈ ks)) (joinI t.l (oneT k p n).l) (joinD t (oneT k p n)) (by rw [one_joinD]; exact fun d hd => (dims_mem (axes_dims (ten_axes h)) d hd).1); rw [ej, selP_map, ← ej, one_joinD] at hs; exact Int.le_trans hs.2 hp
open Classical in
noncomputable def sumR (k p n : Int) (t : Ten) (ks : List Int) : Ten := if tensorL k p n t.l t.d t.x then pairT k p n (dimJ t (oneT k p n)) t (oneT k p n) (keepL t (oneT k p n) ks) else ⟨[], [], []⟩
theorem sumR_no {k p n : Int} {t : Ten} {ks : List Int} (h : ¬ tensorL k p n t.l t.d t.x) : TenT (sumR k p n t ks) (tenV (.slice none 0 0) (.slice none 0 0) (.slice none 0 0)) emp := by
  rw [sumR, if_neg h]; exact ⟨_, _, _, rfl, triO_none⟩
theorem sumR_pair {k p n : Int} {t : Ten} {ks : List Int} (h : tensorL k p n t.l t.d t.x) : pairR k p n t (oneT k p n) ks = sumR k p n t ks := by
  rw [sumR, if_pos h, pairR, if_pos (sum_pair h ks)]
set_option maxHeartbeats 2000000 in
theorem ct_s_l08Sum (k p n : Int) (t : Ten) (ks : List Int) (a b c v : Value) (w : World) (r1 : IntsR t.l a (hp w)) (r2 : IntsR t.d b (hp w)) (r3 : IntsR t.x c (hp w)) (rk : IntsR ks v (hp w)) (ht : tensorL k p n t.l t.d t.x) :
    Calls Tryz.prog 100 [ringV k p n, tenV a b c, v].toArray w (Ret w emp (TenT (sumR k p n t ks))) := by
  have hring := ht.1; have hp := sum_pair ht ks; have ok := pair_ok hp.1 hp.2.1 hp.2.2.1 hp.2.2.2.1; have hk := keep_ok ok hp.2.2.2.2; have h12 := (sizeI_ge.1 hp.2.2.2.2).1.1; refine calls_in Tryz.func100 rfl Tryz.ntmps100 rfl (Sat.start w) ?_; have hle0 := r1.le; have hle1 := r2.le; have hle2 := r3.le; have hle3 := rk.le; refine wp_sc (wp_sq ?_); refine sq_x rfl (x_box rfl rfl) rfl ?_; rintro _ _ ⟨b3, rfl, rfl⟩; refine sq_x rfl (x_box rfl rfl) rfl ?_; rintro _ _ ⟨b4, rfl, rfl⟩; refine sq_x rfl (x_alloc ty_34 rfl) rfl ?_; rintro _ _ ⟨b6, rfl, rfl⟩; refine sq_end (qs_n (wp_sc (wp_rj 7 [(0, true), (1, true), (2, true), (5, true), (3, false), (4, true), (6, false), (7, false)] mixed_ok (by kernel_rfl) (rj_v rfl rfl (v_loadNB 2 ty_37 rfl rfl rfl rfl) rfl (rj_v rfl rfl (v_loadNB 1 ty_34 rfl rfl rfl rfl) rfl (rj_v rfl rfl (v_loadNB 2 ty_37 rfl rfl rfl rfl) rfl (rj_v rfl rfl (v_move rfl) rfl ?_))))))); refine rj_x rfl rfl (x_call rfl en_99 (fun w s => ct_s_l02One _ _ _ w (by first | assumption | omega))) rfl ?_; rintro v10 h10 r10; refine rj_v rfl rfl (v_build [.slice none 0 0, .slice none 0 0, v10] rfl (by obtain ⟨_, _, rfl⟩ := r10.toR.sl; kernel_rfl)) rfl ?_; refine rj_x rfl rfl (x_call rfl en_66 (fun w s => ct_s_l08Pair _ _ _ _ (oneT k p n) (dimJ t (oneT k p n)) (keepL t (oneT k p n) ks) _ _ _ _ _ _ _ _ w (r1.mono (s.get 4 rfl)) (r2.mono (s.get 4 rfl)) (r3.mono (s.get 4 rfl)) (IntsR.nil _) (IntsR.nil _) (r10.toR.mono (s.get 0 rfl)) (rk.mono (s.get 4 rfl)) ok rfl hk h12)) rfl ?_; rintro _ h13 ⟨va13, vb13, vc13, rfl, o13⟩; refine rj_m 2 rfl rfl rfl rfl (m_store 2 ty_34 rfl rfl rfl rfl (by simp [o13.toR.1.sl.one, o13.toR.2.1.sl.one, o13.toR.2.2.sl.one]) rfl (Nat.le_of_ble_eq_true rfl)) rfl ?_; rintro _ _ ⟨rfl, rfl⟩; refine rj_end (qs_n (wp_rt ?_)); exact qs_retc 2 rfl ty_34 rfl rfl rfl (fin_t 0 (i := 5) rfl rfl rfl (by rw [sumR, if_pos ht]; exact ⟨_, _, _, rfl, o13⟩))
set_option maxHeartbeats 2000000 in
theorem ct_i_SumLabels (k p n : Int) (t : Ten) (ks : List Int) (a b c v : Value) (w : World) (r1 : IntsR t.l a (hp w)) (r2 : IntsR t.d b (hp w)) (r3 : IntsR t.x c (hp w)) (rk : IntsR ks v (hp w)) :
    Calls Tryz.prog 60 [ringV k p n, tenV a b c, v].toArray w (Ret w emp (TenT (sumR k p n t ks))) := by
  refine calls_in Tryz.func60 rfl Tryz.ntmps60 rfl (Sat.start w) ?_; have hle0 := r1.le; have hle1 := r2.le; have hle2 := r3.le; have hle3 := rk.le; refine wp_sc (wp_sq ?_); refine sq_x rfl (x_box rfl rfl) rfl ?_; rintro _ _ ⟨b3, rfl, rfl⟩; refine sq_x rfl (x_box rfl rfl) rfl ?_; rintro _ _ ⟨b4, rfl, rfl⟩; refine sq_x rfl (x_alloc ty_34 rfl) rfl ?_; rintro _ _ ⟨b6, rfl, rfl⟩; refine sq_end (qs_n (wp_sc (wp_sc (wp_sq (sq_v rfl (v_loadNB 2 ty_37 rfl rfl rfl rfl) rfl (sq_v rfl (v_loadNB 1 ty_34 rfl rfl rfl rfl) rfl (sq_u rfl (x_callv rfl en_127 (fun w s => ct_i_TensorOk _ _ _ _ _ _ _ _ _ w (r1.mono (s.get 3 rfl)) (r2.mono (s.get 3 rfl)) (r3.mono (s.get 3 rfl)))) rfl (sq_v rfl (v_not rfl) rfl (sq_end (qs_n ?_)))))))))); refine wp_cn _ rfl (fun c12 => ?_) (fun c12 => ?_)
  · refine wp_sc (wp_sq (sq_v rfl (v_build [.slice none 0 0, .slice none 0 0, .slice none 0 0] rfl (by kernel_rfl)) rfl ?_)); refine sq_m 0 rfl rfl (m_store 0 ty_34 rfl rfl rfl rfl (by simp [one_sl]) rfl (Nat.le_of_ble_eq_true rfl)) rfl ?_; rintro _ _ ⟨rfl, rfl⟩; refine sq_end (qs_n (wp_rt (qs_r ?_))); exact qs_retc 0 rfl ty_34 rfl rfl rfl (fin_e (i := 3) rfl (sumR_no (tensorB_false.1 c12)))
  · refine wp_sk (qs_n (wp_sc ?_)); refine wp_ra (σ := Nat × PH × PH × Value × Value × Value × Value × Value × Value) 11 (fun z_ => TriO ⟨[], [], oneL k p n⟩ z_.2.2.2.1 z_.2.2.2.2.1 z_.2.2.2.2.2.1 z_.2.2.1 ∧ TriO (pairR k p n t ⟨[], [], oneL k p n⟩ ks) z_.2.2.2.2.2.2.1 z_.2.2.2.2.2.2.2.1 z_.2.2.2.2.2.2.2.2 z_.2.1) (fun z_ => [(6, .pointer (some ⟨b6, 0, none⟩)), (7, .pointer (some ⟨z_.1, 0, none⟩)), (12, .bool (!(tensorB k p n t.l t.d t.x)))]) (fun z_ => [box z_.1 [z_.2.2.2.2.2.2.1, z_.2.2.2.2.2.2.2.1, z_.2.2.2.2.2.2.2.2] 34, z_.2.1, z_.2.2.1, box b6 [.slice none 0 0, .slice none 0 0, .slice none 0 0] 34, box b4 [a, b, c] 34, box b3 [num k, num p, num n] 37, hp w]) mixed_ok (by kernel_rfl) ?_ ?_
    · refine rak_of ?_; have ht := tensorB_true.1 c12; have hring := ht.1; refine rak_v (i := 0) (by kernel_rfl) rfl rfl (v_loadNB 2 ty_37 rfl rfl rfl rfl) rfl (rak_v (i := 1) (by kernel_rfl) rfl rfl (v_loadNB 1 ty_34 rfl rfl rfl rfl) rfl (rak_v (i := 2) (by kernel_rfl) rfl rfl (v_loadNB 2 ty_37 rfl rfl rfl rfl) rfl (rak_v (i := 4) (by kernel_rfl) rfl rfl (v_move rfl) rfl ?_))); refine rak_2 (i := 3) (j := 9) (by kernel_rfl) ?_ ?_
      · refine rok_x rfl rfl (x_call rfl en_103 (fun w s => ct_i_scalarOne _ _ _ w (by first | assumption | omega))) rfl ?_; rintro _ h18 ⟨va18, vb18, vc18, rfl, o18⟩; refine rak_2 (i := 5) (j := 9) (by kernel_rfl) ?_ ?_
        · refine rok_x rfl rfl (x_call rfl en_73 (fun w s => ct_i_ContractPair _ _ _ _ _ _ _ _ _ _ _ _ _ w (r1.mono (s.get 4 rfl)) (r2.mono (s.get 4 rfl)) (r3.mono (s.get 4 rfl)) (o18.toR.1.mono (s.get 0 rfl)) (o18.toR.2.1.mono (s.get 0 rfl)) (o18.toR.2.2.mono (s.get 0 rfl)) (rk.mono (s.get 4 rfl)))) rfl ?_; rintro _ h20 ⟨va20, vb20, vc20, rfl, o20⟩; refine rak_rk [(6, true), (7, true), (8, true), (9, false), (10, false), (11, false)] (by kernel_rfl) rfl (rk_v rfl rfl (v_move rfl) rfl (rk_v rfl rfl (v_extract rfl rfl) rfl (rk_v rfl rfl (v_extract rfl rfl) rfl ?_))); refine rk_xb rfl rfl (x_alloc ty_34 rfl) rfl ?_; rintro _ _ ⟨b7, rfl, rfl⟩; refine rk_m 0 rfl rfl rfl rfl (m_store 0 ty_34 rfl rfl rfl rfl (by simp [o20.toR.1.sl.one, o20.toR.2.1.sl.one, o20.toR.2.2.sl.one]) rfl (Nat.le_of_ble_eq_true rfl)) rfl ?_; rintro _ _ ⟨rfl, rfl⟩; refine rk_fv rfl rfl (v_assign rfl) rfl (rk_end ?_); exact qs_mid (b7, h20, h18, va18, vb18, vc18, va20, vb20, vc20) ⟨o18, o20⟩ ⟨rfl, rfl, rfl, trivial⟩ (fun _ s => s.pick [0, 1, 2, 3, 4, 5, 6] (by decide) rfl)
        · refine rok_xb rfl rfl (x_alloc ty_34 rfl) rfl ?_; rintro _ _ ⟨b7, rfl, rfl⟩; refine rak_rk [(5, false), (6, true), (7, true), (8, true), (10, false), (11, false)] (by kernel_rfl) rfl ?_; refine rk_x rfl rfl (x_call rfl en_73 (fun w s => ct_i_ContractPair _ _ _ _ _ _ _ _ _ _ _ _ _ w (r1.mono (s.get 5 rfl)) (r2.mono (s.get 5 rfl)) (r3.mono (s.get 5 rfl)) (o18.toR.1.mono (s.get 1 rfl)) (o18.toR.2.1.mono (s.get 1 rfl)) (o18.toR.2.2.mono (s.get 1 rfl)) (rk.mono (s.get 5 rfl)))) rfl ?_; rintro _ h20 ⟨va20, vb20, vc20, rfl, o20⟩; refine rk_v rfl rfl (v_move rfl) rfl (rk_v rfl rfl (v_extract rfl rfl) rfl (rk_v rfl rfl (v_extract rfl rfl) rfl ?_)); refine rk_m 1 rfl rfl rfl rfl (m_store 1 ty_34 rfl rfl rfl rfl (by simp [o20.toR.1.sl.one, o20.toR.2.1.sl.one, o20.toR.2.2.sl.one]) rfl (Nat.le_of_ble_eq_true rfl)) rfl ?_; rintro _ _ ⟨rfl, rfl⟩; refine rk_fv rfl rfl (v_assign rfl) rfl (rk_end ?_); exact qs_mid (b7, h20, h18, va18, vb18, vc18, va20, vb20, vc20) ⟨o18, o20⟩ ⟨rfl, rfl, rfl, trivial⟩ (fun _ s => s.pick [1, 0, 2, 3, 4, 5, 6] (by decide) rfl)
      · refine rok_xb rfl rfl (x_alloc ty_34 rfl) rfl ?_; rintro _ _ ⟨b7, rfl, rfl⟩; refine rak_rk [(3, false), (5, false), (6, true), (7, true), (8, true), (10, false), (11, false)] (by kernel_rfl) rfl ?_; refine rk_x rfl rfl (x_call rfl en_103 (fun w s => ct_i_scalarOne _ _ _ w (by first | assumption | omega))) rfl ?_; rintro _ h18 ⟨va18, vb18, vc18, rfl, o18⟩; refine rk_x rfl rfl (x_call rfl en_73 (fun w s => ct_i_ContractPair _ _ _ _ _ _ _ _ _ _ _ _ _ w (r1.mono (s.get 5 rfl)) (r2.mono (s.get 5 rfl)) (r3.mono (s.get 5 rfl)) (o18.toR.1.mono (s.get 0 rfl)) (o18.toR.2.1.mono (s.get 0 rfl)) (o18.toR.2.2.mono (s.get 0 rfl)) (rk.mono (s.get 5 rfl)))) rfl ?_; rintro _ h20 ⟨va20, vb20, vc20, rfl, o20⟩; refine rk_v rfl rfl (v_move rfl) rfl (rk_v rfl rfl (v_extract rfl rfl) rfl (rk_v rfl rfl (v_extract rfl rfl) rfl ?_)); refine rk_m 2 rfl rfl rfl rfl (m_store 2 ty_34 rfl rfl rfl rfl (by simp [o20.toR.1.sl.one, o20.toR.2.1.sl.one, o20.toR.2.2.sl.one]) rfl (Nat.le_of_ble_eq_true rfl)) rfl ?_; rintro _ _ ⟨rfl, rfl⟩; refine rk_fv rfl rfl (v_assign rfl) rfl (rk_end ?_); exact qs_mid (b7, h20, h18, va18, vb18, vc18, va20, vb20, vc20) ⟨o18, o20⟩ ⟨rfl, rfl, rfl, trivial⟩ (fun _ s => s.pick [2, 0, 1, 3, 4, 5, 6] (by decide) rfl)
    · rintro ⟨b7, h20, h18, va18, vb18, vc18, va20, vb20, vc20⟩ ⟨o18, o20⟩; dsimp only at o18 o20 ⊢; refine qs_n (wp_sc (wp_sq (sq_v rfl (v_loadNB 0 ty_34 rfl rfl rfl rfl) rfl ?_))); refine sq_m 3 rfl rfl (m_store 3 ty_34 rfl rfl rfl rfl (by simp [o20.toR.1.sl.one, o20.toR.2.1.sl.one, o20.toR.2.2.sl.one]) rfl (Nat.le_of_ble_eq_true rfl)) rfl ?_; rintro _ _ ⟨rfl, rfl⟩; refine sq_end (qs_n (wp_rt ?_)); exact qs_retc 3 rfl ty_34 rfl rfl rfl (fin_t 1 (i := 6) rfl rfl rfl (by have ht := tensorB_true.1 c12; rw [← sumR_pair ht]; exact ⟨_, _, _, rfl, o20⟩))
end Go.Proofs.YthlmjnihihbckaaGreat
namespace Go.Proofs.YthlmjnihihbckaaGreat
set_option maxRecDepth 100000
open Go.RowKit
def TensL (ts : List Ten) (cs : List Value) (h : PH) : Prop := cs.length = ts.length * 3 ∧ ∀ (i : Nat) (t : Ten), ts[i]? = some t → TenR t ((cs.drop (i * 3)).take 3) h
theorem TensL.nil (h : PH) : TensL [] [] h := ⟨rfl, fun i x e => by simp at e⟩
theorem TensL.mono {ts : List Ten} {cs : List Value} {h h' : PH} (r : TensL ts cs h) (l : PLe h h') : TensL ts cs h' := ⟨r.1, fun i x e => (r.2 i x e).mono l⟩
theorem TensL.snoc {ts : List Ten} {cs : List Value} {h : PH} (r : TensL ts cs h) {t : Ten} {a b c : Value} (r1 : IntsR t.l a h) (r2 : IntsR t.d b h) (r3 : IntsR t.x c h) : TensL (ts ++ [t]) (cs ++ [a, b, c]) h := by
  refine ⟨by simp [r.1]; omega, fun i y e => ?_⟩
  by_cases hi : i < ts.length
  · rw [List.getElem?_append_left hi] at e; have := r.2 i y e; have e2 : ((cs ++ [a, b, c]).drop (i * 3)).take 3 = (cs.drop (i * 3)).take 3 := by
      rw [List.drop_append, List.take_append]; have hl : 3 - (cs.drop (i * 3)).length = 0 := by simp [r.1]; omega
      rw [hl, List.take_zero, List.append_nil]
    rw [e2]; exact this
  · have hlt := (List.getElem?_eq_some_iff.1 e).1
    simp at hlt
    have : i = ts.length := by omega
    subst this; rw [List.getElem?_append_right (by omega)] at e
    simp at e
    subst e; have e2 : ((cs ++ [a, b, c]).drop (ts.length * 3)).take 3 = [a, b, c] := by
      rw [← r.1, List.drop_left]; rfl
    rw [e2]; exact ⟨a, b, c, rfl, r1, r2, r3⟩
theorem TensL.tens {ts : List Ten} {cs : List Value} {v : Value} {h : PH} (r : TensL ts cs h) (rr : RowR cs ts.length 3 v h) : TensR ts v h := ⟨cs, rr, r.2⟩
theorem PDj.rest {w : World} {h hs : PH} (l : PLe hs h) : PDj hs (restP w h) := fun k => by
  cases e : hs k with
  | none => exact .inl rfl
  | some o => right; simp [restP, l k o e]
theorem Sat.join {w0 w : World} {HS : List PH} {a b : PH} (s : Sat w0 (a :: b :: HS) w) : Sat w0 (PUn a b :: HS) w := s.merge
def shTens (f : Int → Int) (s : Sh) : List Ten := s.all.map fun l => ⟨l, l.map f, []⟩
theorem shTens_len (f : Int → Int) (s : Sh) : (shTens f s).length = s.all.length := by simp [shTens]
structure SpR (f : Int → Int) (s : Sh) (va vg : Value) (b : Nat) (h : PH) : Prop where
  ok : s.ok
  c0 : cellP h b 0 = some va
  c1 : cellP h b 1 = some vg
  all : TensR (shTens f s) va h
  gone : BoolsR s.gone vg h
def SpO (f : Int → Int) (s : Sh) (bb : Nat) (h q : PH) : Prop :=
  s.ok ∧ ∃ va vg ha hg hs cs, RowO 34 cs s.all.length 3 va ha ∧ BoolsO s.gone vg hg ∧ TensL (shTens f s) cs (PUn hs q) ∧ Made h [box bb [va, vg] 220, ha, hg, hs]
theorem SpR.of {f : Int → Int} {s : Sh} {va vg : Value} {bb : Nat} {h ha hg X : PH} {cs : List Value} (hok : s.ok) (hb : PLe (box bb [va, vg] 220) h) (ra : RowO 34 cs s.all.length 3 va ha) (la : PLe ha h) (rt : TensL (shTens f s) cs X) (lx : PLe X h) (rg : BoolsO s.gone vg hg) (lg : PLe hg h) : SpR f s va vg bb h :=
  ⟨hok, cellP.mono hb (by rw [cellP_box]; rfl), cellP.mono hb (by rw [cellP_box]; rfl), (rt.mono lx).tens (by rw [shTens_len]; exact ra.toR.mono la), rg.toR.mono lg⟩
end Go.Proofs.YthlmjnihihbckaaGreat
namespace Go.Proofs.YthlmjnihihbckaaGreat
set_option maxRecDepth 100000
open Go.RowKit
/-- The world's heap once more. -/
theorem Sat.whole {w0 w : World} {HS : List PH} {q : PH} (lq : PLe q (hp w0)) (s : Sat w0 (q :: restP w0 q :: HS) w) : Sat w0 (HS ++ [hp w0]) w := by
  have l : PLe (hp w0) (PUn q (restP w0 q)) := fun k o e => by
    unfold PUn restP
    cases hq : q k with
    | none => simp [e]
    | some o' => have := lq k o' hq; rw [e] at this; simp [this]
  have s1 := Sat.less (i := 0) s.merge rfl l; exact Sat.comm (A := [hp w0]) (B := HS) s1
theorem net_dmap {k p n : Int} {ts : List Ten} {op : List Int} (h : netL k p n ts op) : ∀ t ∈ ts, t.d = t.l.map (dimOf ts) := fun t ht => by
  have hax := net_axes h t ht; refine ext_getD (by rw [List.length_map, hax.2.1]) fun j hj => ?_; have hj' : j < t.l.length := by rw [hax.2.1]; exact hj
  rw [map_getD hj', net_dim h ht (mem_getD hj'), find_at hax hj', Int.toNat_natCast]
end Go.Proofs.YthlmjnihihbckaaGreat
namespace Go.Proofs.YthlmjnihihbckaaGreat
set_option maxRecDepth 100000
open Go.RowKit
theorem SpO.toR {f : Int → Int} {s : Sh} {bb : Nat} {h q H : PH} (r : SpO f s bb h q) (l : PLe h H) (lq : PLe q H) : ∃ va vg, SpR f s va vg bb H := by
  obtain ⟨hok, va, vg, ha, hg, hs, cs, ra, rg, rt, md⟩ := r; exact ⟨va, vg, SpR.of hok ((md.le _ (by simp)).trans l) ra ((md.le ha (by simp)).trans l) rt (PUn.le ((md.le hs (by simp)).trans l) lq) rg ((md.le hg (by simp)).trans l)⟩
theorem stepOk_at {op : List Int} {s : Sh} {ss : List Stp} (h : okSteps op s ss) {i : Nat} {x : Stp} (hx : ss[i]? = some x) : stepOk (shTo op s (ss.take i)) x := h i (List.getElem?_eq_some_iff.1 hx).1 x hx
theorem stepCells_take : ∀ (ss : List Stp) (n : Nat), stepCells (ss.take n) = (stepCells ss).take (n * 2)
  | [], n => by simp [stepCells]
  | s :: r, 0 => by simp [stepCells]
  | s :: r, n + 1 => by
    have := stepCells_take r n; rw [List.take_succ_cons, show (n + 1) * 2 = n * 2 + 1 + 1 by omega]
    show [num s.a, num s.b] ++ stepCells (r.take n) = ([num s.a, num s.b] ++ stepCells r).take (n * 2 + 1 + 1)
    rw [this]; rfl
theorem StepsR.subH {ss : List Stp} {v : Value} {h : PH} (r : StepsR ss v h) {hi : Nat} (h2 : hi ≤ ss.length) : StepsR (ss.take hi) (subV v 0 hi 2) h := by
  have := RowR.sub r (Nat.zero_le hi) h2
  unfold StepsR
  rw [stepCells_take, List.length_take, Nat.min_eq_left h2]
  simpa using this
end Go.Proofs.YthlmjnihihbckaaGreat
namespace Go.Proofs.YthlmjnihihbckaaGreat
set_option maxRecDepth 100000
open Go.RowKit
theorem two_off : ∀ {l : List Nat} (_ : l.Nodup) {a b : Nat}, a ∈ l → b ∈ l → a ≠ b → (l.filter fun i => decide (i ≠ a ∧ i ≠ b)).length + 2 = l.length := by
  intro l hn a b ha hb hab; have hp := List.perm_cons_erase ha; have hb' : b ∈ l.erase a := (List.mem_erase_of_ne (Ne.symm hab)).2 hb; have hp2 := List.perm_cons_erase hb'; have hn2 : (l.erase a).Nodup := hn.erase a; have e : l.filter (fun i => decide (i ≠ a ∧ i ≠ b)) = (l.erase a).erase b := by
    rw [List.Nodup.erase_eq_filter hn a, List.Nodup.erase_eq_filter (List.Pairwise.filter _ hn) b, List.filter_filter]
    apply List.filter_congr
    intro i _; rw [Bool.eq_iff_iff]
    simp [and_comm]
  have h1 := hp.length_eq; have h2 := hp2.length_eq; simp only [List.length_cons] at h1 h2; rw [e]
  omega
theorem step_count {op : List Int} {s : Sh} (h : s.ok) {a b : Nat} (ha : a ∈ s.ixs) (hb : b ∈ s.ixs) (hab : a ≠ b) : (s.step op a b).ixs.length + 1 = s.ixs.length := by
  have := two_off (ixs_nodup s) ha hb hab; rw [step_ixs h, List.length_append, List.length_singleton]
  omega
theorem steps_count {op : List Int} {s : Sh} (h : s.fine) {ss : List Stp} (hok : okSteps op s ss) : ∀ i, i ≤ ss.length → (shTo op s (ss.take i)).ixs.length + i = s.ixs.length
  | 0, _ => by simp [shTo]
  | i + 1, hi => by
    have ih := steps_count h hok i (by omega); have hx : ss[i]? = some ss[i] := List.getElem?_eq_getElem (by omega); have hst := stepOk_at hok hx; have h1 := live_ixs.1 hst.1; have h2 := live_ixs.1 hst.2.1; rw [shTo_step hx]; have := step_count (op := op) (shTo_fine h (ss.take i)).1 h1.2 h2.2 (by have := hst.2.2; omega)
    omega
end Go.Proofs.YthlmjnihihbckaaGreat
namespace Go.Proofs.YthlmjnihihbckaaGreat
set_option maxRecDepth 100000
open Go.RowKit
abbrev noTen : Ten := ⟨[], [], []⟩
theorem dimJ_f {t u : Ten} {f : Int → Int} (ht : t.d = t.l.map f) (hu : u.d = u.l.map f) {x : Int} (hx : x ∈ joinI t.l u.l) : dimJ t u x = f x := by
  unfold dimJ
  by_cases h : x ∈ t.l
  · rw [if_pos h, ht, map_getD (findI_get h).1, (findI_get h).2]
  · have h2 := (mem_joinI.1 hx).resolve_left h; rw [if_neg h, hu, map_getD (findI_get h2).1, (findI_get h2).2]
theorem keep_map {t u : Ten} {f : Int → Int} (ht : t.d = t.l.map f) (hu : u.d = u.l.map f) (ks : List Int) : (keepL t u ks).map (dimJ t u) = (keepL t u ks).map f :=
  List.map_congr_left fun _ hx => dimJ_f ht hu (List.mem_filter.1 hx).1
theorem pair_ten {k p n : Int} {t u : Ten} {ks : List Int} (h : pairP k p n t u ks) : tensorL k p n (pairR k p n t u ks).l (pairR k p n t u ks).d (pairR k p n t u ks).x ∧ (pairR k p n t u ks).l = keepL t u ks ∧ (pairR k p n t u ks).d = (keepL t u ks).map (dimJ t u) := by
  have ok := pair_ok h.1 h.2.1 h.2.2.1 h.2.2.2.1; have hk := keep_ok ok h.2.2.2.2; have ha := ok.all hk (prodI ((joinI t.l u.l).map (dimJ t u))).toNat; have hs := sizeI_ge.1 h.2.2.2.2; rw [pairR, if_pos h]; refine ⟨⟨h.1.1, h.2.2.2.2, ?_, ha.2⟩, rfl, rfl⟩
  show ((pairX k p n (dimJ t u) t u (keepL t u ks) _).length : Int) = sizeI (keepL t u ks) ((keepL t u ks).map (dimJ t u)) * widthI k n
  rw [sizeI_yes hs.1 hs.2]; exact ha.1
theorem pairP_iff {k p n : Int} {t u : Ten} {f : Int → Int} {ks : List Int} (h1 : tensorL k p n t.l t.d t.x) (h2 : tensorL k p n u.l u.d u.x) (ht : t.d = t.l.map f) (hu : u.d = u.l.map f) :
    pairP k p n t u ks ↔ prodI ((joinI t.l u.l).map f) ≤ 65536 ∧ 0 ≤ sizeI (keepL t u ks) ((keepL t u ks).map f) := by
  unfold pairP
  rw [joinD_map ht hu, keep_map ht hu]; exact ⟨fun h => ⟨h.2.2.2.1, h.2.2.2.2⟩, fun h => ⟨h1, h2, mism_not ht hu, h.1, h.2⟩⟩
theorem keepL_self {t u : Ten} {q : Int → Bool} : keepL t u ((joinI t.l u.l).filter q) = (joinI t.l u.l).filter q := by
  unfold keepL
  refine List.filter_congr fun x hx => ?_; rw [Bool.eq_iff_iff, decide_eq_true_eq, List.mem_filter]; exact ⟨fun h => h.2, fun h => ⟨hx, h⟩⟩
theorem keepL_congr {t u : Ten} {a b : List Int} (h : ∀ x, x ∈ a ↔ x ∈ b) : keepL t u a = keepL t u b := by
  unfold keepL
  refine List.filter_congr fun x _ => ?_; rw [Bool.eq_iff_iff, decide_eq_true_eq, decide_eq_true_eq]; exact h x
theorem pairR_congr {k p n : Int} {t u : Ten} {a b : List Int} (h : ∀ x, x ∈ a ↔ x ∈ b) : pairR k p n t u a = pairR k p n t u b ∧ pairB k p n t u a = pairB k p n t u b ∧ (pairP k p n t u a ↔ pairP k p n t u b) := by
  have e := keepL_congr (t := t) (u := u) h; have e2 : pairP k p n t u a = pairP k p n t u b := by unfold pairP; rw [e]
  refine ⟨?_, ?_, by rw [e2]⟩
  · unfold pairR; rw [e2, e]
  · unfold pairB; rw [e2]
theorem pairB_true {k p n : Int} {t u : Ten} {a : List Int} : pairB k p n t u a = true ↔ pairP k p n t u a := by simp [pairB]
theorem pairB_false {k p n : Int} {t u : Ten} {a : List Int} : pairB k p n t u a = false ↔ ¬ pairP k p n t u a := by simp [pairB]
def stpAt (ss : List Stp) (i : Nat) : Stp := ss.getD i ⟨0, 0⟩
theorem stpAt_of {ss : List Stp} {i : Nat} {x : Stp} (h : ss[i]? = some x) : stpAt ss i = x := by simp [stpAt, List.getD, h]
noncomputable def runS (ts : List Ten) (op : List Int) (ss : List Stp) (i : Nat) : Sh := shTo op (sh0 ts) (ss.take i)
noncomputable def runK (ts : List Ten) (op : List Int) (ss : List Stp) (i : Nat) : List Int := (runS ts op ss i).res op (stpAt ss i).a.toNat (stpAt ss i).b.toNat
noncomputable def runTo (k p n : Int) (ts : List Ten) (op : List Int) (ss : List Stp) : Nat → List Ten
  | 0 => ts
  | i + 1 => runTo k p n ts op ss i ++ [pairR k p n ((runTo k p n ts op ss i).getD (stpAt ss i).a.toNat noTen) ((runTo k p n ts op ss i).getD (stpAt ss i).b.toNat noTen) (runK ts op ss i)]
noncomputable def runA (k p n : Int) (ts : List Ten) (op : List Int) (ss : List Stp) (i : Nat) : Ten := (runTo k p n ts op ss i).getD (stpAt ss i).a.toNat noTen
noncomputable def runB (k p n : Int) (ts : List Ten) (op : List Int) (ss : List Stp) (i : Nat) : Ten := (runTo k p n ts op ss i).getD (stpAt ss i).b.toNat noTen
def runFit (k p n : Int) (ts : List Ten) (op : List Int) (ss : List Stp) (i : Nat) : Prop := pairP k p n (runA k p n ts op ss i) (runB k p n ts op ss i) (runK ts op ss i)
structure RunOK (k p n : Int) (ts : List Ten) (op : List Int) (ss : List Stp) (i : Nat) : Prop where
  len : (runTo k p n ts op ss i).length = ts.length + i
  ten : ∀ (j : Nat) (t : Ten), (runTo k p n ts op ss i)[j]? = some t → tensorL k p n t.l t.d t.x ∧ t.l = (runS ts op ss i).lab j ∧ t.d = t.l.map (dimOf ts)
section
variable {k p n : Int} {ts : List Ten} {op : List Int} {ss : List Stp}
theorem runTo_step (i : Nat) : runTo k p n ts op ss (i + 1) = runTo k p n ts op ss i ++ [pairR k p n (runA k p n ts op ss i) (runB k p n ts op ss i) (runK ts op ss i)] := rfl
theorem RunOK.get {i : Nat} (r : RunOK k p n ts op ss i) {j : Nat} (hj : j < ts.length + i) : tensorL k p n ((runTo k p n ts op ss i).getD j noTen).l ((runTo k p n ts op ss i).getD j noTen).d ((runTo k p n ts op ss i).getD j noTen).x ∧
    ((runTo k p n ts op ss i).getD j noTen).l = (runS ts op ss i).lab j ∧ ((runTo k p n ts op ss i).getD j noTen).d = ((runTo k p n ts op ss i).getD j noTen).l.map (dimOf ts) := by
  have hlt : j < (runTo k p n ts op ss i).length := by rw [r.len]; exact hj
  have h := r.ten j _ (List.getElem?_eq_getElem hlt); have e2 : (runTo k p n ts op ss i).getD j noTen = (runTo k p n ts op ss i)[j] := by simp [List.getD, List.getElem?_eq_getElem hlt]
  rw [e2]; exact h
theorem run_step (h : orderL k p n ts op ss) {i : Nat} (hi : i < ss.length) : stepOk (runS ts op ss i) (stpAt ss i) ∧ runS ts op ss (i + 1) = (runS ts op ss i).step op (stpAt ss i).a.toNat (stpAt ss i).b.toNat ∧ (runS ts op ss i).all.length = ts.length + i := by
  have hx : ss[i]? = some ss[i] := List.getElem?_eq_getElem hi; refine ⟨?_, ?_, ?_⟩
  · rw [stpAt_of hx]; exact h.2.2 i hi _ hx
  · rw [stpAt_of hx]; exact shTo_step hx
  · rw [runS, shTo_all, show (sh0 ts).all.length = ts.length by simp [sh0], List.length_take]; omega
theorem run_fine (h : netL k p n ts op) (i : Nat) : (runS ts op ss i).fine := shTo_fine (sh0_fine (net_axes h)) _
theorem RunOK.two {i : Nat} (r : RunOK k p n ts op ss i) (h : orderL k p n ts op ss) (hi : i < ss.length) :
    (tensorL k p n (runA k p n ts op ss i).l (runA k p n ts op ss i).d (runA k p n ts op ss i).x ∧ (runA k p n ts op ss i).l = (runS ts op ss i).lab (stpAt ss i).a.toNat ∧ (runA k p n ts op ss i).d = (runA k p n ts op ss i).l.map (dimOf ts)) ∧
    (tensorL k p n (runB k p n ts op ss i).l (runB k p n ts op ss i).d (runB k p n ts op ss i).x ∧ (runB k p n ts op ss i).l = (runS ts op ss i).lab (stpAt ss i).b.toNat ∧ (runB k p n ts op ss i).d = (runB k p n ts op ss i).l.map (dimOf ts)) := by
  obtain ⟨⟨⟨a0, a1, _⟩, ⟨b0, b1, _⟩, _⟩, _, hl⟩ := run_step h hi; exact ⟨r.get (by omega), r.get (by omega)⟩
theorem RunOK.kept {i : Nat} (r : RunOK k p n ts op ss i) (h : orderL k p n ts op ss) (hi : i < ss.length) : keepL (runA k p n ts op ss i) (runB k p n ts op ss i) (runK ts op ss i) = runK ts op ss i := by
  obtain ⟨⟨_, la, _⟩, ⟨_, lb, _⟩⟩ := r.two h hi; have e : runK ts op ss i = (joinI (runA k p n ts op ss i).l (runB k p n ts op ss i).l).filter fun x => @decide ((runS ts op ss i).kept op (stpAt ss i).a.toNat (stpAt ss i).b.toNat x) (Classical.propDecidable _) := by rw [la, lb]; rfl
  rw [e]; exact keepL_self
theorem RunOK.step {i : Nat} (r : RunOK k p n ts op ss i) (h : orderL k p n ts op ss) (hi : i < ss.length) (hf : runFit k p n ts op ss i) : RunOK k p n ts op ss (i + 1) := by
  obtain ⟨hst, hs1, hl⟩ := run_step h hi; obtain ⟨⟨ta, la, da⟩, ⟨tb, lb, db⟩⟩ := r.two h hi; have hk := r.kept h hi; obtain ⟨p1, p2, p3⟩ := pair_ten hf; rw [keep_map da db, hk] at p3; rw [hk] at p2; refine ⟨by rw [runTo_step, List.length_append, r.len]; simp; omega, fun j t hj => ?_⟩; rw [runTo_step] at hj
  rcases Nat.lt_or_ge j (runTo k p n ts op ss i).length with hlt | hge
  · rw [List.getElem?_append_left hlt] at hj; have := r.ten j t hj; rw [hs1, step_lab (by rw [hl, ← r.len]; exact hlt)]; exact this
  · rw [List.getElem?_append_right hge] at hj; have e0 : j - (runTo k p n ts op ss i).length = 0 := by
      rcases Nat.eq_zero_or_pos (j - (runTo k p n ts op ss i).length) with h0 | h0
      · exact h0
      · rw [List.getElem?_eq_none (by simp; omega)] at hj; cases hj
    rw [e0] at hj
    simp at hj
    subst hj; refine ⟨p1, ?_, ?_⟩
    · rw [p2, hs1, show j = (runS ts op ss i).all.length by rw [hl, ← r.len]; omega, step_lab_new]; rfl
    · rw [p2, p3]
theorem run_ok (h : orderL k p n ts op ss) : ∀ i, i ≤ ss.length → (∀ j, j < i → runFit k p n ts op ss j) → RunOK k p n ts op ss i
  | 0, _, _ => by
    refine ⟨rfl, fun j t hj => ?_⟩; have hj' : ts[j]? = some t := hj; have hm := List.mem_of_getElem? hj'; exact ⟨h.1.2.2.1 t hm, by simp [runS, shTo, Sh.lab, sh0, List.getD, hj'], net_dmap h.1 t hm⟩
  | i + 1, hi, hf => (run_ok h i (by omega) fun j hj => hf j (by omega)).step h (by omega) (hf i (by omega))
/-- The rows of m cells but those at p and q, of the first k. -/
def dropK {α : Type} (m : Nat) (cs : List α) (p q : Nat) : Nat → List α
  | 0 => []
  | k + 1 => if k ≠ p ∧ k ≠ q then dropK m cs p q k ++ (cs.drop (k * m)).take m else dropK m cs p q k
theorem dropK_yes {α : Type} {m : Nat} {cs : List α} {p q k : Nat} (h : k ≠ p ∧ k ≠ q) : dropK m cs p q (k + 1) = dropK m cs p q k ++ (cs.drop (k * m)).take m := by rw [dropK, if_pos h]
theorem dropK_no {α : Type} {m : Nat} {cs : List α} {p q k : Nat} (h : ¬ (k ≠ p ∧ k ≠ q)) : dropK m cs p q (k + 1) = dropK m cs p q k := by rw [dropK, if_neg h]
theorem one_drop {α : Type} {l : List α} {k : Nat} {x : α} (h : l[k]? = some x) : (l.drop (k * 1)).take 1 = [x] := by
  obtain ⟨hk, rfl⟩ := List.getElem?_eq_some_iff.1 h; rw [Nat.mul_one, List.drop_eq_getElem_cons hk]; rfl
theorem dropK_len {α : Type} {m : Nat} {cs : List α} {p q : Nat} : ∀ k, (dropK m cs p q k).length ≤ k * m
  | 0 => by simp [dropK]
  | k + 1 => by
    have ih := dropK_len (m := m) (cs := cs) (p := p) (q := q) k; have e : (k + 1) * m = k * m + m := by rw [Nat.add_mul, Nat.one_mul]
    by_cases h : k ≠ p ∧ k ≠ q
    · rw [dropK_yes h, List.length_append, List.length_take]; omega
    · rw [dropK_no h]; omega
noncomputable def outTo (k p n : Int) (ts : List Ten) (op : List Int) (ss : List Stp) (i : Nat) : List Ten := (runS ts op ss i).ixs.map fun j => (runTo k p n ts op ss i).getD j noTen
theorem dimOf_mem {ts : List Ten} {x : Int} (h : dimOf ts x ≠ 0) : ∃ t ∈ ts, x ∈ t.l := by
  induction ts with
  | nil => simp [dimOf] at h
  | cons t ts ih =>
    rw [dimOf] at h
    by_cases hx : x ∈ t.l
    · exact ⟨t, by simp, hx⟩
    · rw [if_neg hx] at h; obtain ⟨u, hu, hxu⟩ := ih h; exact ⟨u, by simp [hu], hxu⟩
theorem run_open (h : orderL k p n ts op ss) {x : Int} (hx : x ∈ op) : ∀ i, i ≤ ss.length → ∃ j ∈ (runS ts op ss i).ixs, x ∈ (runS ts op ss i).lab j
  | 0, _ => by
    obtain ⟨j, hj, e⟩ := getD_of_mem hx; have ho := (open_at h.1.2.2.2.2 hj).2; rw [e] at ho; obtain ⟨t, ht, hxt⟩ := dimOf_mem (ts := ts) (x := x) (by omega); obtain ⟨m, hm⟩ := List.getElem?_of_mem ht; have hml := (List.getElem?_eq_some_iff.1 hm).1; have e0 : runS ts op ss 0 = sh0 ts := rfl; refine ⟨m, by rw [e0, sh0_ixs]; simpa using hml, ?_⟩; rw [e0]
    simpa [Sh.lab, sh0, List.getD, hm] using hxt
  | i + 1, hi => by
    obtain ⟨j, hj, hxj⟩ := run_open h hx i (by omega); obtain ⟨hst, hs1, hl⟩ := run_step h (i := i) (by omega); have hok := (run_fine (ss := ss) h.1 i).1; rw [hs1]
    by_cases hc : j ≠ (stpAt ss i).a.toNat ∧ j ≠ (stpAt ss i).b.toNat
    · refine ⟨j, by rw [step_ixs hok]; simp [hj, hc], ?_⟩; rw [step_lab (mem_ixs.1 hj).1]; exact hxj
    · refine ⟨(runS ts op ss i).all.length, by rw [step_ixs hok]; simp, ?_⟩; rw [step_lab_new]; refine List.mem_filter.2 ⟨mem_joinI.2 ?_, by simpa using .inl hx⟩
      by_cases ea : j = (stpAt ss i).a.toNat
      · exact .inl (ea ▸ hxj)
      · exact .inr ((show j = (stpAt ss i).b.toNat by omega) ▸ hxj)
theorem run_left (h : orderL k p n ts op ss) (hn : ts ≠ []) : (runS ts op ss ss.length).ixs = [ts.length + ss.length - 1] := by
  have hlen : ts.length ≠ 0 := fun e => hn (List.eq_nil_of_length_eq_zero e); have hc := steps_count (op := op) (sh0_fine (net_axes h.1)) h.2.2 ss.length (Nat.le_refl _); rw [show (sh0 ts).ixs.length = ts.length by rw [sh0_ixs]; simp] at hc; have h1 : (runS ts op ss ss.length).ixs.length = 1 := by
    have := h.2.1
    show (shTo op (sh0 ts) (ss.take ss.length)).ixs.length = 1
    omega
  have hm : ts.length + ss.length - 1 ∈ (runS ts op ss ss.length).ixs := by
    rcases Nat.eq_zero_or_pos ss.length with h0 | h0
    · have e0 : runS ts op ss ss.length = sh0 ts := by rw [h0]; rfl
      rw [e0, sh0_ixs, h0]; simp; omega
    · obtain ⟨hst, hs1, hl⟩ := run_step h (i := ss.length - 1) (by omega); rw [show ss.length - 1 + 1 = ss.length by omega] at hs1; rw [hs1, step_ixs (run_fine (ss := ss) h.1 _).1, hl]
      simp; omega
  obtain ⟨y, hy⟩ := List.length_eq_one_iff.1 h1; rw [hy] at hm ⊢
  simp at hm
  rw [hm]
end
end Go.Proofs.YthlmjnihihbckaaGreat
namespace Go.Proofs.YthlmjnihihbckaaGreat
set_option maxRecDepth 100000
open Go.RowKit
theorem Made.join3 {h a b : PH} {l : List PH} (m : Made h (a :: b :: l)) : Made h [a, b, joinP l] := by
  have hs := m.sep; have hl : PLe (joinP l) h := fun k o e => by
    obtain ⟨y, hy, e'⟩ := joinP_dom e; exact m.le y (by simp [hy]) k o e'
  refine ⟨⟨fun x hx => ?_, fun x hx => ?_, fun x hx => by simp at hx, trivial⟩, fun x hx => ?_, fun k o e => ?_⟩
  · rcases List.mem_cons.1 hx with rfl | hx
    · exact hs.1 _ (by simp)
    · simp at hx; subst hx
      exact PDj.join fun y hy => hs.1 y (by simp [hy])
  · simp at hx; subst hx
    exact PDj.join fun y hy => hs.2.1 y hy
  · simp at hx
    rcases hx with rfl | rfl | rfl
    · exact m.le _ (by simp)
    · exact m.le _ (by simp)
    · exact hl
  · obtain ⟨x, hx, e'⟩ := m.dom k o e
    simp at hx
    rcases hx with rfl | rfl | hx
    · exact ⟨x, by simp, e'⟩
    · exact ⟨x, by simp, e'⟩
    · exact ⟨joinP l, by simp, PLe.join hs.2.2 x hx k o e'⟩
theorem Made.part3 {h a b c : PH} {l : List PH} (m : Made h [a, b, c]) (ml : Made c l) : Made h (a :: b :: l) := by
  have hs := m.sep; have hc : PLe c h := m.le c (by simp); refine ⟨⟨fun x hx => ?_, fun x hx => ?_, ml.sep⟩, fun x hx => ?_, fun k o e => ?_⟩
  · rcases List.mem_cons.1 hx with rfl | hx
    · exact hs.1 _ (by simp)
    · exact (((hs.1 c (by simp)).symm).mono (ml.le x hx)).symm
  · exact (((hs.2.1 c (by simp)).symm).mono (ml.le x hx)).symm
  · simp at hx
    rcases hx with rfl | rfl | hx
    · exact m.le _ (by simp)
    · exact m.le _ (by simp)
    · exact (ml.le x hx).trans hc
  · obtain ⟨x, hx, e'⟩ := m.dom k o e
    simp at hx
    rcases hx with rfl | rfl | rfl
    · exact ⟨x, by simp, e'⟩
    · exact ⟨x, by simp, e'⟩
    · obtain ⟨y, hy, e2⟩ := ml.dom k o e'; exact ⟨y, by simp [hy], e2⟩
theorem NetO.split {ts : List Ten} {op : List Int} {vt vo : Value} {h : PH} (r : NetO ts op vt vo h) : ∃ cs h0 ho hl, RowO 34 cs ts.length 3 vt h0 ∧ IntsO op vo ho ∧ OwnH (flat ts) cs hl ∧ Made h [h0, ho, hl] := by
  obtain ⟨cs, h0, ho, l, r0, r1, o, m⟩ := r; exact ⟨cs, h0, ho, joinP l, r0, r1, ⟨l, o, Made.join m.sep.2.2⟩, m.join3⟩
theorem NetO.join {ts : List Ten} {op : List Int} {vt vo : Value} {h h0 ho hl : PH} {cs : List Value} (r0 : RowO 34 cs ts.length 3 vt h0) (r1 : IntsO op vo ho) (o : OwnH (flat ts) cs hl) (m : Made h [h0, ho, hl]) : NetO ts op vt vo h := by
  obtain ⟨l, o, ml⟩ := o; exact ⟨cs, h0, ho, l, r0, r1, o, m.part3 ml⟩
theorem OwnL.take {xss : List (List Int)} {vs : List Value} {l : List PH} (o : OwnL xss vs l) (n : Nat) : OwnL (xss.take n) (vs.take n) (l.take n) := by
  refine ⟨by simp [o.l1], by simp [o.l2], fun i xs h => ?_⟩; have hi : i < n := by
    rcases Nat.lt_or_ge i n with h' | h'
    · exact h'
    · rw [List.getElem?_take, if_neg (by omega)] at h; cases h
  rw [List.getElem?_take, if_pos hi] at h ⊢; rw [List.getElem?_take, if_pos hi]; exact o.own i xs h
theorem OwnL.drop {xss : List (List Int)} {vs : List Value} {l : List PH} (o : OwnL xss vs l) (n : Nat) : OwnL (xss.drop n) (vs.drop n) (l.drop n) := by
  refine ⟨by simp [o.l1], by simp [o.l2], fun i xs h => ?_⟩; rw [List.getElem?_drop] at h ⊢; rw [List.getElem?_drop]; exact o.own (n + i) xs h
theorem flat_take {ts : List Ten} {i : Nat} (h : i ≤ ts.length) : flat (ts.take i) = (flat ts).take (i * 3) ∧ flat (ts.drop i) = (flat ts).drop (i * 3) := by
  have e : flat ts = flat (ts.take i) ++ flat (ts.drop i) := by rw [← flat_append, List.take_append_drop]
  have hl : (flat (ts.take i)).length = i * 3 := by rw [flat_len, List.length_take, Nat.min_eq_left h]
  constructor
  · rw [e, List.take_left' hl]
  · rw [e, List.drop_left' hl]
theorem flat_set {ts : List Ten} {i : Nat} (h : i < ts.length) (u : Ten) : flat (ts.set i u) = (flat ts).take (i * 3) ++ [u.l, u.d, u.x] ++ (flat ts).drop (i * 3 + 3) := by
  rw [List.set_eq_take_append_cons_drop, if_pos h, flat_append, (flat_take (Nat.le_of_lt h)).1, show i * 3 + 3 = (i + 1) * 3 by omega, ← (flat_take (show i + 1 ≤ ts.length by omega)).2, List.append_assoc]
  rfl
theorem sep_mono {l l' : List PH} (h : sepL l) (hs : l'.Sublist l) : sepL l' := by
  induction hs with
  | slnil => exact trivial
  | cons x _ ih => exact ih h.2
  | cons_cons x s ih => exact ⟨fun y hy => h.1 y (s.subset hy), ih h.2⟩
theorem OwnH.set {ts : List Ten} {u : Ten} {cs : List Value} {a b c : Value} {h h' : PH} {i : Nat} (hi : i < ts.length) (o : OwnH (flat ts) cs h) (r : TriO u a b c h') (hd : PDj h h') :
    ∃ g, PLe g (PUn h h') ∧ OwnH (flat (ts.set i u)) (cs.take (i * 3) ++ [a, b, c] ++ cs.drop (i * 3 + 3)) g := by
  obtain ⟨l, ol, m⟩ := o; obtain ⟨h1, h2, h3, r1, r2, r3, m'⟩ := r; have hx : ∀ x ∈ l.take (i * 3) ++ [h1, h2, h3] ++ l.drop (i * 3 + 3), PLe x (PUn h h') := fun x hx => by
    simp only [List.mem_append] at hx
    rcases hx with (hx | hx) | hx
    · exact (m.le x (List.mem_of_mem_take hx)).trans (PLe.un_l _ _)
    · exact (m'.le x hx).trans (PLe.un_r hd)
    · exact (m.le x (List.mem_of_mem_drop hx)).trans (PLe.un_l _ _)
  have hab : ∀ x ∈ l, ∀ y ∈ [h1, h2, h3], PDj x y := fun x hx y hy => (((hd.mono (m.le x hx)).symm).mono (m'.le y hy)).symm; have hsub : (l.take (i * 3) ++ l.drop (i * 3 + 3)).Sublist l := by
    conv => rhs; rw [← List.take_append_drop (i * 3) l]
    refine List.Sublist.append (List.Sublist.refl _) ?_; rw [← List.drop_drop]; exact List.drop_sublist _ _
  have hsep := sepL_append.1 (sep_mono m.sep hsub); have hs : sepL (l.take (i * 3) ++ [h1, h2, h3] ++ l.drop (i * 3 + 3)) := by
    refine sepL_append.2 ⟨sepL_append.2 ⟨hsep.1, m'.sep, fun x hx y hy => hab x (List.mem_of_mem_take hx) y hy⟩, hsep.2.1, fun x hx y hy => ?_⟩
    rcases List.mem_append.1 hx with hx | hx
    · exact hsep.2.2 x hx y hy
    · exact (hab y (List.mem_of_mem_drop hy) x hx).symm
  refine ⟨joinP (l.take (i * 3) ++ [h1, h2, h3] ++ l.drop (i * 3 + 3)), fun k o e => ?_, _, ?_, Made.join hs⟩
  · obtain ⟨y, hy, e'⟩ := joinP_dom e; exact hx y hy k o e'
  · rw [flat_set hi]; exact ((ol.take _).append (OwnL.three r1 r2 r3)).append (ol.drop _)
def replP (k p n : Int) (ts : List Ten) (op : List Int) (i : Int) (u : Ten) : Prop := netL k p n ts op ∧ (0 ≤ i ∧ i < ts.length) ∧ fitP k p n (ts.getD i.toNat ⟨[], [], []⟩) u
open Classical in
noncomputable def replB (k p n : Int) (ts : List Ten) (op : List Int) (i : Int) (u : Ten) : Bool := decide (replP k p n ts op i u)
noncomputable def ifB {α : Type} (b : Bool) (x y : α) : α := if b then x else y
noncomputable def replTs (k p n : Int) (ts : List Ten) (op : List Int) (i : Int) (u : Ten) : List Ten := ifB (replB k p n ts op i u) (ts.set i.toNat u) []
noncomputable def replOp (k p n : Int) (ts : List Ten) (op : List Int) (i : Int) (u : Ten) : List Int := ifB (replB k p n ts op i u) op []
def ReplR (k p n : Int) (ts : List Ten) (op : List Int) (i : Int) (u : Ten) (x : Value) (h : PH) : Prop :=
  ∃ vt vo, x = .tuple [netV (ifB (replB k p n ts op i u) k 0) (ifB (replB k p n ts op i u) p 0) (ifB (replB k p n ts op i u) n 0) vt vo, .bool (replB k p n ts op i u)].toArray ∧ NetO (replTs k p n ts op i u) (replOp k p n ts op i u) vt vo h
theorem NetO.nil : NetO [] [] (.slice none 0 0) (.slice none 0 0) emp :=
  ⟨[], emp, emp, [], RowO.nil, IntsO.nil, OwnL.nil, ⟨by simp [sepL, PDj.emp], fun x hx => by simp at hx; subst hx; exact PLe.emp _, fun k o e => by cases e⟩⟩
theorem ReplR.no {k p n i : Int} {ts : List Ten} {op : List Int} {u : Ten} (h : ¬ replP k p n ts op i u) : ReplR k p n ts op i u (.tuple [netV 0 0 0 (.slice none 0 0) (.slice none 0 0), .bool false].toArray) emp := by
  have e : replB k p n ts op i u = false := by simp [replB, h]
  refine ⟨.slice none 0 0, .slice none 0 0, ?_, ?_⟩
  · rw [e]; rfl
  · rw [replTs, replOp, e]; exact NetO.nil
theorem ReplR.yes {k p n i : Int} {ts : List Ten} {op : List Int} {u : Ten} {vt vo : Value} {g : PH} (h : replP k p n ts op i u) (r : NetO (ts.set i.toNat u) op vt vo g) : ReplR k p n ts op i u (.tuple [netV k p n vt vo, .bool true].toArray) g := by
  have e : replB k p n ts op i u = true := by simp [replB, h]
  refine ⟨vt, vo, ?_, ?_⟩
  · rw [e]; rfl
  · rw [replTs, replOp, e]; exact r
end Go.Proofs.YthlmjnihihbckaaGreat
namespace Go.Proofs.YthlmjnihihbckaaGreat
set_option maxRecDepth 100000
open Go.RowKit
theorem OwnL.piece {ts : List Ten} {vs : List Value} {l : List PH} (o : OwnL (flat ts) vs l) {k : Nat} {t : Ten} (h : ts[k]? = some t) : OwnL (flat [t]) ((vs.drop (k * 3)).take 3) ((l.drop (k * 3)).take 3) := by
  have hk := (List.getElem?_eq_some_iff.1 h).1; have e : ((flat ts).drop (k * 3)).take 3 = flat [t] := by
    rw [← (flat_take (Nat.le_of_lt hk)).2, drop_at h]; rfl
  have := (o.drop (k * 3)).take 3
  rwa [e] at this
theorem OwnL.dropK {ts : List Ten} {vs : List Value} {l : List PH} (o : OwnL (flat ts) vs l) (p q : Nat) : ∀ k, k ≤ ts.length → OwnL (flat (dropK 1 ts p q k)) (dropK 3 vs p q k) (dropK 3 l p q k)
  | 0, _ => OwnL.nil
  | k + 1, hk => by
    have ih := OwnL.dropK o p q k (by omega); have ht : ts[k]? = some ts[k] := List.getElem?_eq_getElem (by omega)
    by_cases h : k ≠ p ∧ k ≠ q
    · rw [dropK_yes h, dropK_yes h, dropK_yes h, one_drop ht, flat_append]; exact ih.append (o.piece ht)
    · rw [dropK_no h, dropK_no h, dropK_no h]; exact ih
theorem dropK_sub {α : Type} (m : Nat) (l : List α) (p q : Nat) : ∀ k, (dropK m l p q k).Sublist (l.take (k * m))
  | 0 => by simp [dropK]
  | k + 1 => by
    have ih := dropK_sub m l p q k; have e : l.take ((k + 1) * m) = l.take (k * m) ++ (l.drop (k * m)).take m := by rw [Nat.add_mul, Nat.one_mul, List.take_add]
    rw [e]
    by_cases h : k ≠ p ∧ k ≠ q
    · rw [dropK_yes h]; exact ih.append (List.Sublist.refl _)
    · rw [dropK_no h]; exact ih.trans (List.sublist_append_left _ _)
theorem OwnH.dropK {ts : List Ten} {cs : List Value} {h : PH} (o : OwnH (flat ts) cs h) (p q : Nat) : ∃ g, PLe g h ∧ OwnH (flat (dropK 1 ts p q ts.length)) (dropK 3 cs p q ts.length) g := by
  obtain ⟨l, ol, m⟩ := o; have hs := (dropK_sub 3 l p q ts.length).trans (List.take_sublist _ _); have hsep := sep_mono m.sep hs; refine ⟨joinP (Go.Proofs.YthlmjnihihbckaaGreat.dropK 3 l p q ts.length), fun k o e => ?_, _, ol.dropK p q _ (Nat.le_refl _), Made.join hsep⟩; obtain ⟨y, hy, e'⟩ := joinP_dom e; exact m.le y (hs.subset hy) k o e'
theorem perm_all {k p n : Int} {t : Ten} {ls : List Int} (h : PermOK k p n t ls) : ∀ m : Nat, ((permX (widthI k n) t ls (permD t ls) m).length : Int) = m * widthI k n ∧ ∀ a ∈ permX (widthI k n) t ls (permD t ls) m, 0 ≤ a ∧ a ≤ topI k p n
  | 0 => by simp [permX]
  | m + 1 => by
    have ih := perm_all h m; have ho := h.off m; have he := elt_inR h.ten ho.1 ho.2; have hw := width_range h.ring; rw [permX_step]; refine ⟨?_, fun a ha => ?_⟩
    · rw [List.length_append, he.1, Int.natCast_add, ih.1, show ((m + 1 : Nat) : Int) = (m : Int) + 1 from rfl, Int.add_mul, Int.one_mul]; omega
    · rcases List.mem_append.1 ha with ha | ha
      · exact ih.2 a ha
      · exact he.2 a ha
theorem perm_axes {k p n : Int} {t : Ten} {ls : List Int} (h : PermOK k p n t ls) : axesL ls (permD t ls) := by
  refine ⟨h.len.2.2, (permD_len t ls).symm, fun j hj => ⟨?_, h.dims j (by rw [permD_len]; exact hj), nodup_not_take h.nodup hj⟩⟩; obtain ⟨i, hi, e⟩ := getD_of_mem (h.perm.mem_iff.1 (mem_getD hj)); rw [← e]; exact (h.axes.2.2 i hi).1
theorem perm_ten {k p n : Int} {t : Ten} {ls : List Int} (h : PermOK k p n t ls) : tensorL k p n (permT k n t ls).l (permT k n t ls).d (permT k n t ls).x := by
  have hs := h.small; have ha := perm_axes h; have hx := perm_all h (prodI (permD t ls)).toNat; refine ⟨h.ring, sizeI_ge.2 ⟨ha, hs.2⟩, ?_, hx.2⟩
  show ((permX (widthI k n) t ls (permD t ls) (prodI (permD t ls)).toNat).length : Int) = sizeI ls (permD t ls) * widthI k n
  rw [sizeI_yes ha hs.2, hx.1, show (((prodI (permD t ls)).toNat : Nat) : Int) = prodI (permD t ls) by omega]
theorem net_open {k p n : Int} {ts : List Ten} {op : List Int} (h : netL k p n ts op) : op.Nodup ∧ op.length ≤ 12 := by
  have ha := (sizeI_ge.1 h.2.2.2.2).1; exact ⟨axes_nodup ha, ha.1⟩
theorem mem_keep {t u : Ten} {ks : List Int} {x : Int} : x ∈ keepL t u ks ↔ (x ∈ t.l ∨ x ∈ u.l) ∧ x ∈ ks := by
  unfold keepL
  rw [List.mem_filter, mem_joinI, decide_eq_true_eq]
theorem sum_ten {k p n : Int} {t : Ten} (ht : tensorL k p n t.l t.d t.x) (ks : List Int) : tensorL k p n (sumR k p n t ks).l (sumR k p n t ks).d (sumR k p n t ks).x ∧ (sumR k p n t ks).l = keepL t (oneT k p n) ks ∧ (sumR k p n t ks).d = (keepL t (oneT k p n) ks).map (dimJ t (oneT k p n)) := by
  have := pair_ten (sum_pair ht ks)
  rwa [sumR_pair ht] at this
theorem fin_perm {k p n : Int} {t : Ten} {op : List Int} (ht : tensorL k p n t.l t.d t.x) (hn : op.Nodup) (hs : ∀ x ∈ op, x ∈ t.l) : PermOK k p n (sumR k p n t op) op := by
  obtain ⟨h1, h2, _⟩ := sum_ten ht op; have hk : ∀ x, x ∈ (sumR k p n t op).l ↔ x ∈ op := fun x => by
    rw [h2, mem_keep]; exact ⟨fun h => h.2, fun h => ⟨.inl (hs x h), h⟩⟩
  exact ⟨ht.1, h1, perm_of hn (fun x hx => (hk x).2 hx) (pigeon (axes_nodup (ten_axes h1)) fun x hx => (hk x).1 hx)⟩
noncomputable def finT (k p n : Int) (t : Ten) (op : List Int) : Ten := permT k n (sumR k p n t op) op
def finP (k p n : Int) (ts : List Ten) (op : List Int) (t : Ten) : Prop := netL k p n ts op ∧ tensorL k p n t.l t.d t.x ∧ ∀ x ∈ op, x ∈ t.l
theorem finP.perm {k p n : Int} {ts : List Ten} {op : List Int} {t : Ten} (h : finP k p n ts op t) : PermOK k p n (sumR k p n t op) op := fin_perm h.2.1 (net_open h.1).1 h.2.2
def conP (k p n : Int) (ts : List Ten) (op : List Int) (ss : List Stp) : Prop := orderL k p n ts op ss ∧ ∀ j, j < ss.length → runFit k p n ts op ss j
noncomputable def lastT (k p n : Int) (ts : List Ten) (op : List Int) (ss : List Stp) : Ten := (runTo k p n ts op ss ss.length).getD (ts.length + ss.length - 1) noTen
noncomputable def conT (k p n : Int) (ts : List Ten) (op : List Int) (ss : List Stp) : Ten := if ts.length = 0 then oneT k p n else finT k p n (lastT k p n ts op ss) op
section
variable {k p n : Int} {ts : List Ten} {op : List Int} {ss : List Stp}
theorem conP.last (h : conP k p n ts op ss) (hn : ts.length ≠ 0) : finP k p n ts op (lastT k p n ts op ss) ∧ outTo k p n ts op ss ss.length = [lastT k p n ts op ss] := by
  have r := run_ok h.1 ss.length (Nat.le_refl _) h.2; have hl := run_left h.1 (fun e => hn (by rw [e]; rfl)); have hg := r.get (j := ts.length + ss.length - 1) (by omega); refine ⟨⟨h.1.1, hg.1, fun x hx => ?_⟩, by rw [outTo, hl]; rfl⟩; obtain ⟨j, hj, hxj⟩ := run_open h.1 hx ss.length (Nat.le_refl _); rw [hl] at hj
  simp at hj
  show x ∈ ((runTo k p n ts op ss ss.length).getD (ts.length + ss.length - 1) noTen).l
  rw [hg.2.1, ← hj]; exact hxj
theorem conP.empty (h : conP k p n ts op ss) (hn : ts.length = 0) : op = [] := by
  refine List.eq_nil_iff_forall_not_mem.2 fun x hx => ?_; obtain ⟨j, hj, e⟩ := getD_of_mem hx; have ho := (open_at h.1.1.2.2.2.2 hj).2; have e0 : ts = [] := List.eq_nil_of_length_eq_zero hn; rw [e0] at ho
  simp [dimOf] at ho
theorem conP.ten (h : conP k p n ts op ss) : tensorL k p n (conT k p n ts op ss).l (conT k p n ts op ss).d (conT k p n ts op ss).x ∧ (conT k p n ts op ss).l = op := by
  unfold conT
  by_cases hn : ts.length = 0
  · rw [if_pos hn]; exact ⟨one_ten h.1.1.1, (h.empty hn).symm⟩
  · rw [if_neg hn]; exact ⟨perm_ten (h.last hn).1.perm, rfl⟩
end
end Go.Proofs.YthlmjnihihbckaaGreat
namespace Go.Proofs.YthlmjnihihbckaaGreat
set_option maxRecDepth 100000
open Go.RowKit
theorem ten_size {k p n : Int} {t : Ten} (h : tensorL k p n t.l t.d t.x) : tenSize t ≤ 30000 := by
  have hl := ten_len h; have hw := width_range h.1; have hs := sizeI_ge.1 h.2.1; have hx := h.2.2.1; rw [sizeI_yes hs.1 hs.2] at hx; have hm : prodI t.d * widthI k n ≤ 4096 * 6 := Int.mul_le_mul hs.2 hw.2 (by omega) (by omega)
  unfold tenSize
  omega
theorem tensSize_few {ts : List Ten} {B : Int} (h : ∀ t ∈ ts, tenSize t ≤ B) : tensSize ts ≤ ts.length * B := by
  induction ts with
  | nil => simp [tensSize]
  | cons t ts ih =>
    have h1 := h t (by simp); have h2 := ih fun x hx => h x (by simp [hx]); simp only [tensSize, List.length_cons]; rw [show ((ts.length + 1 : Nat) : Int) = (ts.length : Int) + 1 from rfl, Int.add_mul, Int.one_mul]
    omega
theorem tens_size {k p n : Int} {ts : List Ten} (h : ∀ t ∈ ts, tensorL k p n t.l t.d t.x) : tensSize ts ≤ ts.length * 30000 := tensSize_few fun t ht => ten_size (h t ht)
end Go.Proofs.YthlmjnihihbckaaGreat
namespace Go.Proofs.YthlmjnihihbckaaGreat
set_option maxRecDepth 100000
open Go.RowKit
theorem zeroL_get {k p n : Int} (hr : ringL k p n) {i : Nat} (hi : i < (widthI k n).toNat) : (zeroL k p n).getD i 0 = if k = 4 then p else 0 := by
  unfold zeroL
  split
  · rename_i e
    rw [width_1 (by omega) (by omega)] at hi; have : i = 0 := by simp at hi; omega
    subst this; rfl
  · simp [List.getD, hi]
theorem add1_zero {k p n a : Int} (hr : ringL k p n) (ha : 0 ≤ a ∧ a ≤ topI k p n) : add1 k p (if k = 4 then p else 0) a = a := by
  unfold add1
  split
  · rename_i h; rw [if_neg (by omega)]; omega
  · split
    · rename_i h0 h; rw [if_neg (by omega)]
      have : topI k p n = p := by unfold topI; rw [if_neg (by omega), if_pos (by omega)]
      omega
    · split
      · rename_i h1 h0 h
        have : topI k p n = p := by unfold topI; rw [if_neg (by omega), if_pos (by omega)]
        omega
      · split
        · rename_i h2 h1 h0 h; simp; omega
        · rename_i h3 h2 h1 h0
          have hk : k = 2 ∨ k = 7 ∨ k = 8 := by unfold ringL at hr; omega
          have := top_poly hr hk; rw [Int.zero_add]; exact Int.tmod_eq_of_lt ha.1 (by omega)
theorem add_zero {k p n : Int} (hr : ringL k p n) {x : List Int} (hx : InR k p n x) : addL k p (zeroL k p n) x = x := by
  have hl := zeroL_len k p n; refine ext_getD (by rw [addL_len, hl, hx.1]) fun i hi => ?_; rw [addL_len, hl] at hi; rw [addL_get (by rw [hl]; exact hi), zeroL_get hr hi]; exact add1_zero hr (hx.at hr i (by rw [hx.1]; exact hi))
theorem set_same {xs : List Int} {i : Nat} (h : i < xs.length) : xs.set i (xs.getD i 0) = xs := by
  refine ext_getD (by simp) fun j hj => ?_; rw [List.length_set] at hj
  by_cases e : i = j
  · subst e; simp [List.getD, hj]
  · simp [List.getD, List.getElem?_set_ne e]
theorem step_none {k p n : Int} {x y out : List Int} {i j : Nat} (hk : k = 7 ∧ (widthI k n).toNat ≤ 6 ∨ k = 8) (hp : 1 ≤ p) (ho : PolyIn k p n out) (hj : y.getD j 0 = 0) (hij : 4 ≤ i + j → k = 8 → i + j - 4 < out.length) : mulStep k p x y out i j = out := by
  have h0 : ∀ m, (out.getD m 0).tmod p = out.getD m 0 := fun m => by
    have := ho.at hp m; exact Int.tmod_eq_of_lt this.1 (by omega)
  unfold mulStep
  split
  · rename_i h
    rw [hj, Int.mul_zero, Int.add_zero, h0, set_same h]
  · split
    · rename_i h h8
      rw [hj, Int.mul_zero, Int.add_zero, h0]; have hw : out.length = 4 := by rw [ho.1, widthI, if_neg (by omega), if_pos h8]; rfl
      exact set_same (hij (by omega) h8)
    · rfl
theorem step_one {k p n : Int} {x y out : List Int} {i : Nat} (hi : i < out.length) (hj : y.getD 0 0 = 1) : mulStep k p x y out i 0 = out.set i ((out.getD i 0 + x.getD i 0).tmod p) := by
  unfold mulStep
  rw [Nat.add_zero, if_pos hi, hj, Int.mul_one]
theorem row_one {k p n : Int} {x y out : List Int} {i : Nat} (hk : k = 7 ∧ (widthI k n).toNat ≤ 6 ∨ k = 8) (hp : 2 ≤ p) (hx : PolyIn k p n x) (ho : PolyIn k p n out) (hi : i < out.length) (h1 : y.getD 0 0 = 1) (h0 : ∀ j, 0 < j → y.getD j 0 = 0) (hl : out.length ≤ 6) (hyl : y.length = out.length) :
    ∀ m, m + 1 ≤ y.length → mulRow k p x y i out (m + 1) = out.set i ((out.getD i 0 + x.getD i 0).tmod p)
  | 0, _ => by
    rw [mulRow_step]
    show mulStep k p x y (mulRow k p x y i out 0) i 0 = _
    rw [show mulRow k p x y i out 0 = out from rfl]; exact step_one (n := n) hi h1
  | m + 1, hm => by
    have ih := row_one hk hp hx ho hi h1 h0 hl hyl m (by omega); have hin : PolyIn k p n (out.set i ((out.getD i 0 + x.getD i 0).tmod p)) := ho.set _ (tmod_in (by have := (ho.at (by omega) i).1; have := (hx.at (by omega) i).1; omega) (by omega)); rw [mulRow_step, ih]; refine step_none hk (by omega) hin (h0 _ (by omega)) (fun h4 h8 => ?_); rw [List.length_set]; have hw : out.length = 4 := by rw [ho.1, widthI, if_neg (by omega), if_pos h8]; rfl
    omega
theorem to_one {k p n : Int} {x y : List Int} (hk : k = 7 ∧ (widthI k n).toNat ≤ 6 ∨ k = 8) (hp : 2 ≤ p) (hx : PolyIn k p n x) (h1 : y.getD 0 0 = 1) (h0 : ∀ j, 0 < j → y.getD j 0 = 0) (hl : x.length ≤ 6) (hl1 : 1 ≤ x.length) (hyl : y.length = x.length) :
    ∀ m, m ≤ x.length → mulTo k p x y (List.replicate x.length 0) m = x.take m ++ List.replicate (x.length - m) 0
  | 0, _ => by simp [mulTo]
  | m + 1, hm => by
    have ih := to_one hk hp hx h1 h0 hl hl1 hyl m (by omega); have hout : PolyIn k p n (x.take m ++ List.replicate (x.length - m) 0) := ⟨by rw [← hx.1]; simp; omega, fun a ha => by
      rcases List.mem_append.1 ha with h | h
      · exact hx.2 a (List.mem_of_mem_take h)
      · rw [List.eq_of_mem_replicate h]; omega⟩
    have hol : (x.take m ++ List.replicate (x.length - m) (0 : Int)).length = x.length := by simp; omega
    rw [mulTo_step, ih]; obtain ⟨q, hq⟩ : ∃ q, y.length = q + 1 := ⟨y.length - 1, by omega⟩
    rw [hq, row_one hk hp hx hout (by rw [hol]; omega) h1 h0 (by rw [hol]; exact hl) (by rw [hol]; exact hyl) q (by omega)]; have hz : (x.take m ++ List.replicate (x.length - m) (0 : Int)).getD m 0 = 0 := by
      have hlt : (x.take m).length = m := by simp; omega
      simp only [List.getD]; rw [List.getElem?_append_right (by omega), hlt, Nat.sub_self]
      simp [show 0 < x.length - m by omega]
    have hxm := hx.at (by omega : 1 ≤ p) m; rw [hz, Int.zero_add, Int.tmod_eq_of_lt hxm.1 (by omega)]; have hlt : (x.take m).length = m := by simp; omega
    obtain ⟨r, hr⟩ : ∃ r, x.length - m = r + 1 := ⟨x.length - m - 1, by omega⟩
    rw [List.set_append_right _ _ (by omega), hlt, Nat.sub_self, hr, List.replicate_succ, List.set_cons_zero, show x.length - (m + 1) = r by omega, List.take_succ_eq_append_getElem (by omega), List.append_assoc]
    congr 1
    simp [List.getD, show m < x.length by omega]
theorem one_poly {k p n : Int} (hk : k = 1 ∨ k = 2 ∨ k = 3 ∨ k = 7 ∨ k = 8) (hw : 1 ≤ (widthI k n).toNat) : (oneL k p n).getD 0 0 = 1 ∧ ∀ j, 0 < j → (oneL k p n).getD j 0 = 0 := by
  have e : oneL k p n = (List.replicate (widthI k n).toNat 0).set 0 1 := by unfold oneL; rw [if_neg (by omega), if_neg (by omega)]
  rw [e]; refine ⟨by simp [List.getD, show 0 < (widthI k n).toNat by omega], fun j hj => ?_⟩
  show ((List.replicate (widthI k n).toNat (0 : Int)).set 0 1)[j]?.getD 0 = 0
  rw [List.getElem?_set_ne (by omega)]
  cases h : (List.replicate (widthI k n).toNat (0 : Int))[j]? with
  | none => rfl
  | some z => exact List.eq_of_mem_replicate (List.mem_of_getElem? h)
theorem mul_one {k p n : Int} (hr : ringL k p n) {x : List Int} (hx : InR k p n x) : mulL k p n x (oneL k p n) = x := by
  have hlen := hx.len hr; have hx0 := hx.at hr 0 (by omega); have hwd : 1 ≤ (widthI k n).toNat := by have := hx.1; omega
  have hsing : k ≠ 7 → k ≠ 8 → x = [x.getD 0 0] := fun h7 h8 => by
    have h1 := hx.1; rw [width_1 h7 h8] at h1
    match x, h1 with
    | [a], _ => rfl
  unfold mulL
  by_cases h15 : k = 1 ∨ k = 5
  · rw [if_pos h15]; have h1 : (oneL k p n).getD 0 0 = topI k p n := by
      rcases h15 with h | h
      · rw [(one_poly (.inl h) hwd).1]; unfold topI; rw [if_pos h]
      · unfold oneL; rw [if_neg (by omega), if_pos (.inl h)]; rfl
    rw [h1, Int.min_eq_left hx0.2]; exact (hsing (by omega) (by omega)).symm
  · rw [if_neg h15]
    by_cases h2 : k = 2
    · rw [if_pos h2, (one_poly (.inr (.inl h2)) hwd).1, Int.mul_one]; have := top_poly hr (.inl h2); rw [Int.tmod_eq_of_lt hx0.1 (by omega)]; exact (hsing (by omega) (by omega)).symm
    · rw [if_neg h2]
      by_cases h3 : k = 3
      · rw [if_pos h3, (one_poly (.inr (.inr (.inl h3))) hwd).1, Int.mul_one]; have : topI k p n = p := by unfold topI; rw [if_neg (by omega), if_pos (by omega)]
        rw [Int.min_eq_left (by omega)]; exact (hsing (by omega) (by omega)).symm
      · rw [if_neg h3]
        by_cases h4 : k = 4
        · have e : (oneL k p n).getD 0 0 = 0 := by unfold oneL; rw [if_pos h4]; rfl
          have : topI k p n = p := by unfold topI; rw [if_neg (by omega), if_pos (by omega)]
          rw [if_pos h4, e, Int.add_zero, Int.min_eq_left (by omega)]; exact (hsing (by omega) (by omega)).symm
        · rw [if_neg h4]
          by_cases h6 : k = 6
          · have ht : topI k p n = 2 ^ n.toNat - 1 := by unfold topI; rw [if_neg (by omega), if_neg (by omega), if_pos h6]
            have e : (oneL k p n).getD 0 0 = 2 ^ n.toNat - 1 := by unfold oneL; rw [if_neg h4, if_pos (.inr h6), ht]; rfl
            have hc : ((2 ^ n.toNat : Nat) : Int) = (2 : Int) ^ n.toNat := by simp
            have hpos : 0 < 2 ^ n.toNat := Nat.two_pow_pos _; have e2 : ((2 : Int) ^ n.toNat - 1).toNat = 2 ^ n.toNat - 1 := by omega
            rw [if_pos h6, e, e2, Nat.and_two_pow_sub_one_eq_mod, Nat.mod_eq_of_lt (by omega), Int.toNat_of_nonneg hx0.1]; exact (hsing (by omega) (by omega)).symm
          · rw [if_neg h6]; have hk : k = 7 ∨ k = 8 := by unfold ringL at hr; omega
            have htp := top_poly hr (.inr hk); have ho := one_poly (p := p) (n := n) (k := k) (by omega) hwd; have hk' : k = 7 ∧ (widthI k n).toNat ≤ 6 ∨ k = 8 := by rcases hk with h | h; exact .inl ⟨h, by have := hx.1; omega⟩; exact .inr h
            have := to_one hk' htp.2.1 (hx.poly hr (.inr hk)) ho.1 ho.2 hlen.2.1 hlen.1 (by rw [oneL_len, hx.1]) x.length (Nat.le_refl _); rw [← hx.1, this]
            simp
end Go.Proofs.YthlmjnihihbckaaGreat
namespace Go.Proofs.YthlmjnihihbckaaGreat
set_option maxRecDepth 100000
open Go.RowKit
theorem at_off {f : Int → Int} {L ls : List Int} (hn : L.Nodup) (hl : ls.Nodup) (hs : ∀ l ∈ ls, l ∈ L) (m : Int) : atI f L ls m = offL (ls.map f) (idxAt L (idxL (L.map f) m) ls) := by
  unfold atI dotL; rw [stepsL_len]; exact dot_off hn (by simp) hl hs
structure ValOK (k p n : Int) (ts : List Ten) (op : List Int) : Prop where
  net : netL k p n ts op
  work : prodI (dimsFor ts (labelsL ts)) ≤ 65536
theorem ValOK.nd {k p n : Int} {ts : List Ten} {op : List Int} (_ : ValOK k p n ts op) : (labelsL ts).Nodup := labels_nodup ts 100
section
variable {k p n : Int} {ts : List Ten} {op : List Int} (h : ValOK k p n ts op)
include h
theorem ValOK.f : ∀ x ∈ labelsL ts, 1 ≤ dimOf ts x ∧ dimOf ts x ≤ 8 := fun x hx => by
  have h1 := mem_labels.1 hx; have h2 := dimOf_range (net_ax h.net) x
  omega
theorem ValOK.opn : op.Nodup := axes_nodup (sizeI_ge.1 h.net.2.2.2.2).1
theorem ValOK.sub : ∀ l ∈ op, l ∈ labelsL ts := fun l hl => by
  obtain ⟨j, hj, rfl⟩ := getD_of_mem hl; have := open_at h.net.2.2.2.2 hj; exact mem_labels.2 ⟨by omega, by omega⟩
theorem ValOK.at_k (m : Int) : 0 ≤ atI (dimOf ts) (labelsL ts) op m ∧ atI (dimOf ts) (labelsL ts) op m < prodI (dimsFor ts op) := at_in h.nd h.opn h.sub h.f m
theorem ValOK.dims : ∀ d ∈ dimsFor ts (labelsL ts), 1 ≤ d ∧ d ≤ 8 := map_dim h.f fun _ h => h
theorem ValOK.odims : ∀ d ∈ dimsFor ts op, 1 ≤ d ∧ d ≤ 8 := map_dim h.f h.sub
theorem ValOK.idx (m : Int) : AtOK k p n ts (labelsL ts) (idxL (dimsFor ts (labelsL ts)) m) := by
  have hi := idxL_in (fun d hd => (h.dims d hd).1) m; exact assign_at (op := op) ⟨h.net, hi.1, fun j hj => hi.2 j (by rw [← hi.1]; exact hj)⟩
end
noncomputable def valX (k p n : Int) (ts : List Ten) (op : List Int) : Nat → List Int
  | 0 => (List.replicate (prodI (dimsFor ts op)).toNat (zeroL k p n)).flatten
  | m + 1 => putL (valX k p n ts op m) (atI (dimOf ts) (labelsL ts) op m * widthI k n).toNat
      (addL k p (elt (valX k p n ts op m) (widthI k n) (atI (dimOf ts) (labelsL ts) op m)) (weightTo k p n (labelsL ts) (idxL (dimsFor ts (labelsL ts)) m) ts))
section
variable {k p n : Int} {ts : List Ten} {op : List Int} (h : ValOK k p n ts op)
include h
theorem ValOK.weight (m : Int) : InR k p n (weightTo k p n (labelsL ts) (idxL (dimsFor ts (labelsL ts)) m) ts) := by
  have := weight_in (h.idx m) ts.length (Nat.le_refl _)
  rwa [List.take_length] at this
theorem ValOK.all : ∀ m : Nat, AllR k p n (prodI (dimsFor ts op)) (valX k p n ts op m)
  | 0 => AllR.zero h.net.1 (by have := prodI_one fun d hd => (h.odims d hd).1; omega)
  | m + 1 => (ValOK.all m).put h.net.1 (h.at_k m).1 (h.at_k m).2 (addL_in h.net.1 ((ValOK.all m).el h.net.1 (h.at_k m).1 (h.at_k m).2) (h.weight m))
theorem ValOK.small (m : Nat) : (valX k p n ts op m).length ≤ 24576 := by
  have hw := width_range h.net.1; have := (h.all m).1; have h3 : prodI (dimsFor ts op) * widthI k n ≤ 4096 * 6 := Int.mul_le_mul (sizeI_ge.1 h.net.2.2.2.2).2 hw.2 (by omega) (by omega)
  omega
theorem ValOK.fits (m : Nat) : atI (dimOf ts) (labelsL ts) op m * widthI k n + widthI k n ≤ (valX k p n ts op m).length := by
  have hw := width_range h.net.1; have := (h.all m).1; have := (mul_room (show 0 ≤ widthI k n by omega) (h.at_k m).1 (h.at_k m).2).2
  omega
end
end Go.Proofs.YthlmjnihihbckaaGreat
